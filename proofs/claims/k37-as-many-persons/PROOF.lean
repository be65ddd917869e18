import PyProof.Rows.All
import Wide.All
import OpenK.AllK
import Wide.FinOn
import KE.KStateDown
import HandS.ForMost
import HandS.Head0
import HandS.Head1
import HandS.Head2
import HandS.HeadHook4
import HandS.HeadWalk
import HandS.EndTab
import KE.DataEq
import KE.DataFind
import KE.DataIsa
import KE.DataCmp
import KE.DataMinMax
import KE.DataAny
import KE.LtData
import KE.SortData
import KE.SortKeyHeap
import KE.KDictKeyed
import HandS.Defaults
import HandS.Nested
import HandS.Lambda
import HandS.Wide
import HandS.TupAny
import HandS.Zip
import HandS.IsInst
import HandS.Conv
import HandS.Comp
import HandS.Codes
import HandS.SetFor
import HandS.DictComp
import KE.KLam
import HandS.TupSets
import KE.KDictPairs
import HandS.Style
import KE.KRevSl
import PyProof.ReprRoads
import HandS.Star
import HandS.Strs
import KE.KExcSuper
import HandS.ExcInit
import HandS.ExcOwn
import KE.KExcIs
import HandS.TupMul
import HandS.Slots
import HandS.TupLe
import KE.GoesEnum
import HandS.More
import KE.KEqDict
import PyProof.DictFindH
import PySem.Challenge.RW_bestofall_k37_whole_as_many_persons_as_c
set_option Elab.async false
set_option linter.all false
set_option maxRecDepth 100000
section
set_option maxHeartbeats 4000000
/-! D1: data in the abstract heap, environments, stores, the judgements over data. -/
namespace B
open PySem PySem.Spec PyProof.Rows L2
/-! ### data that never changes -/
def kdat : Key → PyData
  | .inl i => .int i
  | .inr x => .str x
mutual
inductive Rp (K : PySem.W.Frag) (H : Hp) : V → PyData → Prop
  | non : Rp K H .non .none
  | bl (b : Bool) : Rp K H (.bl b) (.bool b)
  | int (i : Int) : Rp K H (.int i) (.int i)
  | str (x : Str) : Rp K H (.str x) (.str x)
  | lst {a : Addr} {o : Obj} {xs : List V} {ds : List PyData} : H a = some (.frz o (.lst xs)) → RpAll K H xs ds → Rp K H (.ref a) (.list ds)
  | tup {a : Addr} {xs : List V} {ds : List PyData} : H a = some (.tup xs) → RpAll K H xs ds → Rp K H (.ref a) (.tuple ds)
  | dct {a : Addr} {o : Obj} {kis : List (Key × Int)} {ds : List (PyData × PyData)} : H a = some (.frz o (.dK (kis.map fun q => (q.1, V.int q.2)))) → ds = kis.map (fun q => (kdat q.1, PyData.int q.2)) → Rp K H (.ref a) (.dict ds)
inductive RpAll (K : PySem.W.Frag) (H : Hp) : List V → List PyData → Prop
  | nil : RpAll K H [] []
  | cons {v : V} {vs : List V} {d : PyData} {ds : List PyData} : Rp K H v d → RpAll K H vs ds → RpAll K H (v :: vs) (d :: ds)
end
/-- what stays for ever -/
def Pers (H H' : Hp) : Prop := (∀ b xs, H b = some (.tup xs) → H' b = some (.tup xs)) ∧ (∀ b o u, H b = some (.frz o u) → H' b = some (.frz o u)) ∧ ∀ b φ, H b = some (.ext φ) → H' b = some (.ext φ)
theorem Pers.refl (H : Hp) : Pers H H := ⟨fun _ _ h => h, fun _ _ _ h => h, fun _ _ h => h⟩
theorem Pers.trans {H H1 H2 : Hp} (a : Pers H H1) (b : Pers H1 H2) : Pers H H2 := ⟨fun c xs h => b.1 c xs (a.1 c xs h), fun c o u h => b.2.1 c o u (a.2.1 c o u h), fun c φ h => b.2.2 c φ (a.2.2 c φ h)⟩
theorem Pers.of {H H' : Hp} (e : ∀ b o, H b = some o → H' b = some o) : Pers H H' := ⟨fun b xs h => e b _ h, fun b o u h => e b _ h, fun b φ h => e b _ h⟩
theorem new_keeps {H : Hp} {p : Addr} {o : HO} (h : H p = none) : ∀ b u, H b = some u → upd H p o b = some u := fun b u e => by
  rw [upd_ne (ne_of_none e h)]
  exact e
theorem Pers.new {H : Hp} {p : Addr} {o : HO} (h : H p = none) : Pers H (upd H p o) := .of (new_keeps h)
/-- a thing that may change is written -/
theorem Pers.put {H : Hp} {p : Addr} {o u : HO} (h : H p = some u) (h1 : ∀ xs, u ≠ .tup xs) (h2 : ∀ ob z, u ≠ .frz ob z) (h3 : ∀ φ, u ≠ .ext φ := by intro _ z; cases z) : Pers H (upd H p o) := by
  refine ⟨fun b xs e => ?_, fun b ob z e => ?_, fun b φ e => ?_⟩
  · rw [upd_ne (ne_of e h (fun q => h1 xs q.symm))]
    exact e
  · rw [upd_ne (ne_of e h (fun q => h2 ob z q.symm))]
    exact e
  · rw [upd_ne (ne_of e h (fun q => h3 φ q.symm))]
    exact e
mutual
theorem Rp.mono {K : PySem.W.Frag} {H H' : Hp} (p : Pers H H') : ∀ {v : V} {d : PyData}, Rp K H v d → Rp K H' v d
  | _, _, .non => .non
  | _, _, .bl b => .bl b
  | _, _, .int i => .int i
  | _, _, .str x => .str x
  | _, _, .lst h r => .lst (p.2.1 _ _ _ h) (RpAll.mono p r)
  | _, _, .tup h r => .tup (p.1 _ _ h) (RpAll.mono p r)
  | _, _, .dct h r => .dct (p.2.1 _ _ _ h) r
theorem RpAll.mono {K : PySem.W.Frag} {H H' : Hp} (p : Pers H H') : ∀ {vs : List V} {ds : List PyData}, RpAll K H vs ds → RpAll K H' vs ds
  | _, _, .nil => .nil
  | _, _, .cons h t => .cons (Rp.mono p h) (RpAll.mono p t)
end
section
variable {K : PySem.W.Frag} {H : Hp}
theorem RpAll.length : ∀ {vs : List V} {ds : List PyData}, RpAll K H vs ds → vs.length = ds.length
  | _, _, .nil => rfl
  | _, _, .cons _ t => by rw [List.length_cons, List.length_cons, RpAll.length t]
theorem RpAll.get : ∀ {vs : List V} {ds : List PyData} {i : Nat} {d : PyData}, RpAll K H vs ds → ds[i]? = some d → ∃ v, vs[i]? = some v ∧ Rp K H v d
  | _, _, _, _, .nil, e => by simp at e
  | _, _, 0, _, .cons r _, e => by simp at e; subst e; exact ⟨_, rfl, r⟩
  | _, _, i + 1, _, .cons _ t, e => by
    obtain ⟨v, h1, h2⟩ := RpAll.get (i := i) t (by simpa using e)
    exact ⟨v, by simpa using h1, h2⟩
theorem RpAll.append : ∀ {vs ws : List V} {ds es : List PyData}, RpAll K H vs ds → RpAll K H ws es → RpAll K H (vs ++ ws) (ds ++ es)
  | _, _, _, _, .nil, s => s
  | _, _, _, _, .cons r t, s => .cons r (RpAll.append t s)
theorem RpAll.take : ∀ {vs : List V} {ds : List PyData} (n : Nat), RpAll K H vs ds → RpAll K H (vs.take n) (ds.take n)
  | _, _, 0, _ => .nil
  | _, _, _ + 1, .nil => .nil
  | _, _, n + 1, .cons r t => .cons r (RpAll.take n t)
theorem RpAll.drop : ∀ {vs : List V} {ds : List PyData} (n : Nat), RpAll K H vs ds → RpAll K H (vs.drop n) (ds.drop n)
  | _, _, 0, r => r
  | _, _, _ + 1, .nil => .nil
  | _, _, n + 1, .cons _ t => RpAll.drop n t
theorem RpAll.reverse : ∀ {vs : List V} {ds : List PyData}, RpAll K H vs ds → RpAll K H vs.reverse ds.reverse
  | _, _, .nil => .nil
  | _, _, .cons r t => by
    rw [List.reverse_cons, List.reverse_cons]
    exact RpAll.append (RpAll.reverse t) (.cons r .nil)
theorem RpAll.ints {vs : List V} {ns : List Int} (h : RpAll K H vs (ns.map PyData.int)) : vs = ns.map V.int := by
  induction ns generalizing vs with
  | nil => cases h; rfl
  | cons n ns ih =>
    cases h with
    | cons r t => cases r; rw [ih t]; rfl
theorem RpAll.of_ints : ∀ ns : List Int, RpAll K H (ns.map V.int) (ns.map PyData.int)
  | [] => .nil
  | n :: ns => .cons (.int n) (RpAll.of_ints ns)
theorem RpAll.bls {vs : List V} {bs : List Bool} (h : RpAll K H vs (bs.map PyData.bool)) : vs = bs.map V.bl := by
  induction bs generalizing vs with
  | nil => cases h; rfl
  | cons n ns ih =>
    cases h with
    | cons r t => cases r; rw [ih t]; rfl
end
section
variable {X : Cx} {pins : List (Addr × Obj)} {σ : L2.St} {H : Hp} {s : Shared}
mutual
theorem Rp.reads (I : Inv X pins σ H s) : ∀ (d : PyData) (v : V) (u : Value), d.plain = true → Rp X.K H v d → RelV v u → ∃ as, Reads s.heap u d as
  | .none, _, _, _, h, r => by
    cases h
    cases r
    exact ⟨_, Reads.none⟩
  | .bool b, _, _, _, h, r => by
    cases h
    cases r
    exact ⟨_, Reads.bool b⟩
  | .int i, _, _, _, h, r => by
    cases h
    obtain ⟨t, rfl⟩ := r
    exact ⟨_, Reads.int i t⟩
  | .str x, _, _, _, h, r => by
    cases h
    obtain ⟨t, rfl⟩ := r
    exact ⟨_, Reads.str x t⟩
  | .list ds, _, _, hp, h, r => by
    cases h with
    | lst hs ha =>
      cases r
      obtain ⟨its, rv, ⟨o, n, ho, hc, _, hd⟩, _⟩ := I.list (.inl (.inr ⟨_, hs⟩))
      obtain ⟨as, hr⟩ := Rp.readsAll I ds _ its hp ha rv
      exact ⟨_, Reads.list ho hc hd hr⟩
  | .tuple ds, _, _, hp, h, r => by
    cases h with
    | tup hs ha =>
      cases r
      obtain ⟨its, rv, ⟨o, ho, hc, n, hd⟩, _⟩ := I.tuple (.inl (.inl hs))
      obtain ⟨as, hr⟩ := Rp.readsAll I ds _ its hp ha rv
      exact ⟨_, Reads.tuple ho hc hd hr⟩
  | .dict _, _, _, hp, _, _ => by cases hp
theorem Rp.readsAll (I : Inv X pins σ H s) : ∀ (ds : List PyData) (vs : List V) (us : List Value), PyData.plainAll ds = true → RpAll X.K H vs ds → Vals vs us → ∃ as, ReadsAll s.heap us ds as
  | [], _, _, _, h, r => by
    cases h
    cases r
    exact ⟨_, ReadsAll.nil⟩
  | d :: ds, _, _, hp, h, r => by
    obtain ⟨p1, p2⟩ := Bool.and_eq_true_iff.mp (show (d.plain && PyData.plainAll ds) = true from hp)
    cases h with
    | cons h1 h2 =>
      cases r with
      | cons r1 r2 =>
        obtain ⟨as, q1⟩ := Rp.reads I d _ _ p1 h1 r1
        obtain ⟨bs, q2⟩ := Rp.readsAll I ds _ _ p2 h2 r2
        exact ⟨_, ReadsAll.cons q1 q2⟩
end
end
/-! ### things of a name: data, or a value that is taken as it is -/
inductive G where
  | d (x : PyData)
  | op (v : V)
  /-- a tuple of a value taken as it is and data -/
  | pr (w : V) (x : PyData)
  /-- a dict that is read only from now on -/
  | fd (kvs : List (Key × PyData))
def RG (K : PySem.W.Frag) (H : Hp) (v : V) : G → Prop
  | .d x => Rp K H v x
  | .op w => v = w
  | .pr w x => ∃ t u, v = .ref t ∧ H t = some (.tup [w, u]) ∧ Rp K H u x
  | .fd kvs => ∃ a o vs, v = .ref a ∧ H a = some (.frz o (.dK vs)) ∧ Paired (fun (x : Key × V) (y : Key × PyData) => x.1 = y.1 ∧ Rp K H x.2 y.2) vs kvs
abbrev RGs (K : PySem.W.Frag) (H : Hp) : List V → List G → Prop := Paired (RG K H)
theorem RG.mono {K : PySem.W.Frag} {H H' : Hp} (p : Pers H H') {v : V} {g : G} (h : RG K H v g) : RG K H' v g := by
  cases g with
  | d x => exact Rp.mono p h
  | op w => exact h
  | pr w x =>
    obtain ⟨t, u, e, a, r⟩ := h
    exact ⟨t, u, e, p.1 _ _ a, Rp.mono p r⟩
  | fd kvs =>
    obtain ⟨a, o, vs, e, ha, r⟩ := h
    exact ⟨a, o, vs, e, p.2.1 _ _ _ ha, Paired.mapP r fun x y z => ⟨z.1, Rp.mono p z.2⟩⟩
theorem RGs.mono {K : PySem.W.Frag} {H H' : Hp} (p : Pers H H') : ∀ {vs : List V} {gs : List G}, RGs K H vs gs → RGs K H' vs gs
  | _, _, .nil => .nil
  | _, _, .cons r t => .cons (RG.mono p r) (RGs.mono p t)
theorem RGs.of_data {K : PySem.W.Frag} {H : Hp} : ∀ {vs : List V} {ds : List PyData}, RpAll K H vs ds → RGs K H vs (ds.map G.d)
  | _, _, .nil => .nil
  | _, _, .cons r t => .cons r (RGs.of_data t)
theorem RGs.data {K : PySem.W.Frag} {H : Hp} {ds : List PyData} : ∀ {vs : List V}, RGs K H vs (ds.map G.d) → RpAll K H vs ds := by
  induction ds with
  | nil => intro vs h; cases h; exact .nil
  | cons d ds ih =>
    intro vs h
    cases h with
    | cons r t => exact .cons r (ih t)
theorem RGs.append {K : PySem.W.Frag} {H : Hp} : ∀ {vs ws : List V} {ds es : List G}, RGs K H vs ds → RGs K H ws es → RGs K H (vs ++ ws) (ds ++ es)
  | _, _, _, _, .nil, s => s
  | _, _, _, _, .cons r t, s => .cons r (RGs.append t s)
theorem RGs.get {K : PySem.W.Frag} {H : Hp} : ∀ {vs : List V} {gs : List G} {i : Nat} {g : G}, RGs K H vs gs → gs[i]? = some g → ∃ v, vs[i]? = some v ∧ RG K H v g
  | _, _, _, _, .nil, e => by simp at e
  | _, _, 0, _, .cons r _, e => by simp at e; subst e; exact ⟨_, rfl, r⟩
  | _, _, i + 1, _, .cons _ t, e => by
    obtain ⟨v, h1, h2⟩ := RGs.get (i := i) t (by simpa using e)
    exact ⟨v, by simpa using h1, h2⟩
theorem RGs.set {K : PySem.W.Frag} {H : Hp} {v : V} {g : G} (r : RG K H v g) : ∀ {vs : List V} {gs : List G} (i : Nat), RGs K H vs gs → RGs K H (vs.set i v) (gs.set i g)
  | _, _, _, .nil => .nil
  | _, _, 0, .cons _ t => .cons r t
  | _, _, i + 1, .cons q t => .cons q (RGs.set r i t)
theorem RGs.length {K : PySem.W.Frag} {H : Hp} {vs : List V} {gs : List G} (h : RGs K H vs gs) : vs.length = gs.length := Paired.length h
/-! ### the store: what may change -/
inductive MO where
  /-- a list -/
  | lst (gs : List G)
  /-- a dict with int and text keys -/
  | dK (kvs : List (Key × G))
  /-- anything else, as it lies in the abstract heap -/
  | raw (o : HO)
  /-- something that is true of the abstract heap (a def of the frame's own, a table of code objects) -/
  | gen (φ : Hp → Prop)
  /-- a table of code objects, each of the name q -/
  | tab (q : Str)
def MO.wr : MO → Bool
  | .gen _ => false
  | .tab _ => false
  | _ => true
abbrev Sto := Addr → Option MO
/-- nothing else's description leans on such a thing -/
def Lone : HO → Prop
  | .lst _ => True
  | .dK _ => True
  | .dT _ => True
  | .set _ _ => True
  | .tbl _ => True
  | .ext _ => True
  | _ => False
def RawOk : HO → Prop
  | .dT _ => True
  | .set _ _ => True
  | _ => False
def MOk (K : PySem.W.Frag) (H : Hp) (p : Addr) : MO → Prop
  | .lst gs => ∃ vs, H p = some (.lst vs) ∧ RGs K H vs gs
  | .dK kvs => ∃ vs, H p = some (.dK vs) ∧ Paired (fun (a : Key × V) (b : Key × G) => a.1 = b.1 ∧ RG K H a.2 b.2) vs kvs
  | .raw o => H p = some o ∧ RawOk o
  | .gen φ => φ H ∧ (∃ u, H p = some u ∧ Lone u) ∧ ∀ H1 H2, Pers H1 H2 → H2 p = H1 p → φ H1 → φ H2
  | .tab q => LamX.TabS H p q
def Hold (K : PySem.W.Frag) (H : Hp) (M : Sto) : Prop := ∀ p o, M p = some o → MOk K H p o
theorem ok_ex {K : PySem.W.Frag} {H : Hp} {p : Addr} {o : MO} (h : MOk K H p o) : ∃ u, H p = some u := by
  cases o with
  | lst gs => obtain ⟨vs, e, _⟩ := h; exact ⟨_, e⟩
  | dK gs => obtain ⟨vs, e, _⟩ := h; exact ⟨_, e⟩
  | raw o => exact ⟨o, h.1⟩
  | gen φ => obtain ⟨u, e, _⟩ := h.2.1; exact ⟨u, e⟩
  | tab q => obtain ⟨ps, e, _⟩ := h; exact ⟨_, e⟩
theorem ok_wr {K : PySem.W.Frag} {H : Hp} {p : Addr} {o : MO} (h : MOk K H p o) (hw : o.wr = true) : ∃ u, H p = some u ∧ (∀ xs, u ≠ .tup xs) ∧ (∀ ob z, u ≠ .frz ob z) ∧ ∀ φ, u ≠ .ext φ := by
  cases o with
  | lst gs => obtain ⟨vs, e, _⟩ := h; exact ⟨_, e, (fun xs z => nomatch z), (fun ob z q => nomatch q), fun φ q => nomatch q⟩
  | dK gs => obtain ⟨vs, e, _⟩ := h; exact ⟨_, e, (fun xs z => nomatch z), (fun ob z q => nomatch q), fun φ q => nomatch q⟩
  | raw o =>
    refine ⟨o, h.1, fun xs z => ?_, fun ob x z => ?_, fun φ z => ?_⟩
    · have := h.2; rw [z] at this; exact this
    · have := h.2; rw [z] at this; exact this
    · have := h.2; rw [z] at this; exact this
  | gen φ => cases hw
  | tab q => cases hw
theorem MOk.mono {K : PySem.W.Frag} {H H' : Hp} (p : Pers H H') {a : Addr} {o : MO} (e : H' a = H a) (h : MOk K H a o) : MOk K H' a o := by
  cases o with
  | lst gs => obtain ⟨vs, q, r⟩ := h; exact ⟨vs, by rw [e, q], r.mono p⟩
  | dK gs => obtain ⟨vs, q, r⟩ := h; exact ⟨vs, by rw [e, q], Paired.mapP r fun _ _ z => ⟨z.1, z.2.mono p⟩⟩
  | raw o => exact ⟨by rw [e]; exact h.1, h.2⟩
  | gen φ => exact ⟨h.2.2 H H' p e h.1, by rw [e]; exact h.2.1, h.2.2⟩
  | tab q =>
    obtain ⟨ps, h1, h2, h3⟩ := h
    refine ⟨ps, by rw [e]; exact h1, h2, fun pos cv hc => ?_⟩
    obtain ⟨c, e1, e2⟩ := h3 pos cv hc
    exact ⟨c, e1, p.2.2 _ _ e2⟩
theorem Hold.keep {K : PySem.W.Frag} {H H' : Hp} {M : Sto} (h : Hold K H M) (k : ∀ b o, H b = some o → H' b = some o) : Hold K H' M := fun p o e => by
  obtain ⟨u, e1⟩ := ok_ex (h p o e)
  exact (h p o e).mono (.of k) (by rw [k _ _ e1, e1])
theorem Hold.fresh {K : PySem.W.Frag} {H : Hp} {M : Sto} (h : Hold K H M) {p : Addr} (e : H p = none) : M p = none := by
  cases q : M p with
  | none => rfl
  | some o =>
    obtain ⟨u, e1⟩ := ok_ex (h p o q)
    rw [e] at e1
    cases e1
def put (M : Sto) (p : Addr) (o : MO) : Sto := fun b => if b = p then some o else M b
theorem put_same {M : Sto} {p : Addr} {o : MO} : put M p o p = some o := if_pos rfl
theorem put_ne {M : Sto} {p b : Addr} {o : MO} (h : b ≠ p) : put M p o b = M b := if_neg h
theorem put_put {M : Sto} {p : Addr} {o u : MO} : put (put M p o) p u = put M p u := by
  funext b
  unfold put
  split <;> rfl
theorem put_comm {M : Sto} {p q : Addr} {o u : MO} (h : p ≠ q) : put (put M p o) q u = put (put M q u) p o := by
  funext b
  unfold put
  by_cases e : b = q
  · rw [if_pos e, if_neg (fun z => h (z.symm.trans e)), if_pos e]
  · rw [if_neg e, if_neg e]
def del (M : Sto) (p : Addr) : Sto := fun b => if b = p then none else M b
theorem del_put {M : Sto} {p : Addr} {o : MO} (h : M p = none) : del (put M p o) p = M := by
  funext b
  unfold del put
  by_cases e : b = p
  · rw [if_pos e, e, h]
  · rw [if_neg e, if_neg e]
/-- a new thing -/
theorem Hold.new {K : PySem.W.Frag} {H : Hp} {M : Sto} (h : Hold K H M) {p : Addr} {o : HO} {m : MO} (e : H p = none) (n : MOk K (upd H p o) p m) : Hold K (upd H p o) (put M p m) := fun b u q => by
  by_cases hb : b = p
  · subst hb
    rw [put_same] at q
    cases q
    exact n
  · rw [put_ne hb] at q
    exact (h.keep (new_keeps e)) b u q
/-- a thing of the store is written -/
theorem Hold.put {K : PySem.W.Frag} {H : Hp} {M : Sto} (h : Hold K H M) {p : Addr} {o : HO} {m m' : MO} (e : M p = some m) (n : MOk K (upd H p o) p m') (hw : m.wr = true := by rfl) : Pers H (upd H p o) ∧ Hold K (upd H p o) (put M p m') := by
  obtain ⟨u, e1, e2, e3, e4⟩ := ok_wr (h p m e) hw
  have pr : Pers H (upd H p o) := Pers.put e1 e2 e3 e4
  refine ⟨pr, fun b u q => ?_⟩
  by_cases hb : b = p
  · subst hb
    rw [put_same] at q
    cases q
    exact n
  · rw [put_ne hb] at q
    exact (h b u q).mono pr (upd_ne hb)
theorem Hold.weak {K : PySem.W.Frag} {H : Hp} {M M' : Sto} (h : Hold K H M) (k : ∀ p o, M' p = some o → M p = some o) : Hold K H M' := fun p o e => h p o (k p o e)
/-! ### environments -/
abbrev GEnv := List (Option G)
def REnv (K : PySem.W.Frag) (H : Hp) (σ : L2.St) (ρ : GEnv) : Prop := σ.length = ρ.length ∧ ∀ (i : Nat) (g : G), ρ[i]? = some (some g) → ∃ v, σ[i]? = some (some v) ∧ RG K H v g
theorem REnv.mono {K : PySem.W.Frag} {H H' : Hp} (p : Pers H H') {σ : L2.St} {ρ : GEnv} (h : REnv K H σ ρ) : REnv K H' σ ρ := ⟨h.1, fun i g e => by
  obtain ⟨v, a, b⟩ := h.2 i g e
  exact ⟨v, a, b.mono p⟩⟩
theorem REnv.set {K : PySem.W.Frag} {H : Hp} {σ : L2.St} {ρ : GEnv} {v : V} {g : G} (h : REnv K H σ ρ) (i : Nat) (r : RG K H v g) : REnv K H (σ.set i (some v)) (ρ.set i (some g)) := by
  refine ⟨by rw [List.length_set, List.length_set]; exact h.1, fun j g' e => ?_⟩
  by_cases hj : i = j
  · subst hj
    have hl : i < ρ.length := by
      have := (List.getElem?_eq_some_iff.mp e).1
      rw [List.length_set] at this
      exact this
    rw [List.getElem?_set_self hl] at e
    cases e
    exact ⟨v, by rw [List.getElem?_set_self (by rw [h.1]; exact hl)], r⟩
  · rw [List.getElem?_set_ne hj] at e ⊢
    exact h.2 j g' e
def wipeG (ρ : GEnv) : List Nat → GEnv
  | [] => ρ
  | v :: vs => (wipeG ρ vs).set v none
theorem wipeG_length (ρ : GEnv) : ∀ vs : List Nat, (wipeG ρ vs).length = ρ.length
  | [] => rfl
  | v :: vs => by
    show ((wipeG ρ vs).set v none).length = _
    rw [List.length_set, wipeG_length ρ vs]
theorem REnv.wiped {K : PySem.W.Frag} {H : Hp} {σ : L2.St} {ρ : GEnv} (h : REnv K H σ ρ) : ∀ vs : List Nat, REnv K H (L2.wipe σ vs) (wipeG ρ vs)
  | [] => h
  | v :: vs => by
    have ih := REnv.wiped h vs
    refine ⟨by rw [wipe_length, wipeG_length]; exact h.1, fun j g e => ?_⟩
    have e' : ((wipeG ρ vs).set v none)[j]? = some (some g) := e
    show ∃ w, ((L2.wipe σ vs).set v none)[j]? = some (some w) ∧ _
    by_cases hj : v = j
    · subst hj
      by_cases hl : v < (wipeG ρ vs).length
      · rw [List.getElem?_set_self hl] at e'
        cases e'
      · rw [List.getElem?_eq_none_iff.mpr (by rw [List.length_set]; omega)] at e'
        cases e'
    · rw [List.getElem?_set_ne hj] at e' ⊢
      exact ih.2 j g e'
/-! ### where code runs -/
structure Gam where
  P : Program
  w : World
  K : PySem.W.Frag
  mg : Str → Option Value
  base : Heap
  N : List Str
  sc : Scope
  lv : Nat
  asg : Str → Bool
  code : Option (Addr × Str)
  aux : Cx → Prop
/-- room, and no repr is under way -/
structure RoomG (k : Nat) (A : Around) : Prop extends Room k A where
  gd : A.guards = some []
theorem RoomG.mono {j k : Nat} {A : Around} (r : RoomG k A) (h : j ≤ k) : RoomG j A := ⟨r.toRoom.mono h, r.gd⟩
theorem RoomG.deeper {k : Nat} {A : Around} (r : RoomG (k + 1) A) (env : Env) : RoomG k (A.deeper env) := ⟨r.toRoom.deeper env, r.gd⟩
structure Gam.Fit (Γ : Gam) (X : Cx) : Prop where
  prog : X.prog = Γ.P
  w : X.w = Γ.w
  K : X.K = Γ.K
  mg : X.mg = Γ.mg
  base : X.base = Γ.base
  N : X.N = Γ.N
  sc : X.env.scope = Γ.sc
  calm : X.calm = true
  nd : X.N.Nodup
  room : RoomG Γ.lv X.A
  fn : ∀ x, Loc X.env.scope x → Γ.asg x = true → X.fn x = true ∨ X.env.scope.names.lookup x = some .local
  own : PassesOwn (model X.prog X.w) X.A X.env X.xe
  code : ∀ p, Γ.code = some p → X.env.code = .ref p.1 ∧ X.env.qual = p.2
  aux : ∀ pn xe, Γ.aux { X with pn := pn, xe := xe }
/-! ### the judgements -/
def tDE (K : PySem.W.Frag) (ρ : GEnv) (M : Sto) (Q : G → Sto → Prop) : TE := fun σ H Qv => REnv K H σ ρ ∧ Hold K H M ∧ ∀ v H' g M', Pers H H' → Hold K H' M' → RG K H' v g → Q g M' → Qv v H'
/-- an expression: from the environment ρ and the store M, to what Q says of its value and the store -/
structure DE (Γ : Gam) (e : Expr) (ρ : GEnv) (M : Sto) (Q : G → Sto → Prop) : Prop where
  run : ∀ X, Γ.Fit X → PE X e (tDE Γ.K ρ M Q)
def tAll (Γ : Gam) (e : Expr) : TE := fun σ H Qv => ∃ ρ M Q, DE Γ e ρ M Q ∧ tDE Γ.K ρ M Q σ H Qv
theorem pe_all {Γ : Gam} {X : Cx} (f : Γ.Fit X) (e : Expr) : PE X e (tAll Γ e) := ⟨fun pins s σ H Q I h => by
  obtain ⟨ρ, M, Q', d, h⟩ := h
  exact (d.run X f).run pins s σ H Q I h⟩
theorem PE.mono' {X : Cx} {e : Expr} {t t' : TE} (h : PE X e t) (k : ∀ σ H Q, t' σ H Q → t σ H Q) : PE X e t' := ⟨fun pins s σ H Q I q => h.run pins s σ H Q I (k σ H Q q)⟩
/-- from a rule of the layer -/
theorem DE.of {Γ : Gam} {e : Expr} {ρ : GEnv} {M : Sto} {Q : G → Sto → Prop} {t : Cx → TE} (h : ∀ X, Γ.Fit X → PE X e (t X))
    (k : ∀ X, Γ.Fit X → ∀ σ H Qv, REnv Γ.K H σ ρ → Hold Γ.K H M → (∀ v H' g M', Pers H H' → Hold Γ.K H' M' → RG Γ.K H' v g → Q g M' → Qv v H') → t X σ H Qv) : DE Γ e ρ M Q :=
  ⟨fun X f => PE.mono' (h X f) fun σ H Qv ⟨a, b, c⟩ => k X f σ H Qv a b c⟩
/-- the reading of a part -/
theorem all_of {Γ : Gam} {e : Expr} {ρ : GEnv} {M : Sto} {Q : G → Sto → Prop} (d : DE Γ e ρ M Q) {σ : L2.St} {H : Hp} {Qv : VK} (r : REnv Γ.K H σ ρ) (h : Hold Γ.K H M)
    (k : ∀ v H' g M', Pers H H' → REnv Γ.K H' σ ρ → Hold Γ.K H' M' → RG Γ.K H' v g → Q g M' → Qv v H') : tAll Γ e σ H Qv :=
  ⟨ρ, M, Q, d, r, h, fun v H' g M' p h' rg q => k v H' g M' p (r.mono p) h' rg q⟩
theorem DE.mono {Γ : Gam} {e : Expr} {ρ : GEnv} {M : Sto} {Q Q' : G → Sto → Prop} (d : DE Γ e ρ M Q) (k : ∀ g M', Q g M' → Q' g M') : DE Γ e ρ M Q' :=
  ⟨fun X f => PE.mono' (d.run X f) fun σ H Qv ⟨a, b, c⟩ => ⟨a, b, fun v H' g M' p h' rg q => c v H' g M' p h' rg (k g M' q)⟩⟩
/-- a pure expression: the very value, the store as it was -/
def PD (Γ : Gam) (e : Expr) (ρ : GEnv) (M : Sto) (g : G) : Prop := DE Γ e ρ M fun g' M' => g' = g ∧ M' = M
theorem PD.de {Γ : Gam} {e : Expr} {ρ : GEnv} {M : Sto} {g : G} {Q : G → Sto → Prop} (h : PD Γ e ρ M g) (q : Q g M) : DE Γ e ρ M Q := DE.mono h fun g' M' ⟨a, b⟩ => by
  rw [a, b]
  exact q
/-- tests -/
def tDT (K : PySem.W.Frag) (ρ : GEnv) (M : Sto) (Q : Bool → Sto → Prop) : TT := fun σ H Qv => REnv K H σ ρ ∧ Hold K H M ∧ ∀ b H' M', Pers H H' → Hold K H' M' → Q b M' → Qv b H'
structure DT (Γ : Gam) (e : Expr) (ρ : GEnv) (M : Sto) (Q : Bool → Sto → Prop) : Prop where
  run : ∀ X, Γ.Fit X → PT X e (tDT Γ.K ρ M Q)
structure DW (Γ : Gam) (e : Expr) (ρ : GEnv) (M : Sto) (Q : Bool → Sto → Prop) : Prop where
  run : ∀ X, Γ.Fit X → PW X e (tDT Γ.K ρ M Q)
theorem PT.mono' {X : Cx} {e : Expr} {t t' : TT} (h : PT X e t) (k : ∀ σ H Q, t' σ H Q → t σ H Q) : PT X e t' := ⟨fun pins s σ H Q I q => h.run pins s σ H Q I (k σ H Q q)⟩
theorem PW.mono' {X : Cx} {e : Expr} {t t' : TT} (h : PW X e t) (k : ∀ σ H Q, t' σ H Q → t σ H Q) : PW X e t' := ⟨fun wh pins s σ H Q I q => h.run wh pins s σ H Q I (k σ H Q q)⟩
def tAllT (Γ : Gam) (e : Expr) : TT := fun σ H Qv => ∃ ρ M Q, DT Γ e ρ M Q ∧ tDT Γ.K ρ M Q σ H Qv
theorem pt_all {Γ : Gam} {X : Cx} (f : Γ.Fit X) (e : Expr) : PT X e (tAllT Γ e) := ⟨fun pins s σ H Q I h => by
  obtain ⟨ρ, M, Q', d, h⟩ := h
  exact (d.run X f).run pins s σ H Q I h⟩
def tAllW (Γ : Gam) (e : Expr) : TT := fun σ H Qv => ∃ ρ M Q, DW Γ e ρ M Q ∧ tDT Γ.K ρ M Q σ H Qv
theorem pw_all {Γ : Gam} {X : Cx} (f : Γ.Fit X) (e : Expr) : PW X e (tAllW Γ e) := ⟨fun wh pins s σ H Q I h => by
  obtain ⟨ρ, M, Q', d, h⟩ := h
  exact (d.run X f).run wh pins s σ H Q I h⟩
theorem allT_of {Γ : Gam} {e : Expr} {ρ : GEnv} {M : Sto} {Q : Bool → Sto → Prop} (d : DT Γ e ρ M Q) {σ : L2.St} {H : Hp} {Qv : Bool → Hp → Prop} (r : REnv Γ.K H σ ρ) (h : Hold Γ.K H M)
    (k : ∀ v H' M', Pers H H' → REnv Γ.K H' σ ρ → Hold Γ.K H' M' → Q v M' → Qv v H') : tAllT Γ e σ H Qv :=
  ⟨ρ, M, Q, d, r, h, fun v H' M' p h' q => k v H' M' p (r.mono p) h' q⟩
theorem allW_of {Γ : Gam} {e : Expr} {ρ : GEnv} {M : Sto} {Q : Bool → Sto → Prop} (d : DW Γ e ρ M Q) {σ : L2.St} {H : Hp} {Qv : Bool → Hp → Prop} (r : REnv Γ.K H σ ρ) (h : Hold Γ.K H M)
    (k : ∀ v H' M', Pers H H' → REnv Γ.K H' σ ρ → Hold Γ.K H' M' → Q v M' → Qv v H') : tAllW Γ e σ H Qv :=
  ⟨ρ, M, Q, d, r, h, fun v H' M' p h' q => k v H' M' p (r.mono p) h' q⟩
theorem DT.mono {Γ : Gam} {e : Expr} {ρ : GEnv} {M : Sto} {Q Q' : Bool → Sto → Prop} (d : DT Γ e ρ M Q) (k : ∀ g M', Q g M' → Q' g M') : DT Γ e ρ M Q' :=
  ⟨fun X f => PT.mono' (d.run X f) fun σ H Qv ⟨a, b, c⟩ => ⟨a, b, fun v H' M' p h' q => c v H' M' p h' (k v M' q)⟩⟩
def PB (Γ : Gam) (e : Expr) (ρ : GEnv) (M : Sto) (b : Bool) : Prop := DT Γ e ρ M fun b' M' => b' = b ∧ M' = M
theorem PB.dt {Γ : Gam} {e : Expr} {ρ : GEnv} {M : Sto} {b : Bool} {Q : Bool → Sto → Prop} (h : PB Γ e ρ M b) (q : Q b M) : DT Γ e ρ M Q := DT.mono h fun g' M' ⟨a, b⟩ => by
  rw [a, b]
  exact q
/-- argument lists -/
def tDA (K : PySem.W.Frag) (ρ : GEnv) (M : Sto) (Q : List G → Sto → Prop) : TA := fun σ H Qv => REnv K H σ ρ ∧ Hold K H M ∧ ∀ vs H' gs M', Pers H H' → Hold K H' M' → RGs K H' vs gs → Q gs M' → Qv vs H'
structure DA (Γ : Gam) (es : List Expr) (ρ : GEnv) (M : Sto) (Q : List G → Sto → Prop) : Prop where
  run : ∀ X, Γ.Fit X → PA X es (tDA Γ.K ρ M Q)
theorem PA.mono' {X : Cx} {es : List Expr} {t t' : TA} (h : PA X es t) (k : ∀ σ H Q, t' σ H Q → t σ H Q) : PA X es t' := ⟨fun pos pins s σ H Q I q => h.run pos pins s σ H Q I (k σ H Q q)⟩
def tAllA (Γ : Gam) (es : List Expr) : TA := fun σ H Qv => ∃ ρ M Q, DA Γ es ρ M Q ∧ tDA Γ.K ρ M Q σ H Qv
theorem pa_all {Γ : Gam} {X : Cx} (f : Γ.Fit X) (es : List Expr) : PA X es (tAllA Γ es) := ⟨fun pos pins s σ H Q I h => by
  obtain ⟨ρ, M, Q', d, h⟩ := h
  exact (d.run X f).run pos pins s σ H Q I h⟩
theorem allA_of {Γ : Gam} {es : List Expr} {ρ : GEnv} {M : Sto} {Q : List G → Sto → Prop} (d : DA Γ es ρ M Q) {σ : L2.St} {H : Hp} {Qv : List V → Hp → Prop} (r : REnv Γ.K H σ ρ) (h : Hold Γ.K H M)
    (k : ∀ vs H' gs M', Pers H H' → REnv Γ.K H' σ ρ → Hold Γ.K H' M' → RGs Γ.K H' vs gs → Q gs M' → Qv vs H') : tAllA Γ es σ H Qv :=
  ⟨ρ, M, Q, d, r, h, fun v H' g M' p h' rg q => k v H' g M' p (r.mono p) h' rg q⟩
theorem da_nil {Γ : Gam} {ρ : GEnv} {M : Sto} {Q : List G → Sto → Prop} (q : Q [] M) : DA Γ [] ρ M Q :=
  ⟨fun X f => PA.mono' pa_nil fun σ H Qv ⟨a, b, c⟩ => c [] H [] M (.refl H) b .nil q⟩
theorem da_cons {Γ : Gam} {e : Expr} {es : List Expr} {ρ : GEnv} {M : Sto} {Q : List G → Sto → Prop} (h : DE Γ e ρ M fun g M1 => DA Γ es ρ M1 fun gs M2 => Q (g :: gs) M2)
    (hs : ∀ env, starEach (e :: es) env = (false, eval e env) :: starEach es env := by intro _; rfl) : DA Γ (e :: es) ρ M Q :=
  ⟨fun X f => PA.mono' (pa_cons (pe_all f e) (pa_all f es) (hs _)) fun σ H Qv ⟨a, b, c⟩ => all_of h a b fun v H1 g M1 p1 r1 h1 rg1 d =>
    allA_of d r1 h1 fun vs H2 gs M2 p2 r2 h2 rg2 q => c (v :: vs) H2 (g :: gs) M2 (p1.trans p2) h2 (.cons (rg1.mono p2) rg2) q⟩
/-- statements -/
structure DEnds where
  nx : GEnv → Sto → Prop
  rt : G → Sto → Prop
  bk : GEnv → Sto → Prop := fun _ _ => False
  ct : GEnv → Sto → Prop := fun _ _ => False
structure EndsOk (K : PySem.W.Frag) (H : Hp) (D : DEnds) (E : Ends) : Prop where
  nx : ∀ σ' H' ρ' M', Pers H H' → REnv K H' σ' ρ' → Hold K H' M' → D.nx ρ' M' → E.nx σ' H'
  rt : ∀ v H' g M', Pers H H' → Hold K H' M' → RG K H' v g → D.rt g M' → E.rt v H'
  bk : ∀ σ' H' ρ' M', Pers H H' → REnv K H' σ' ρ' → Hold K H' M' → D.bk ρ' M' → E.bk σ' H'
  ct : ∀ σ' H' ρ' M', Pers H H' → REnv K H' σ' ρ' → Hold K H' M' → D.ct ρ' M' → E.ct σ' H'
theorem EndsOk.later {K : PySem.W.Frag} {H H1 : Hp} {D : DEnds} {E : Ends} (p : Pers H H1) (k : EndsOk K H D E) : EndsOk K H1 D E :=
  ⟨fun a b c d q => k.nx a b c d (p.trans q), fun a b c d q => k.rt a b c d (p.trans q), fun a b c d q => k.bk a b c d (p.trans q), fun a b c d q => k.ct a b c d (p.trans q)⟩
def tDS (K : PySem.W.Frag) (ρ : GEnv) (M : Sto) (D : DEnds) : TS := fun E σ H => REnv K H σ ρ ∧ Hold K H M ∧ EndsOk K H D E
structure D1 (Γ : Gam) (st : Stmt) (ρ : GEnv) (M : Sto) (D : DEnds) : Prop where
  run : ∀ X, Γ.Fit X → PS X st (tDS Γ.K ρ M D)
structure DS (Γ : Gam) (sts : List Stmt) (ρ : GEnv) (M : Sto) (D : DEnds) : Prop where
  run : ∀ X, Γ.Fit X → PSs X sts (tDS Γ.K ρ M D)
theorem PS.mono' {X : Cx} {st : Stmt} {t t' : TS} (h : PS X st t) (k : ∀ D σ H, t' D σ H → t D σ H) : PS X st t' := ⟨fun pins s σ H D I q => h.run pins s σ H D I (k D σ H q)⟩
theorem PSs.mono' {X : Cx} {st : List Stmt} {t t' : TS} (h : PSs X st t) (k : ∀ D σ H, t' D σ H → t D σ H) : PSs X st t' := ⟨fun pins s σ H D I q => h.run pins s σ H D I (k D σ H q)⟩
def tAllS (Γ : Gam) (sts : List Stmt) : TS := fun E σ H => ∃ ρ M D, DS Γ sts ρ M D ∧ tDS Γ.K ρ M D E σ H
theorem pss_all {Γ : Gam} {X : Cx} (f : Γ.Fit X) (sts : List Stmt) : PSs X sts (tAllS Γ sts) := ⟨fun pins s σ H E I h => by
  obtain ⟨ρ, M, D, d, h⟩ := h
  exact (d.run X f).run pins s σ H E I h⟩
theorem ds_nil {Γ : Gam} {ρ : GEnv} {M : Sto} {D : DEnds} (q : D.nx ρ M) : DS Γ [] ρ M D :=
  ⟨fun X f => PSs.mono' pss_nil fun E σ H ⟨a, b, c⟩ => c.nx σ H ρ M (.refl H) a b q⟩
theorem ds_cons {Γ : Gam} {st : Stmt} {sts : List Stmt} {ρ : GEnv} {M : Sto} {D : DEnds} (h : D1 Γ st ρ M { D with nx := fun ρ1 M1 => DS Γ sts ρ1 M1 D }) : DS Γ (st :: sts) ρ M D :=
  ⟨fun X f => PSs.mono' (pss_cons (h.run X f) (pss_all f sts)) fun E σ H ⟨a, b, c⟩ => ⟨a, b,
    ⟨fun σ' H' ρ' M' p r h' d => ⟨ρ', M', D, d, r, h', c.later p⟩, c.rt, c.bk, c.ct⟩⟩⟩
/-- all but a store as it is told -/
theorem DS.weak {Γ : Gam} {sts : List Stmt} {ρ : GEnv} {M M' : Sto} {D : DEnds} (d : DS Γ sts ρ M' D) (k : ∀ p o, M' p = some o → M p = some o) : DS Γ sts ρ M D :=
  ⟨fun X f => PSs.mono' (d.run X f) fun E σ H ⟨a, b, c⟩ => ⟨a, b.weak k, c⟩⟩
theorem DE.weak {Γ : Gam} {e : Expr} {ρ : GEnv} {M M' : Sto} {Q : G → Sto → Prop} (d : DE Γ e ρ M' Q) (k : ∀ p o, M' p = some o → M p = some o) : DE Γ e ρ M Q :=
  ⟨fun X f => PE.mono' (d.run X f) fun σ H Qv ⟨a, b, c⟩ => ⟨a, b.weak k, c⟩⟩
end B
end
section
set_option maxHeartbeats 4000000
/-! D2: expressions over data. -/
namespace B
open PySem PySem.Spec PyProof.Rows L2
theorem rgd {K : PySem.W.Frag} {H : Hp} {v : V} {x : PyData} (h : Rp K H v x) : RG K H v (.d x) := h
section
variable {Γ : Gam} {ρ : GEnv} {M : Sto}
/-! ### names and constants -/
theorem pd_var (i : Nat) {x : Str} {pos : Pos} {g : G} (hN : Γ.N[i]? = some x := by rfl) (hg : ρ[i]? = some (some g) := by rfl) (hv : Vis Γ.sc x := by first | exact Or.inl rfl | exact Or.inr (Or.inl rfl) | exact Or.inr (Or.inr rfl))
    (hd : (x == ("__debug__" : Str)) = false := by decide) (hcd : (x == ("__classdict__" : Str)) = false := by decide) : PD Γ (.Name x pos) ρ M g :=
  DE.of (fun X f => pe_var (i := i) (by rw [f.N]; exact hN) (by rw [f.sc]; exact hv) hd hcd) fun X f σ H Qv r h k => by
    obtain ⟨v, e, rg⟩ := r.2 i g hg
    exact ⟨v, e, k v H g M (.refl H) h rg ⟨rfl, rfl⟩⟩
theorem pd_int {i j pos} : PD Γ (.Constant (.int i) j pos) ρ M (.d (.int i)) := DE.of (fun X f => pe_int) fun X f σ H Qv r h k => k _ H _ M (.refl H) h (rgd (Rp.int i)) ⟨rfl, rfl⟩
theorem pd_bl {b j pos} : PD Γ (.Constant (.bool b) j pos) ρ M (.d (.bool b)) := DE.of (fun X f => pe_bl) fun X f σ H Qv r h k => k _ H _ M (.refl H) h (rgd (Rp.bl b)) ⟨rfl, rfl⟩
theorem pd_non {j pos} : PD Γ (.Constant .none j pos) ρ M (.d .none) := DE.of (fun X f => pe_non) fun X f σ H Qv r h k => k _ H _ M (.refl H) h (rgd Rp.non) ⟨rfl, rfl⟩
theorem pd_str {x j pos} : PD Γ (.Constant (.str x) j pos) ρ M (.d (.str x)) := DE.of (fun X f => pe_str) fun X f σ H Qv r h k => k _ H _ M (.refl H) h (rgd (Rp.str x)) ⟨rfl, rfl⟩
/-- a global name of the def -/
def GlD (Γ : Gam) (x : Str) : Prop := Γ.sc.names.lookup x = some .globalImplicit
theorem GlD.gl {X : Cx} (f : Γ.Fit X) {x : Str} (h : GlD Γ x) : Gl X x := by
  show X.env.scope.names.lookup x = _
  rw [f.sc]
  exact h
theorem pd_glob {x : Str} {v : V} {u : Value} {g : G} {pos : Pos} (hm : Γ.mg x = some u) (r : RelV v u) (q : ∀ H, RG Γ.K H v g) (hg : GlD Γ x := by rfl) (hd : (x == ("__debug__" : Str)) = false := by decide) : PD Γ (.Name x pos) ρ M g :=
  DE.of (fun X f => pe_glob (GlD.gl f hg) (by rw [f.mg]; exact hm) r hd) fun X f σ H Qv r' h k => k v H g M (.refl H) h (q H) ⟨rfl, rfl⟩
theorem pd_globI {x : Str} {i : Int} {t : Tok} {pos : Pos} (hm : Γ.mg x = some (.int i t)) (hg : GlD Γ x := by rfl) (hd : (x == ("__debug__" : Str)) = false := by decide) : PD Γ (.Name x pos) ρ M (.d (.int i)) := pd_glob (v := .int i) hm ⟨t, rfl⟩ (fun _ => Rp.int i) hg hd
/-- a built-in class as a value -/
theorem pd_ty {x : Str} {n : String} {pos : Pos} (hm : Γ.mg x = none) (hv : bootBuiltins x = some (.type n)) (hg : GlD Γ x := by rfl) (hn : x ≠ "__name__" := by decide) (hd : (x == ("__debug__" : Str)) = false := by decide) : PD Γ (.Name x pos) ρ M (.op (.ty n)) :=
  DE.of (fun X f => pe_bltn (v := .ty n) (GlD.gl f hg) (by rw [f.mg]; exact hm) hv rfl hn hd) fun X f σ H Qv r h k => k (.ty n) H (.op (.ty n)) M (.refl H) h rfl ⟨rfl, rfl⟩
/-! ### operators -/
abbrev O1 := G → Sto → (G → Sto → Prop) → Prop
abbrev O2 := G → G → Sto → (G → Sto → Prop) → Prop
abbrev ON := List G → Sto → (G → Sto → Prop) → Prop
def KOk (K : PySem.W.Frag) (H : Hp) (Q : G → Sto → Prop) (Qv : VK) : Prop := ∀ v H' g M', Pers H H' → Hold K H' M' → RG K H' v g → Q g M' → Qv v H'
theorem KOk.later {K : PySem.W.Frag} {H H1 : Hp} {Q : G → Sto → Prop} {Qv : VK} (p : Pers H H1) (k : KOk K H Q Qv) : KOk K H1 Q Qv := fun v H' g M' q => k v H' g M' (p.trans q)
theorem KOk.here {K : PySem.W.Frag} {H : Hp} {Q : G → Sto → Prop} {Qv : VK} (k : KOk K H Q Qv) {v : V} {g : G} {M : Sto} (h : Hold K H M) (r : RG K H v g) (q : Q g M) : Qv v H := k v H g M (.refl H) h r q
def up1 (K : PySem.W.Frag) (o : O1) : V → Hp → VK → Prop := fun vx H Qv => ∃ x M Q, RG K H vx x ∧ Hold K H M ∧ o x M Q ∧ KOk K H Q Qv
def up2 (K : PySem.W.Frag) (o : O2) : R2 := fun vx vy H Qv => ∃ x y M Q, RG K H vx x ∧ RG K H vy y ∧ Hold K H M ∧ o x y M Q ∧ KOk K H Q Qv
def upN (K : PySem.W.Frag) (o : ON) : List V → Hp → VK → Prop := fun vs H Qv => ∃ xs M Q, RGs K H vs xs ∧ Hold K H M ∧ o xs M Q ∧ KOk K H Q Qv
def Op1 (Γ : Gam) (f : Value → Sem Value) (o : O1) : Prop := ∀ X, Γ.Fit X → UnR X f (up1 Γ.K o)
def Op2 (Γ : Gam) (f : Value → Value → Sem Value) (o : O2) : Prop := ∀ X, Γ.Fit X → OpR X f (up2 Γ.K o)
def OpN (Γ : Gam) (f : Value) (o : ON) : Prop := ∀ X, Γ.Fit X → CallR X f (upN Γ.K o)
theorem OpR.mono' {X : Cx} {f : Value → Value → Sem Value} {r r' : R2} (h : OpR X f r) (k : ∀ x y H Q, r' x y H Q → r x y H Q) : OpR X f r' := fun pins s σ H x y v u Q I rx ry q => h pins s σ H x y v u Q I rx ry (k x y H Q q)
theorem CallR.mono' {X : Cx} {f : Value} {r r' : List V → Hp → VK → Prop} (h : CallR X f r) (k : ∀ xs H Q, r' xs H Q → r xs H Q) : CallR X f r' := fun pins s σ H xs us Q I r q => h pins s σ H xs us Q I r (k xs H Q q)
variable {Q : G → Sto → Prop} {a b c : Expr} {pos : Pos}
theorem de_bin {op : Operator} {o : O2} (ho : Op2 Γ (binaryOp op) o) (h : DE Γ a ρ M fun x M1 => DE Γ b ρ M1 fun y M2 => o x y M2 Q) : DE Γ (.BinOp a op b pos) ρ M Q :=
  DE.of (fun X f => pe_op (ho X f) (pe_all f a) (pe_all f b)) fun X f σ H Qv r h0 k => all_of h r h0 fun v H1 x M1 p1 r1 h1 rx d =>
    all_of d r1 h1 fun u H2 y M2 p2 r2 h2 ry q => ⟨x, y, M2, Q, rx.mono p2, ry, h2, q, KOk.later (p1.trans p2) k⟩
theorem pd_bin {op : Operator} {o : O2} {x y z : G} (ho : Op2 Γ (binaryOp op) o) (ha : PD Γ a ρ M x) (hb : PD Γ b ρ M y) (q : o x y M fun g M' => g = z ∧ M' = M) : PD Γ (.BinOp a op b pos) ρ M z :=
  de_bin ho (PD.de ha (PD.de hb q))
theorem de_un {op : UnaryOp} {o : O1} (ho : Op1 Γ (unaryOp op) o) (h : DE Γ a ρ M fun x M1 => o x M1 Q) : DE Γ (.UnaryOp op a pos) ρ M Q :=
  DE.of (fun X f => pe_un (ho X f) (pe_all f a)) fun X f σ H Qv r h0 k => all_of h r h0 fun v H1 x M1 p1 r1 h1 rx q => ⟨x, M1, Q, rx, h1, q, KOk.later p1 k⟩
theorem pd_un {op : UnaryOp} {o : O1} {x z : G} (ho : Op1 Γ (unaryOp op) o) (ha : PD Γ a ρ M x) (q : o x M fun g M' => g = z ∧ M' = M) : PD Γ (.UnaryOp op a pos) ρ M z := de_un ho (PD.de ha q)
theorem de_cmp {op : CmpOp} {o : O2} (ho : Op2 Γ (compareOp op) o) (h : DE Γ a ρ M fun x M1 => DE Γ b ρ M1 fun y M2 => o x y M2 Q) (hm : behindInMarks op b = false := by first | rfl | exact nomark _) : DE Γ (.Compare a [op] [b] pos) ρ M Q :=
  DE.of (fun X f => pe_cmpR (ho X f) (pe_all f a) (pe_all f b) hm) fun X f σ H Qv r h0 k => all_of h r h0 fun v H1 x M1 p1 r1 h1 rx d =>
    all_of d r1 h1 fun u H2 y M2 p2 r2 h2 ry q => ⟨x, y, M2, Q, rx.mono p2, ry, h2, q, KOk.later (p1.trans p2) k⟩
theorem pd_cmp {op : CmpOp} {o : O2} {x y z : G} (ho : Op2 Γ (compareOp op) o) (ha : PD Γ a ρ M x) (hb : PD Γ b ρ M y) (q : o x y M fun g M' => g = z ∧ M' = M) (hm : behindInMarks op b = false := by first | rfl | exact nomark _) : PD Γ (.Compare a [op] [b] pos) ρ M z :=
  de_cmp ho (PD.de ha (PD.de hb q)) hm
/-- a < b < c, of things that are there -/
theorem pd_chain {op op' : CmpOp} {o o' : O2} {x y z : G} {k1 k2 : Bool} (ho : Op2 Γ (compareOp op) o) (ho' : Op2 Γ (compareOp op') o') (ha : PD Γ a ρ M x) (hb : PD Γ b ρ M y) (hc : PD Γ c ρ M z)
    (q : o x y M fun g M' => g = .d (.bool k1) ∧ M' = M) (q' : k1 = true → o' y z M fun g M' => g = .d (.bool k2) ∧ M' = M) (hm : lastMarks [op, op'] [b, c] = false := by with_unfolding_all rfl) : PD Γ (.Compare a [op, op'] [b, c] pos) ρ M (.d (.bool (k1 && k2))) :=
  DE.of (fun X f => pe_chain (ho X f) (ho' X f) (pe_all f a) (pe_all f b) (pe_all f c) hm) fun X f σ H Qv r h0 k => all_of ha r h0 fun v H1 x' M1 p1 r1 h1 rx ⟨e1, e2⟩ => by
    subst e1 e2
    refine all_of hb r1 h1 fun u H2 y' M2 p2 r2 h2 ry ⟨e1, e2⟩ => ?_
    subst e1 e2
    refine ⟨_, _, M2, _, rx.mono p2, ry, h2, q, fun v3 H3 g3 M3 p3 h3 rg3 ⟨e1, e2⟩ => ?_⟩
    subst e1 e2
    cases k1 with
    | false =>
      cases rg3
      exact ⟨false, rfl, iteF (k (.bl false) H3 _ M3 (p1.trans (p2.trans p3)) h3 (rgd (Rp.bl false)) ⟨rfl, rfl⟩)⟩
    | true =>
      cases rg3
      refine ⟨true, rfl, iteT (all_of hc (r2.mono p3) h3 fun v4 H4 z' M4 p4 r4 h4 rz ⟨e1, e2⟩ => ?_)⟩
      subst e1 e2
      exact ⟨_, _, M4, _, (ry.mono p3).mono p4, rz, h4, q' rfl, fun v5 H5 g5 M5 p5 h5 rg5 ⟨e1, e2⟩ => k v5 H5 g5 M5 (p1.trans (p2.trans (p3.trans (p4.trans p5)))) h5 rg5 ⟨by rw [e1, Bool.true_and], e2⟩⟩
/-! ### truth -/
theorem dt_val {Q : Bool → Sto → Prop} (h : DE Γ a ρ M fun x M1 => ∃ k, x = .d (.bool k) ∧ Q k M1) (he : ∀ env whole, isTrue a env whole = (do let v ← whole; standAt a.pos; holding [v] (truthy v)) := by intro _ _; rfl) : DT Γ a ρ M Q :=
  ⟨fun X f => PT.mono' (pt_val (pe_all f a) (he _)) fun σ H Qv ⟨r, h0, k⟩ => all_of h r h0 fun v H1 x M1 p1 r1 h1 rx ⟨c, e, q⟩ => by
    subst e
    cases rx
    exact ⟨c, rfl, k c H1 M1 p1 h1 q⟩⟩
theorem pb_val {k : Bool} (h : PD Γ a ρ M (.d (.bool k))) (he : ∀ env whole, isTrue a env whole = (do let v ← whole; standAt a.pos; holding [v] (truthy v)) := by intro _ _; rfl) : PB Γ a ρ M k :=
  dt_val (PD.de h ⟨k, rfl, rfl, rfl⟩) he
theorem dt_cmp {Q : Bool → Sto → Prop} {op : CmpOp} {o : O2} (ho : Op2 Γ (compareOp op) o) (h : DE Γ a ρ M fun x M1 => DE Γ b ρ M1 fun y M2 => o x y M2 fun z M3 => ∃ k, z = .d (.bool k) ∧ Q k M3) (hm : behindInMarks op b = false := by first | rfl | exact nomark _) : DT Γ (.Compare a [op] [b] pos) ρ M Q :=
  ⟨fun X f => PT.mono' (pt_cmpR (ho X f) (pe_all f a) (pe_all f b) hm) fun σ H Qv ⟨r, h0, k⟩ => all_of h r h0 fun v H1 x M1 p1 r1 h1 rx d =>
    all_of d r1 h1 fun u H2 y M2 p2 r2 h2 ry q => ⟨x, y, M2, _, rx.mono p2, ry, h2, q, fun v3 H3 g3 M3 p3 h3 rg3 ⟨c, e, q3⟩ => by
      subst e
      cases rg3
      exact ⟨c, rfl, k c H3 M3 (p1.trans (p2.trans p3)) h3 q3⟩⟩⟩
theorem pb_cmp {op : CmpOp} {o : O2} {x y : G} {k : Bool} (ho : Op2 Γ (compareOp op) o) (ha : PD Γ a ρ M x) (hb : PD Γ b ρ M y) (q : o x y M fun g M' => g = .d (.bool k) ∧ M' = M) (hm : behindInMarks op b = false := by first | rfl | exact nomark _) : PB Γ (.Compare a [op] [b] pos) ρ M k :=
  ⟨fun X f => PT.mono' (pt_cmpR (ho X f) (pe_all f a) (pe_all f b) hm) fun σ H Qv ⟨r, h0, kk⟩ => all_of ha r h0 fun v H1 x' M1 p1 r1 h1 rx ⟨e1, e2⟩ => by
    subst e1 e2
    refine all_of hb r1 h1 fun u H2 y' M2 p2 r2 h2 ry ⟨e1, e2⟩ => ?_
    subst e1 e2
    refine ⟨_, _, M2, _, rx.mono p2, ry, h2, q, fun v3 H3 g3 M3 p3 h3 rg3 ⟨e1, e2⟩ => ?_⟩
    subst e1 e2
    cases rg3
    exact ⟨k, rfl, kk k H3 M3 (p1.trans (p2.trans p3)) h3 ⟨rfl, rfl⟩⟩⟩
/-- not -/
theorem dt_not {Q : Bool → Sto → Prop} (h : DT Γ a ρ M fun k M1 => Q (!k) M1) : DT Γ (.UnaryOp .Not a pos) ρ M Q :=
  ⟨fun X f => PT.mono' (pt_not (pt_all f a)) fun σ H Qv ⟨r, h0, k⟩ => allT_of h r h0 fun v H1 M1 p1 r1 h1 q => k _ H1 M1 p1 h1 q⟩
theorem pb_not {k : Bool} (h : PB Γ a ρ M k) : PB Γ (.UnaryOp .Not a pos) ρ M (!k) := dt_not (PB.dt h ⟨rfl, rfl⟩)
theorem DW.dt {Q : Bool → Sto → Prop} (h : DW Γ a ρ M Q) : DT Γ a ρ M Q := ⟨fun X f => (h.run X f).pt⟩
def PW' (Γ : Gam) (e : Expr) (ρ : GEnv) (M : Sto) (b : Bool) : Prop := DW Γ e ρ M fun b' M' => b' = b ∧ M' = M
theorem PW'.pb {k : Bool} (h : PW' Γ a ρ M k) : PB Γ a ρ M k := DW.dt h
variable {rest : List Expr}
theorem dw_and1 {Q : Bool → Sto → Prop} (h : DT Γ a ρ M Q) : DW Γ (.BoolOp .And [a] pos) ρ M Q := ⟨fun X f => pw_and1 (h.run X f)⟩
theorem dw_or1 {Q : Bool → Sto → Prop} (h : DT Γ a ρ M Q) : DW Γ (.BoolOp .Or [a] pos) ρ M Q := ⟨fun X f => pw_or1 (h.run X f)⟩
theorem dw_and {Q : Bool → Sto → Prop} (h : DT Γ a ρ M fun k M1 => if k = true then DW Γ (.BoolOp .And (b :: rest) pos) ρ M1 Q else Q false M1) : DW Γ (.BoolOp .And (a :: b :: rest) pos) ρ M Q :=
  ⟨fun X f => PW.mono' (pw_and (pt_all f a) (pw_all f _)) fun σ H Qv ⟨r, h0, k⟩ => allT_of h r h0 fun v H1 M1 p1 r1 h1 q => by
    cases v with
    | true => exact iteT (allW_of (by simpa using q) r1 h1 fun v2 H2 M2 p2 r2 h2 q2 => k v2 H2 M2 (p1.trans p2) h2 q2)
    | false => exact iteF (k false H1 M1 p1 h1 (by simpa using q))⟩
theorem dw_or {Q : Bool → Sto → Prop} (h : DT Γ a ρ M fun k M1 => if k = true then Q true M1 else DW Γ (.BoolOp .Or (b :: rest) pos) ρ M1 Q) : DW Γ (.BoolOp .Or (a :: b :: rest) pos) ρ M Q :=
  ⟨fun X f => PW.mono' (pw_or (pt_all f a) (pw_all f _)) fun σ H Qv ⟨r, h0, k⟩ => allT_of h r h0 fun v H1 M1 p1 r1 h1 q => by
    cases v with
    | false => exact iteF (allW_of (by simpa using q) r1 h1 fun v2 H2 M2 p2 r2 h2 q2 => k v2 H2 M2 (p1.trans p2) h2 q2)
    | true => exact iteT (k true H1 M1 p1 h1 (by simpa using q))⟩
theorem pw_and1' {k : Bool} (h : PB Γ a ρ M k) : PW' Γ (.BoolOp .And [a] pos) ρ M k := dw_and1 h
theorem pw_or1' {k : Bool} (h : PB Γ a ρ M k) : PW' Γ (.BoolOp .Or [a] pos) ρ M k := dw_or1 h
theorem pw_and' {k l : Bool} (h : PB Γ a ρ M k) (h2 : k = true → PW' Γ (.BoolOp .And (b :: rest) pos) ρ M l) : PW' Γ (.BoolOp .And (a :: b :: rest) pos) ρ M (k && l) := dw_and (PB.dt h (by
  cases k with
  | true => exact iteT (by have := h2 rfl; rw [Bool.true_and]; exact this)
  | false => exact iteF ⟨rfl, rfl⟩))
theorem pw_or' {k l : Bool} (h : PB Γ a ρ M k) (h2 : k = false → PW' Γ (.BoolOp .Or (b :: rest) pos) ρ M l) : PW' Γ (.BoolOp .Or (a :: b :: rest) pos) ρ M (k || l) := dw_or (PB.dt h (by
  cases k with
  | false => exact iteF (by have := h2 rfl; rw [Bool.false_or]; exact this)
  | true => exact iteT ⟨rfl, rfl⟩))
/-- .. as values -/
theorem de_one {op} (h : DE Γ a ρ M Q) : DE Γ (.BoolOp op [a] pos) ρ M Q := ⟨fun X f => pe_one (h.run X f)⟩
theorem de_and (h : DE Γ a ρ M fun x M1 => ∃ k, x = .d (.bool k) ∧ if k = true then DE Γ (.BoolOp .And (b :: rest) pos) ρ M1 Q else Q (.d (.bool false)) M1) : DE Γ (.BoolOp .And (a :: b :: rest) pos) ρ M Q :=
  DE.of (fun X f => pe_and (pe_all f a) (pe_all f _)) fun X f σ H Qv r h0 k => all_of h r h0 fun v H1 x M1 p1 r1 h1 rx ⟨c, e, q⟩ => by
    subst e
    cases rx
    refine ⟨c, rfl, ?_⟩
    cases c with
    | true => exact iteT (all_of (by simpa using q) r1 h1 fun v2 H2 g2 M2 p2 r2 h2 rg2 q2 => k v2 H2 g2 M2 (p1.trans p2) h2 rg2 q2)
    | false => exact iteF (k _ H1 _ M1 p1 h1 (rgd (Rp.bl false)) (by simpa using q))
theorem de_or (h : DE Γ a ρ M fun x M1 => ∃ k, x = .d (.bool k) ∧ if k = true then Q (.d (.bool true)) M1 else DE Γ (.BoolOp .Or (b :: rest) pos) ρ M1 Q) : DE Γ (.BoolOp .Or (a :: b :: rest) pos) ρ M Q :=
  DE.of (fun X f => pe_or (pe_all f a) (pe_all f _)) fun X f σ H Qv r h0 k => all_of h r h0 fun v H1 x M1 p1 r1 h1 rx ⟨c, e, q⟩ => by
    subst e
    cases rx
    refine ⟨c, rfl, ?_⟩
    cases c with
    | false => exact iteF (all_of (by simpa using q) r1 h1 fun v2 H2 g2 M2 p2 r2 h2 rg2 q2 => k v2 H2 g2 M2 (p1.trans p2) h2 rg2 q2)
    | true => exact iteT (k _ H1 _ M1 p1 h1 (rgd (Rp.bl true)) (by simpa using q))
theorem pd_one {op} {g : G} (h : PD Γ a ρ M g) : PD Γ (.BoolOp op [a] pos) ρ M g := de_one h
theorem pd_and {k l : Bool} (h : PD Γ a ρ M (.d (.bool k))) (h2 : k = true → PD Γ (.BoolOp .And (b :: rest) pos) ρ M (.d (.bool l))) : PD Γ (.BoolOp .And (a :: b :: rest) pos) ρ M (.d (.bool (k && l))) := de_and (PD.de h ⟨k, rfl, by
  cases k with
  | true => exact iteT (by have := h2 rfl; rw [Bool.true_and]; exact this)
  | false => exact iteF ⟨rfl, rfl⟩⟩)
theorem pd_or {k l : Bool} (h : PD Γ a ρ M (.d (.bool k))) (h2 : k = false → PD Γ (.BoolOp .Or (b :: rest) pos) ρ M (.d (.bool l))) : PD Γ (.BoolOp .Or (a :: b :: rest) pos) ρ M (.d (.bool (k || l))) := de_or (PD.de h ⟨k, rfl, by
  cases k with
  | false => exact iteF (by have := h2 rfl; rw [Bool.false_or]; exact this)
  | true => exact iteT ⟨rfl, rfl⟩⟩)
theorem de_notV (h : DE Γ a ρ M fun x M1 => ∃ k, x = .d (.bool k) ∧ Q (.d (.bool (!k))) M1) : DE Γ (.UnaryOp .Not a pos) ρ M Q :=
  DE.of (fun X f => pe_not (pe_all f a)) fun X f σ H Qv r h0 k => all_of h r h0 fun v H1 x M1 p1 r1 h1 rx ⟨c, e, q⟩ => by
    subst e
    cases rx
    exact ⟨c, rfl, k _ H1 _ M1 p1 h1 (rgd (Rp.bl _)) q⟩
theorem pd_notV {k : Bool} (h : PD Γ a ρ M (.d (.bool k))) : PD Γ (.UnaryOp .Not a pos) ρ M (.d (.bool (!k))) := de_notV (PD.de h ⟨k, rfl, rfl, rfl⟩)
/-- a if c else b -/
theorem de_if (h : DT Γ c ρ M fun k M1 => if k = true then DE Γ a ρ M1 Q else DE Γ b ρ M1 Q) : DE Γ (.IfExp c a b pos) ρ M Q :=
  DE.of (fun X f => pe_ifExp (pt_all f c) (pe_all f a) (pe_all f b)) fun X f σ H Qv r h0 k => allT_of h r h0 fun v H1 M1 p1 r1 h1 q => by
    cases v with
    | true => exact iteT (all_of (by simpa using q) r1 h1 fun v2 H2 g2 M2 p2 r2 h2 rg2 q2 => k v2 H2 g2 M2 (p1.trans p2) h2 rg2 q2)
    | false => exact iteF (all_of (by simpa using q) r1 h1 fun v2 H2 g2 M2 p2 r2 h2 rg2 q2 => k v2 H2 g2 M2 (p1.trans p2) h2 rg2 q2)
theorem pd_if {k : Bool} {x y : G} (h : PB Γ c ρ M k) (ha : k = true → PD Γ a ρ M x) (hb : k = false → PD Γ b ρ M y) : PD Γ (.IfExp c a b pos) ρ M (if k = true then x else y) := de_if (PB.dt h (by
  cases k with
  | true => exact iteT (by rw [if_pos rfl]; exact ha rfl)
  | false => exact iteF (by rw [if_neg Bool.false_ne_true]; exact hb rfl)))
/-! ### displays -/
theorem de_tup {es : List Expr} {x1} (h : DA Γ es ρ M fun gs M1 => ∃ ds : List PyData, gs = ds.map G.d ∧ ds.length ≤ sizeLine ∧ Q (.d (.tuple ds)) M1) : DE Γ (.Tuple es x1 pos) ρ M Q :=
  DE.of (fun X f => pe_tup (pa_all f es)) fun X f σ H Qv r h0 k => allA_of h r h0 fun vs H1 gs M1 p1 r1 h1 rs ⟨ds, e, z, q⟩ => by
    subst e
    have ra := RGs.data rs
    refine ⟨by rw [ra.length]; exact z, fun p np => ?_⟩
    exact k (.ref p) _ _ M1 (p1.trans (.new np)) (h1.keep (new_keeps np)) (rgd (Rp.tup upd_same (ra.mono (.new np)))) q
/-- a new list: data that stays, or a thing of the store -/
def NewL (ds : List PyData) (M : Sto) (Q : G → Sto → Prop) : Prop := Q (.d (.list ds)) M ∨ ∀ p, M p = none → Q (.op (.ref p)) (put M p (.lst (ds.map G.d)))
theorem NewL.frz {ds : List PyData} (q : Q (.d (.list ds)) M) : NewL ds M Q := .inl q
theorem NewL.mut {ds : List PyData} (q : ∀ p, M p = none → Q (.op (.ref p)) (put M p (.lst (ds.map G.d)))) : NewL ds M Q := .inr q
/-- a new object at a free place -/
theorem gone_free {X : Cx} {pins : List (Addr × Obj)} {σ : L2.St} {H : Hp} {s : Shared} {p : Addr} (I : Inv X pins σ H s) (hp : s.heap.get? p = none) : H p = none := by
  cases q : H p with
  | none => rfl
  | some o =>
    obtain ⟨o', e⟩ : ∃ o', s.heap.get? p = some o' := by
      have x := I.hok p o q
      cases o with
      | lst xs => obtain ⟨_, _, _, _, e⟩ := x; exact ⟨_, e⟩
      | tup xs => obtain ⟨_, _, _, o, e, _⟩ := x; exact ⟨_, e⟩
      | dK kvs => obtain ⟨_, _, _, _, o, _, _, e, _⟩ := x; exact ⟨_, e⟩
      | dT kvs => obtain ⟨_, _, _, _, o, _, _, e, _⟩ := x; exact ⟨_, e⟩
      | set S n => obtain ⟨o, _, _, _, e, _⟩ := x; exact ⟨_, e⟩
      | ins C dx fs => obtain ⟨_, _, _, e, _⟩ := x; exact ⟨_, e⟩
      | own y => exact x
      | xd fs => obtain ⟨_, ⟨_, _, _, e, _⟩, _⟩ := x; exact ⟨_, e⟩
      | rng lo hi => obtain ⟨_, _, _, e⟩ := x; exact ⟨_, e⟩
      | frz ob u => exact ⟨_, x.1⟩
      | tbl ps => exact ⟨_, show s.heap.get? p = some _ from x⟩
      | met f y => exact ⟨_, show s.heap.get? p = some _ from x⟩
      | ext φ => exact x.2.1
    rw [hp] at e
    cases e
theorem laidAt {X : Cx} {pins : List (Addr × Obj)} {σ : L2.St} {H : Hp} {s : Shared} {h' : Heap} {t' : Nat} {a : Addr} {o : HO} (I : Inv X pins σ H s) (k : ∀ b u, s.heap.get? b = some u → h'.get? b = some u) (hp : s.heap.get? a = none) (new : ObjOk X.prog X.w (upd H a o) h' a o) :
    Inv X pins σ (upd H a o) { s with heap := h', toks := t' } := by
  have hn := gone_free I hp
  have ne : ∀ b u, s.heap.get? b = some u → b ≠ a := fun b u e z => by
    rw [z, hp] at e
    cases e
  refine I.un ⟨fun b u q _ _ _ => k b u q, fun b u q _ _ _ => ⟨u.slots, k b u q⟩, fun b u q n _ => by rw [upd_ne (ne b u q)]; exact n, fun b u q _ => ⟨u, k b u q⟩, fun b xs q => by rw [upd_ne (ne_of_none q hn)]; exact q, fun b u xs q => by rw [upd_ne (ne_of_none q hn)]; exact q,
    fun b ps q => ⟨#[], by rw [upd_ne (ne_of_none q hn), q]; simp⟩⟩ fun b u e => ?_
  by_cases hb : b = a
  · subst hb
    rw [upd_same] at e
    cases e
    exact new
  · rw [upd_ne hb] at e
    exact (I.hok b u e).stay (fun c v _ q => k c v q) (fun c q => by rw [upd_ne (ne_of_none q hn)]; exact q) fun c xs q => by rw [upd_ne (ne_of_none q hn)]; exact q
theorem get_size_none (h : Heap) : h.get? h.objs.size = none := Heap.get?_none_of_le (Nat.le_refl _)
/-- a new list object is laid -/
theorem newL_laid {X : Cx} {pins : List (Addr × Obj)} {σ : L2.St} {H : Hp} {s : Shared} {h' : Heap} {t' : Nat} {xs : List V} {its : List Value} {n : Nat} {ds : List PyData} {Qv : VK} {K : PySem.W.Frag} {p : Addr}
    (I : Inv X pins σ H s) (hK : X.K = K) (kp : ∀ b u, s.heap.get? b = some u → h'.get? b = some u) (hp : s.heap.get? p = none) (ob : h'.get? p = some { cls := .type "list", data := .seq its.toArray n }) (rv : Vals xs its) (z : xs.length ≤ sizeLine)
    (rs : RpAll K H xs ds) (h : Hold K H M) (q : NewL ds M Q) (k : KOk K H Q Qv) : EP X pins σ Qv (.ref p) { s with heap := h', toks := t' } := by
  have hn : H p = none := gone_free I hp
  rcases q with q | q
  · refine ⟨.ref p, upd H p (.frz _ (.lst xs)), laidAt (t' := t') I kp hp (show ObjOk X.prog X.w _ h' p (.frz _ (.lst xs)) from ⟨ob, z, its, n, rv, ob⟩), rfl, ?_⟩
    exact k _ _ _ M (.new hn) (h.keep (new_keeps hn)) (rgd (Rp.lst upd_same (rs.mono (.new hn)))) q
  · refine ⟨.ref p, upd H p (.lst xs), laidAt (t' := t') I kp hp (show ObjOk X.prog X.w _ h' p (.lst xs) from ⟨z, its, n, rv, ob⟩), rfl, ?_⟩
    exact k _ _ (.op (.ref p)) _ (.new hn) (h.new (m := .lst (ds.map G.d)) hn ⟨xs, upd_same, RGs.of_data (rs.mono (.new hn))⟩) rfl (q p (h.fresh hn))
theorem de_list {es : List Expr} (h : DA Γ es ρ M fun gs M1 => ∃ ds : List PyData, gs = ds.map G.d ∧ ds.length ≤ sizeLine ∧ NewL ds M1 Q) : DE Γ (.List es pos) ρ M Q := by
  refine ⟨fun X f => ⟨fun pins s σ H Qv I ⟨r, h0, k⟩ => ?_⟩⟩
  refine wpAny_List_spliced (thn ((pa_all f es).run pos pins s σ H (fun vs H1 => ∃ ds M1, Pers H H1 ∧ Hold Γ.K H1 M1 ∧ RpAll Γ.K H1 vs ds ∧ ds.length ≤ sizeLine ∧ NewL ds M1 Q) I
    (allA_of h r h0 fun vs H1 gs M1 p1 r1 h1 rs ⟨ds, e, z, q⟩ => ⟨ds, M1, p1, h1, RGs.data (by rw [← e]; exact rs), z, q⟩)) fun us s1 ⟨xs, H1, I1, rv, ds, M1, p1, h1, rs, z, q⟩ => ⟨by rw [← rv.length, rs.length]; exact z, ?_⟩)
  exact newL_laid (t' := s1.toks) (its := us) (n := 0) I1 f.K (fun b u e => Heap.get?_push_of_some _ e) (get_size_none _) (Heap.get?_push_size _ rfl) rv (by rw [rs.length]; exact z) rs h1 q (KOk.later p1 k)
/-- a list of anything, in the store -/
theorem de_listM {es : List Expr} (h : DA Γ es ρ M fun gs M1 => gs.length ≤ sizeLine ∧ ∀ p, M1 p = none → Q (.op (.ref p)) (put M1 p (.lst gs))) : DE Γ (.List es pos) ρ M Q :=
  DE.of (fun X f => pe_lst (pa_all f es)) fun X f σ H Qv r h0 k => allA_of h r h0 fun vs H1 gs M1 p1 r1 h1 rs ⟨z, q⟩ => by
    refine ⟨by rw [rs.length]; exact z, fun p np => ?_⟩
    exact k (.ref p) _ (.op (.ref p)) _ (p1.trans (.new np)) (h1.new (m := .lst gs) np ⟨vs, upd_same, rs.mono (.new np)⟩) rfl (q p (h1.fresh np))
/-- argument lists that are pure -/
inductive PAs (Γ : Gam) (ρ : GEnv) (M : Sto) : List Expr → List G → Prop
  | nil : PAs Γ ρ M [] []
  | cons {e : Expr} {es : List Expr} {g : G} {gs : List G} (h : PD Γ e ρ M g) (t : PAs Γ ρ M es gs) (hs : ∀ env, starEach (e :: es) env = (false, eval e env) :: starEach es env := by intro _; rfl) : PAs Γ ρ M (e :: es) (g :: gs)
theorem PAs.da {es : List Expr} {gs : List G} (h : PAs Γ ρ M es gs) : ∀ {Q : List G → Sto → Prop}, Q gs M → DA Γ es ρ M Q := by
  induction h with
  | nil => intro Q q; exact da_nil q
  | cons h t hs ih => intro Q q; exact da_cons (PD.de h (ih q)) hs
theorem pd_tup {es : List Expr} {x1} {ds : List PyData} (h : PAs Γ ρ M es (ds.map G.d)) (z : ds.length ≤ sizeLine := by exact Nat.le_of_ble_eq_true rfl) : PD Γ (.Tuple es x1 pos) ρ M (.d (.tuple ds)) := de_tup (h.da ⟨ds, rfl, z, rfl, rfl⟩)
theorem pd_list {es : List Expr} {ds : List PyData} (h : PAs Γ ρ M es (ds.map G.d)) (z : ds.length ≤ sizeLine := by exact Nat.le_of_ble_eq_true rfl) : PD Γ (.List es pos) ρ M (.d (.list ds)) := de_list (h.da ⟨ds, rfl, z, .frz ⟨rfl, rfl⟩⟩)
end
end B
end
section
set_option maxHeartbeats 4000000
/-! D3: the operators and built-ins over data. -/
namespace B
open PySem PySem.Spec PyProof.Rows L2
/-- read as data: data, or a list of data in the store -/
inductive DatV (M : Sto) : G → PyData → Prop
  | d (x : PyData) : DatV M (.d x) x
  | l {p : Addr} {ds : List PyData} (h : M p = some (.lst (ds.map G.d))) : DatV M (.op (.ref p)) (.list ds)
theorem DatV.sql {K : PySem.W.Frag} {H : Hp} {M : Sto} {v : V} {g : G} {ds : List PyData} (h : DatV M g (.list ds)) (hm : Hold K H M) (r : RG K H v g) : ∃ a xs, v = .ref a ∧ SqL K H a xs ∧ RpAll K H xs ds := by
  cases h with
  | d =>
    cases r with
    | lst e ra => exact ⟨_, _, rfl, .inl (.inr ⟨_, e⟩), ra⟩
  | l e =>
    cases r
    obtain ⟨vs, e2, rs⟩ := hm _ _ e
    exact ⟨_, vs, rfl, .inl (.inl e2), RGs.data rs⟩
theorem Rp.sqt {K : PySem.W.Frag} {H : Hp} {v : V} {ds : List PyData} (r : Rp K H v (.tuple ds)) : ∃ a xs, v = .ref a ∧ H a = some (.tup xs) ∧ RpAll K H xs ds := by
  cases r with
  | tup e ra => exact ⟨_, _, rfl, e, ra⟩
section
variable {X : Cx} {pins : List (Addr × Obj)} {σ : L2.St} {H : Hp} {s : Shared} {K : PySem.W.Frag} {M : Sto}
theorem DatV.reads (I : Inv X pins σ H s) (hK : X.K = K) (hm : Hold K H M) {g : G} {d : PyData} {v : V} {u : Value} (h : DatV M g d) (r : RG K H v g) (rv : RelV v u) (hp : d.plain = true) : ∃ as, Reads s.heap u d as := by
  subst hK
  cases h with
  | d x => exact Rp.reads I d v u hp r rv
  | l e =>
    obtain ⟨a, xs, rfl, hs, ra⟩ := (DatV.l e).sql hm r
    cases rv
    obtain ⟨its, rv, ⟨o, n, ho, hc, _, hd⟩, _⟩ := I.list hs
    obtain ⟨as, hr⟩ := Rp.readsAll I _ _ its hp ra rv
    exact ⟨_, Reads.list ho hc hd hr⟩
end
theorem lst_exact {X : Cx} {pins : List (Addr × Obj)} {σ : L2.St} {H : Hp} {s : Shared} {K : PySem.W.Frag} {M : Sto} {g : G} {ds : List PyData} {a : Addr} {us : List V} (I : Inv X pins σ H s) (hK : X.K = K)
    (h : DatV M g (.list ds)) (hm : Hold K H M) (r : RG K H (.ref a) g) (ha : SqL K H a us) (ra : RpAll K H us ds) : ∃ its n, Vals us its ∧ us.length ≤ sizeLine ∧ s.heap.get? a = some { cls := .type "list", data := .seq its.toArray n } := by
  cases h with
  | d =>
    cases r with
    | lst e ra2 =>
      obtain ⟨e0, z, its, n, rv, e1⟩ := I.hok _ _ e
      have e2 : SqL X.K H a us := by rw [hK]; exact ha
      have e3 : us = _ := I.list_inj e2 (.inl (.inr ⟨_, e⟩))
      subst e3
      exact ⟨its, n, rv, z, e1⟩
  | l e =>
    cases r
    obtain ⟨vs, e2, rs⟩ := hm _ _ e
    obtain ⟨z, its, n, rv, e1⟩ := I.hok _ _ e2
    have e4 : SqL X.K H a us := by rw [hK]; exact ha
    have e3 : us = vs := I.list_inj e4 (.inl (.inl e2))
    subst e3
    exact ⟨its, n, rv, z, e1⟩
section
variable {Γ : Gam}
/-! ### ints -/
def oI (f : Int → Int → Int) : O2 := fun x y M Q => ∃ i j, x = .d (.int i) ∧ y = .d (.int j) ∧ Q (.d (.int (f i j))) M
def oIC (C : Int → Int → Prop) (f : Int → Int → Int) : O2 := fun x y M Q => ∃ i j, x = .d (.int i) ∧ y = .d (.int j) ∧ C i j ∧ Q (.d (.int (f i j))) M
theorem op2_I0 {sem : Value → Value → Sem Value} {f : Int → Int → Int} (h : ∀ X : Cx, OpR X sem (rI0 fun i j => .int (f i j))) : Op2 Γ sem (oI f) := fun X fit => OpR.mono' (h X) fun vx vy H Qv ⟨x, y, M, Q, rx, ry, hm, ⟨i, j, e1, e2, q⟩, k⟩ => by
  subst e1 e2
  cases rx
  cases ry
  exact ⟨i, j, rfl, rfl, k.here hm (rgd (Rp.int _)) q⟩
theorem op2_IC {sem : Value → Value → Sem Value} {C : Int → Int → Prop} {f : Int → Int → Int} (h : ∀ X : Cx, OpR X sem (rI C fun i j => .int (f i j))) : Op2 Γ sem (oIC C f) := fun X fit => OpR.mono' (h X) fun vx vy H Qv ⟨x, y, M, Q, rx, ry, hm, ⟨i, j, e1, e2, c, q⟩, k⟩ => by
  subst e1 e2
  cases rx
  cases ry
  exact ⟨i, j, rfl, rfl, c, k.here hm (rgd (Rp.int _)) q⟩
theorem o_add : Op2 Γ (binaryOp .Add) (oI fun i j => i + j) := op2_I0 fun _ => op_add
theorem o_sub : Op2 Γ (binaryOp .Sub) (oI fun i j => i - j) := op2_I0 fun _ => op_sub
theorem o_mul : Op2 Γ (binaryOp .Mult) (oIC CMul fun i j => i * j) := op2_IC fun _ => op_mul
theorem o_fdiv : Op2 Γ (binaryOp .FloorDiv) (oIC CDivW fun i j => i / j) := op2_IC fun _ => op_fdivW
theorem o_mod : Op2 Γ (binaryOp .Mod) (oIC (fun _ j => 0 < j) fun i j => i % j) := op2_IC fun _ => op_mod
theorem o_pow : Op2 Γ (binaryOp .Pow) (oIC CPow fun i j => i ^ j.toNat) := op2_IC fun _ => op_pow
def CPowW (i j : Int) : Prop := 0 ≤ j ∧ (Builtin.Int.intBits i : Int) * j ≤ 2 ^ 27
theorem o_powW : Op2 Γ (binaryOp .Pow) (oIC CPowW fun i j => i ^ j.toNat) := op2_IC fun X => opI fun _ _ _ _ _ _ _ hc q => pow_int hc.1 hc.2 q
theorem o_shl : Op2 Γ (binaryOp .LShift) (oIC CPow fun i j => i * 2 ^ j.toNat) := op2_IC fun _ => op_shl
theorem o_shr : Op2 Γ (binaryOp .RShift) (oIC (fun _ j => 0 ≤ j) fun i j => i / 2 ^ j.toNat) := op2_IC fun _ => op_shr
theorem o_and : Op2 Γ (binaryOp .BitAnd) (oI fun i j => Builtin.bitAnd i j) := op2_I0 fun _ => op_and
theorem o_or : Op2 Γ (binaryOp .BitOr) (oI fun i j => Builtin.bitOr i j) := op2_I0 fun _ => op_or
def o1I (f : Int → Int) : O1 := fun x M Q => ∃ i, x = .d (.int i) ∧ Q (.d (.int (f i))) M
theorem op1_I {sem : Value → Sem Value} {f : Int → Int} (h : ∀ X : Cx, UnR X sem (rU fun i => .int (f i))) : Op1 Γ sem (o1I f) := fun X fit pins s σ H vx u Qv I rx ⟨x, M, Q, rg, hm, ⟨i, e, q⟩, k⟩ => by
  subst e
  cases rg
  exact h X pins s σ H _ u Qv I rx ⟨i, rfl, k.here hm (rgd (Rp.int _)) q⟩
theorem o_neg : Op1 Γ (unaryOp .USub) (o1I fun i => -i) := op1_I fun _ => un_neg
theorem o_inv : Op1 Γ (unaryOp .Invert) (o1I fun i => Builtin.bitNot i) := op1_I fun _ => un_inv
def oB (f : Int → Int → Bool) : O2 := fun x y M Q => ∃ i j, x = .d (.int i) ∧ y = .d (.int j) ∧ Q (.d (.bool (f i j))) M
theorem op2_B {sem : Value → Value → Sem Value} {f : Int → Int → Bool} (h : ∀ X : Cx, OpR X sem (rI0 fun i j => .bl (f i j))) : Op2 Γ sem (oB f) := fun X fit => OpR.mono' (h X) fun vx vy H Qv ⟨x, y, M, Q, rx, ry, hm, ⟨i, j, e1, e2, q⟩, k⟩ => by
  subst e1 e2
  cases rx
  cases ry
  exact ⟨i, j, rfl, rfl, k.here hm (rgd (Rp.bl _)) q⟩
theorem o_lt : Op2 Γ (compareOp .Lt) (oB fun i j => decide (i < j)) := op2_B fun _ => op_lt
theorem o_le : Op2 Γ (compareOp .LtE) (oB fun i j => decide (i ≤ j)) := op2_B fun _ => op_le
theorem o_gt : Op2 Γ (compareOp .Gt) (oB fun i j => decide (j < i)) := op2_B fun _ => op_gt
theorem o_ge : Op2 Γ (compareOp .GtE) (oB fun i j => decide (j ≤ i)) := op2_B fun _ => op_ge
/-! ### data compared -/
theorem fit_units {X : Cx} (f : Γ.Fit X) : X.A.units + 200 < cLine := by have := f.room.un; omega
/-- plain data, not deep -/
def Pl (d : PyData) : Prop := d.plain = true ∧ d.depth ≤ 100
def oEq : O2 := fun x y M Q => ∃ d e, DatV M x d ∧ DatV M y e ∧ Pl d ∧ Pl e ∧ Q (.d (.bool (PyData.eqv d e))) M
def oNe : O2 := fun x y M Q => ∃ d e, DatV M x d ∧ DatV M y e ∧ Pl d ∧ Pl e ∧ Q (.d (.bool (!PyData.eqv d e))) M
theorem o_eq : Op2 Γ (compareOp .Eq) oEq := fun X fit pins s σ H vx vy u1 u2 Qv I r1 r2 ⟨x, y, M, Q, rx, ry, hm, ⟨d, e, hd, he, pd, pe, q⟩, k⟩ => by
  obtain ⟨as, q1⟩ := hd.reads I fit.K hm rx r1 pd.1
  obtain ⟨bs, q2⟩ := he.reads I fit.K hm ry r2 pe.1
  have hu := fit_units fit
  exact PySem.SeqAt.eq_plain q1 q2 pd.1 pe.1 (by have := pd.2; have := pe.2; omega) ⟨.bl _, H, I, rfl, k.here hm (rgd (Rp.bl _)) q⟩
theorem o_ne : Op2 Γ (compareOp .NotEq) oNe := fun X fit pins s σ H vx vy u1 u2 Qv I r1 r2 ⟨x, y, M, Q, rx, ry, hm, ⟨d, e, hd, he, pd, pe, q⟩, k⟩ => by
  obtain ⟨as, q1⟩ := hd.reads I fit.K hm rx r1 pd.1
  obtain ⟨bs, q2⟩ := he.reads I fit.K hm ry r2 pe.1
  have hu := fit_units fit
  exact PySem.SeqAt.ne_plain q1 q2 pd.1 pe.1 (by have := pd.2; have := pe.2; omega) ⟨.bl _, H, I, rfl, k.here hm (rgd (Rp.bl _)) q⟩
def oLtD : O2 := fun x y M Q => ∃ d e, DatV M x d ∧ DatV M y e ∧ Pl d ∧ Pl e ∧ PySem.W.alike d e = true ∧ d ≠ .none ∧ Q (.d (.bool (PySem.W.dataLt d e))) M
theorem o_ltD : Op2 Γ (compareOp .Lt) oLtD := fun X fit pins s σ H vx vy u1 u2 Qv I r1 r2 ⟨x, y, M, Q, rx, ry, hm, ⟨d, e, hd, he, pd, pe, al, nn, q⟩, k⟩ => by
  obtain ⟨as, q1⟩ := hd.reads I fit.K hm rx r1 pd.1
  obtain ⟨bs, q2⟩ := he.reads I fit.K hm ry r2 pe.1
  have hu := fit_units fit
  exact PySem.W.lt_data q1 q2 al nn (by have := pd.2; have := pe.2; omega) ⟨.bl _, H, I, rfl, k.here hm (rgd (Rp.bl _)) q⟩
def isIn (d : PyData) (xs : List PyData) : Bool := xs.any fun y => PyData.eqv y d
/-- a list or a tuple of data -/
inductive SeqV (M : Sto) : G → List PyData → Prop
  | t (xs : List PyData) : SeqV M (.d (.tuple xs)) xs
  | l {g : G} {xs : List PyData} (h : DatV M g (.list xs)) : SeqV M g xs
def PlA (xs : List PyData) : Prop := PyData.plainAll xs = true ∧ PyData.depthAll xs ≤ 100
def oIn (neg : Bool) : O2 := fun x y M Q => ∃ d xs, DatV M x d ∧ SeqV M y xs ∧ Pl d ∧ PlA xs ∧ Q (.d (.bool (if neg = true then !isIn d xs else isIn d xs))) M
theorem o_in : Op2 Γ (compareOp .In) (oIn false) := fun X fit pins s σ H vx vy u1 u2 Qv I r1 r2 ⟨x, y, M, Q, rx, ry, hm, ⟨d, xs, hd, he, pd, pe, q⟩, k⟩ => by
  obtain ⟨as, q1⟩ := hd.reads I fit.K hm rx r1 pd.1
  have hu := fit_units fit
  cases he with
  | t =>
    obtain ⟨bs, q2⟩ := (DatV.d (.tuple xs)).reads I fit.K hm ry r2 pe.1
    exact PySem.SeqAt.in_tuple_data q2 q1 pe.1 pd.1 (by have := pd.2; have := pe.2; omega) ⟨.bl _, H, I, rfl, k.here hm (rgd (Rp.bl _)) q⟩
  | l hl =>
    obtain ⟨bs, q2⟩ := hl.reads I fit.K hm ry r2 pe.1
    exact PySem.SeqAt.in_list_data q2 q1 pe.1 pd.1 (by have := pd.2; have := pe.2; omega) ⟨.bl _, H, I, rfl, k.here hm (rgd (Rp.bl _)) q⟩
theorem o_notIn : Op2 Γ (compareOp .NotIn) (oIn true) := fun X fit pins s σ H vx vy u1 u2 Qv I r1 r2 ⟨x, y, M, Q, rx, ry, hm, ⟨d, xs, hd, he, pd, pe, q⟩, k⟩ => by
  obtain ⟨as, q1⟩ := hd.reads I fit.K hm rx r1 pd.1
  have hu := fit_units fit
  cases he with
  | t =>
    obtain ⟨bs, q2⟩ := (DatV.d (.tuple xs)).reads I fit.K hm ry r2 pe.1
    exact PySem.SeqAt.notIn_tuple_data q2 q1 pe.1 pd.1 (by have := pd.2; have := pe.2; omega) ⟨.bl _, H, I, rfl, k.here hm (rgd (Rp.bl _)) q⟩
  | l hl =>
    obtain ⟨bs, q2⟩ := hl.reads I fit.K hm ry r2 pe.1
    exact PySem.SeqAt.notIn_list_data q2 q1 pe.1 pd.1 (by have := pd.2; have := pe.2; omega) ⟨.bl _, H, I, rfl, k.here hm (rgd (Rp.bl _)) q⟩
/-- is None, is not None -/
def isN : PyData → Bool
  | .none => true
  | _ => false
def oIsN (neg : Bool) : O2 := fun x y M Q => ∃ d, x = .d d ∧ y = .d .none ∧ Q (.d (.bool (if neg = true then !isN d else isN d))) M
theorem isn_dec {K : PySem.W.Frag} {H : Hp} {v : V} {d : PyData} (r : Rp K H v d) : decide (v = V.non) = isN d := by
  cases r <;> rfl
theorem o_isN : Op2 Γ (compareOp .Is) (oIsN false) := fun X fit => OpR.mono' op_isN fun vx vy H Qv ⟨x, y, M, Q, rx, ry, hm, ⟨d, e1, e2, q⟩, k⟩ => by
  subst e1 e2
  cases ry
  have e := isn_dec (show Rp _ _ _ _ from rx)
  exact ⟨rfl, k.here hm (rgd (Rp.bl _)) (by rw [e]; exact q)⟩
theorem o_notN : Op2 Γ (compareOp .IsNot) (oIsN true) := fun X fit => OpR.mono' op_notN fun vx vy H Qv ⟨x, y, M, Q, rx, ry, hm, ⟨d, e1, e2, q⟩, k⟩ => by
  subst e1 e2
  cases ry
  have e := isn_dec (show Rp _ _ _ _ from rx)
  exact ⟨rfl, k.here hm (rgd (Rp.bl _)) (by rw [e]; exact q)⟩
/-! ### sequences put together -/
def oCatT : O2 := fun x y M Q => ∃ xs ys, x = .d (.tuple xs) ∧ y = .d (.tuple ys) ∧ xs.length + ys.length ≤ sizeLine ∧ Q (.d (.tuple (xs ++ ys))) M
theorem o_catT : Op2 Γ (binaryOp .Add) oCatT := fun X fit => OpR.mono' op_catA fun vx vy H Qv ⟨x, y, M, Q, rx, ry, hm, ⟨xs, ys, e1, e2, z, q⟩, k⟩ => by
  subst e1 e2
  obtain ⟨a, us, rfl, ha, ra⟩ := Rp.sqt rx
  obtain ⟨b, ws, rfl, hb, rb⟩ := Rp.sqt ry
  refine ⟨a, b, us, ws, rfl, rfl, .inl (.inl ha), .inl (.inl hb), by rw [ra.length, rb.length]; exact z, fun e => ?_, fun n e => ?_, fun n n2 p np => ?_⟩
  · subst e
    cases ra
    exact k.here hm (rgd (Rp.tup hb rb)) q
  · subst e
    cases rb
    rw [List.append_nil] at q
    exact k.here hm (rgd (Rp.tup ha ra)) q
  · exact k (.ref p) _ (.d (.tuple (xs ++ ys))) M (.new np) (hm.keep (new_keeps np)) (rgd (Rp.tup upd_same ((ra.append rb).mono (.new np)))) q
def oCatL : O2 := fun x y M Q => ∃ xs ys, DatV M x (.list xs) ∧ DatV M y (.list ys) ∧ xs.length + ys.length ≤ sizeLine ∧ NewL (xs ++ ys) M Q
theorem o_catL : Op2 Γ (binaryOp .Add) oCatL := fun X fit pins s σ H vx vy u1 u2 Qv I r1 r2 ⟨x, y, M, Q, rx, ry, hm, ⟨xs, ys, h1, h2, z, q⟩, k⟩ => by
  obtain ⟨a, us, rfl, ha, ra⟩ := h1.sql hm rx
  obtain ⟨b, ws, rfl, hb, rb⟩ := h2.sql hm ry
  cases r1
  cases r2
  obtain ⟨its, n, rv, hz1, e1⟩ := lst_exact I fit.K h1 hm rx ha ra
  obtain ⟨its2, n2, rv2, hz2, e2⟩ := lst_exact I fit.K h2 hm ry hb rb
  have hz : us.length + ws.length ≤ sizeLine := by rw [ra.length, rb.length]; exact z
  refine PySem.P.add_list e1 e2 ?_ (by rw [List.size_toArray, List.size_toArray, ← rv.length, ← rv2.length]; exact hz)
  have ea : its.toArray ++ its2.toArray = (its ++ its2).toArray := by simp
  rw [ea]
  exact newL_laid (t' := s.toks) I fit.K (fun b u e => Heap.get?_push_of_some _ e) (get_size_none _) (Heap.get?_push_size _ rfl) (rv.append rv2) (by rw [List.length_append]; exact hz) (ra.append rb) hm q k
/-! ### calls -/
def oLen : ON := fun xs M Q => ∃ g ds, xs = [g] ∧ SeqV M g ds ∧ Q (.d (.int (ds.length : Nat))) M
theorem o_len : OpN Γ (.builtin "len") oLen := fun X fit => CallR.mono' call_len_seq fun vs H Qv ⟨xs, M, Q, rs, hm, ⟨g, ds, e, sv, q⟩, k⟩ => by
  subst e
  cases rs with
  | cons r t =>
    cases t
    cases sv with
    | t =>
      obtain ⟨a, us, rfl, ha, ra⟩ := Rp.sqt r
      refine ⟨a, us, rfl, .inr (.inl (.inl ha)), ?_⟩
      rw [ra.length]
      exact k.here hm (rgd (Rp.int _)) q
    | l hl =>
      obtain ⟨a, us, rfl, ha, ra⟩ := hl.sql hm r
      rw [← fit.K] at ha
      refine ⟨a, us, rfl, .inl ha, ?_⟩
      rw [ra.length]
      exact k.here hm (rgd (Rp.int _)) q
def oAbs : ON := fun xs M Q => ∃ i, xs = [.d (.int i)] ∧ Q (.d (.int (if i < 0 then -i else i))) M
theorem o_abs : OpN Γ (.builtin "abs") oAbs := fun X fit => CallR.mono' call_abs fun vs H Qv ⟨xs, M, Q, rs, hm, ⟨i, e, q⟩, k⟩ => by
  subst e
  cases rs with
  | cons r t =>
    cases t
    cases r
    exact ⟨i, rfl, k.here hm (rgd (Rp.int _)) q⟩
def oMax2 : ON := fun xs M Q => ∃ i j, xs = [.d (.int i), .d (.int j)] ∧ Q (.d (.int (if j > i then j else i))) M
theorem o_max2 : OpN Γ (.builtin "max") oMax2 := fun X fit => CallR.mono' (call_max2 fit.calm) fun vs H Qv ⟨xs, M, Q, rs, hm, ⟨i, j, e, q⟩, k⟩ => by
  subst e
  cases rs with
  | cons r t =>
    cases t with
    | cons r2 t =>
      cases t
      cases r
      cases r2
      exact ⟨i, j, rfl, k.here hm (rgd (Rp.int _)) q⟩
def oMin2 : ON := fun xs M Q => ∃ i j, xs = [.d (.int i), .d (.int j)] ∧ Q (.d (.int (if j < i then j else i))) M
theorem o_min2 : OpN Γ (.builtin "min") oMin2 := fun X fit => CallR.mono' (call_min2 fit.calm) fun vs H Qv ⟨xs, M, Q, rs, hm, ⟨i, j, e, q⟩, k⟩ => by
  subst e
  cases rs with
  | cons r t =>
    cases t with
    | cons r2 t =>
      cases t
      cases r
      cases r2
      exact ⟨i, j, rfl, k.here hm (rgd (Rp.int _)) q⟩
/-- int(n), int(flag) -/
def oInt1 : ON := fun xs M Q => (∃ i, xs = [.d (.int i)] ∧ Q (.d (.int i)) M) ∨ ∃ b, xs = [.d (.bool b)] ∧ Q (.d (.int (if b = true then 1 else 0))) M
theorem o_int1 : OpN Γ (.type "int") oInt1 := fun X fit => CallR.mono' call_int1 fun vs H Qv ⟨xs, M, Q, rs, hm, h, k⟩ => by
  rcases h with ⟨i, e, q⟩ | ⟨b, e, q⟩
  · subst e
    cases rs with
    | cons r t =>
      cases t
      cases r
      exact .inl ⟨i, rfl, k.here hm (rgd (Rp.int _)) q⟩
  · subst e
    cases rs with
    | cons r t =>
      cases t
      cases r
      refine .inr ⟨b, rfl, k.here hm (rgd (Rp.int _)) ?_⟩
      cases b <;> exact q
/-- str(n) -/
def oStr1 : ON := fun xs M Q => ∃ i : Int, xs = [.d (.int i)] ∧ i.natAbs.log2 < 1920 ∧ Q (.d (.str (toString i))) M
theorem o_str1 : OpN Γ (.type "str") oStr1 := fun X fit => CallR.mono' call_str_int fun vs H Qv ⟨xs, M, Q, rs, hm, ⟨i, e, z, q⟩, k⟩ => by
  subst e
  cases rs with
  | cons r t =>
    cases t
    cases r
    exact ⟨i, rfl, z, k.here hm (rgd (Rp.str _)) q⟩
end
end B
end
section
set_option maxHeartbeats 4000000
/-! D4: sorted. -/
namespace B
open PySem PySem.Spec PyProof.Rows L2
def leD (a b : PyData) : Bool := !PySem.W.dataLt b a
def sortD (ds : List PyData) : List PyData := ds.mergeSort leD
/-- how they can be sorted: tuples with an item at least or no tuples; one thing at most; tuples, one of them () -/
inductive SortHow (ds : List PyData) : Prop
  | inl (h : PySem.W.Sortable ds)
  | inr (h : ds.length ≤ 1)
  | tup (h : ∀ d ∈ ds, ∃ xs, d = .tuple xs) (h0 : PyData.tuple [] ∈ ds)
/-- what can be sorted here: alike, no None -/
def CanSort (ds : List PyData) : Prop := PySem.W.AllAlike ds ∧ PlA ds ∧ (∀ d ∈ ds, d ≠ .none) ∧ SortHow ds
theorem depth_mem : ∀ {ds : List PyData} {d : PyData}, d ∈ ds → d.depth ≤ PyData.depthAll ds
  | [], _, h => by cases h
  | x :: xs, d, h => by
    show d.depth ≤ max x.depth (PyData.depthAll xs)
    rcases List.mem_cons.mp h with rfl | h
    · exact Nat.le_max_left _ _
    · exact Nat.le_trans (depth_mem h) (Nat.le_max_right _ _)
section
variable {prog : Program} {w : World} {A : Around} {E : Value → Shared → Prop} {s : Shared}
theorem sortsAt_one {vs : List Value} {ds : List PyData} (e : PySem.W.EachIs (fun v d => ∃ as, Reads s.heap v d as) vs ds) (hal : PySem.W.AllAlike ds) (hn : ∀ d ∈ ds, d ≠ .none) (h1 : ds.length ≤ 1) (hu : ∀ d, d ∈ ds → A.units + d.depth < cLine) :
    PySem.W.SortsAt prog w A s (PySem.W.dataKind s.heap ds) vs := by
  refine ⟨fun v hv => ?_, general', ?_, fun h2 => ?_⟩
  · obtain ⟨d, hd, as, r⟩ := e.left v hv
    exact ⟨_, PySem.W.dataKind_some hal hd r⟩
  · intro E x y a b Q ha hb hq
    obtain ⟨d, as, hd, ra, rfl⟩ := PySem.W.dataKind_inv ha
    obtain ⟨d', as', hd', rb, rfl⟩ := PySem.W.dataKind_inv hb
    show wpAny _ _ (oneLt' false x y) _ _ _
    exact PySem.W.oneLt_alike (fun z => by cases z) ra rb (hal d hd d' hd') (hn d hd) (Nat.lt_of_le_of_lt (Nat.add_le_add_left (Nat.min_le_left _ _) _) (hu d hd)) hq
  · rw [e.length] at h2
    omega
/-- the call of tuple's own __lt__, as sorting makes it -/
theorem call_tuple_lt {Q : Value → Shared → Prop} {l b : Addr} {items items2 : Array Value} {e r : Nat → Bool} (hl : s.heap.IsTuple l items) (hb : s.heap.IsTuple b items2)
    (he : ∀ j (h1 : j < items.size) (h2 : j < items2.size), PySem.SeqAt.EqAt A.in1 s items[j] items2[j] (e j)) (hr : ∀ j (h1 : j < items.size) (h2 : j < items2.size), e j = false → PySem.SeqAt.RcLt A.in1 s items[j] items2[j] (r j))
    (h : Q (.bool (PySem.SeqAt.firstLt e r (decide (items.size < items2.size)) (List.range (min items.size items2.size)))) s) : wpAny (model prog w) A (call (.builtin "tuple.__lt__") [.ref l, .ref b]) Q E s := by
  obtain ⟨⟨cls, dd, data, sl⟩, ho, hc, n, hd⟩ := id hl
  obtain ⟨⟨cls2, dd2, data2, sl2⟩, ho2, hc2, n2, hd2⟩ := id hb
  simp only at hc hd hc2 hd2
  subst hc hd hc2 hd2
  exact call_meets F.slot_tuple_lt ⟨_, ho, rfl⟩ F.entry_tuple_lt (F.args_tuple_lt_2 _ _) (PySem.SeqAt.tuple_ltAt l b items items2 n n2 dd dd2 sl sl2 e r) ⟨ho, ho2, he, hr, h⟩
open PySem.SeqAt PySem.W in
theorem oneLt_tup {xs ys : List PyData} {a b : Value} {as bs : List Addr} {Q : Bool → Shared → Prop} (ra : Reads s.heap a (.tuple xs) as) (rb : Reads s.heap b (.tuple ys) bs) (h : alike (.tuple xs) (.tuple ys) = true)
    (hu : A.units + min (PyData.tuple xs).depth (PyData.tuple ys).depth < cLine) (hq : Q (dataLt (.tuple xs) (.tuple ys)) s) : wpAny (model prog w) A (oneLt' true a b) Q E s := by
  have hal : alikeAll xs ys = true := by simpa [alike] using h
  cases ra with
  | @tuple l o vs n _ as₁ h1 h2 h3 h4 =>
    cases rb with
    | @tuple l' o' vs' n' _ bs₁ k1 k2 k3 k4 =>
      have n1 : vs.size = xs.length := by simpa using PySem.SeqAt.ReadsAll.length _ _ _ h4
      have n2 : vs'.size = ys.length := by simpa using PySem.SeqAt.ReadsAll.length _ _ _ k4
      rw [dataLt_tuple, ← firstLt_toks xs ys hal, ← n1, ← n2] at hq
      rw [oneLt'_eq]
      simp only [if_true]
      refine wpAny_bind (wpAny_cRoomFor (room_here hu) ?_)
      refine wpAny_bind (wpAny_callSpecialIfBound?_slot (T := "tuple") ⟨_, h1, h2⟩ F.slot_tuple_lt (call_tuple_lt (e := pairEq xs ys) (r := fun j => dataLt (xs.getD j .none) (ys.getD j .none)) ⟨_, h1, h2, _, h3⟩ ⟨_, k1, k2, _, k3⟩ (fun j j1 j2 => ?_) (fun j j1 j2 hj => ?_) ?_))
      · have := eqAt_alikeAll xs ys A.in1 s vs.toList vs'.toList _ _ h4 k4 hal (room_in hu) j (by simpa using j1) (by simpa using j2)
        simpa using this
      · have := rcLt_alikeAll xs ys A.in1 s vs.toList vs'.toList _ _ h4 k4 hal (room_in hu) j (by simpa using j1) (by simpa using j2) hj
        simpa using this
      · exact wpAny_truthy_bool hq
open PySem.Calls PySem.W in
theorem tup_firsts {M : Model} : ∀ {vs : List Value} {ds : List PyData}, PySem.W.EachIs (fun v d => ∃ as, Reads s.heap v d as) vs ds → (∀ d ∈ ds, ∃ xs, d = .tuple xs) →
    ∃ fo : List (Option Value), (PyData.tuple [] ∈ ds → none ∈ fo) ∧ ∀ (E : Value → Shared → Prop) (Q : List (Option Value) → Shared → Prop), Q fo s → wpAny M A (vs.mapM firstOfTuple') Q E s
  | _, _, .nil, _ => ⟨[], (fun h => nomatch h), fun E Q h => by rw [List.mapM_nil]; exact wpAny_pure h⟩
  | _, _, .cons (a := v) (b := d) ⟨as, r⟩ t, ht => by
    obtain ⟨fo, f1, f2⟩ := tup_firsts (M := M) t fun d hd => ht d (List.mem_cons_of_mem _ hd)
    obtain ⟨xs, rfl⟩ := ht d List.mem_cons_self
    cases r with
    | @tuple l o vs n _ as₁ h1 h2 h3 h4 =>
      refine ⟨vs[0]? :: fo, fun h => ?_, fun E Q h => ?_⟩
      · rcases List.mem_cons.mp h with e | h
        · cases e
          have : vs.size = 0 := by simpa using PySem.SeqAt.ReadsAll.length _ _ _ h4
          rw [Array.getElem?_eq_none (by omega)]
          exact List.mem_cons_self
        · exact List.mem_cons_of_mem _ (f1 h)
      · rw [List.mapM_cons]
        refine wpAny_bind ?_
        rw [PySem.W.kas_first_eq]
        refine wpAny_bind (Looks.here (show Looks M s.heap (typeOf (.ref l)) o.cls from (Looks.ld h1).andThen .now) ?_)
        rw [h2, if_neg (by first | decide | simp)]
        refine wpAny_bind (listItems_at h1 h3 (wpAny_pure ?_))
        exact wpAny_bind (f2 E (fun bs s' => wpAny M A (pure (vs[0]? :: bs)) Q E s') (wpAny_pure h))
open PySem.Calls PySem.W in
theorem tup_kind0 {M : Model} {vs : List Value} {ds : List PyData} (e : PySem.W.EachIs (fun v d => ∃ as, Reads s.heap v d as) vs ds) (ht : ∀ d ∈ ds, ∃ xs, d = .tuple xs) (h0 : PyData.tuple [] ∈ ds) :
    ∃ b : Bool, ∀ (E : Value → Shared → Prop) {Q : SortKind → Shared → Prop}, Q (if b = true then general' else oneType') s → wpAny M A (keyKind' vs.toArray) Q E s := by
  obtain ⟨fo, f1, f2⟩ := tup_firsts (M := M) (A := A) e ht
  have hn := f1 h0
  obtain ⟨v1, vr, rfl⟩ : ∃ v1 vr, vs = v1 :: vr := by
    cases e with
    | nil => cases h0
    | cons h t => exact ⟨_, _, rfl⟩
  refine ⟨((fo.toArray[0]?).bind id).isSome, fun E Q hq => ?_⟩
  rw [keyKind'_eq, List.mapM_toArray, map_eq_pure_bind]
  refine wpAny_bind (wpAny_bind (f2 _ _ (wpAny_pure ?_)))
  have hall : ¬ (fo.toArray.all fun x => x.isSome) = true := by
    simp only [List.all_toArray, List.all_eq_true]
    intro z
    exact absurd (z none hn) (by simp)
  rw [if_neg hall]
  cases hb : ((fo.toArray[0]?).bind id).isSome with
  | true =>
    rw [hb] at hq
    rw [if_pos rfl]
    exact wpAny_pure hq
  | false =>
    rw [hb] at hq
    rw [if_neg (by simp)]
    have hT : ∀ v ∈ v1 :: vr, Looks M s.heap (typeOf v) (.type "tuple") := fun v hv => by
      obtain ⟨d, hd, as, r⟩ := e.left v hv
      obtain ⟨xs, rfl⟩ := ht d hd
      exact PySem.W.looks_reads r
    rw [oneTypeOnly'_eq, List.mapM_toArray, map_eq_pure_bind]
    refine wpAny_bind (wpAny_bind (wpAny_bind (PySem.W.kas_mapM (r := Value.type "tuple") _ (fun v hv Q' hq => (hT v hv).here hq) (wpAny_pure ?_))))
    have hall2 : ((List.map (fun _ => Value.type "tuple") (v1 :: vr)).toArray.all fun x => x == Value.type "tuple") = true := by
      simp only [List.all_toArray, List.all_map, List.all_eq_true]
      intro _ _
      rfl
    have h0 : (List.map (fun _ => Value.type "tuple") (v1 :: vr)).toArray[0]? = some (Value.type "tuple") := by simp
    rw [h0]
    simp only [hall2, if_true]
    exact wpAny_pure (wpAny_pure hq)
theorem sortsAt_tup {vs : List Value} {ds : List PyData} (e : PySem.W.EachIs (fun v d => ∃ as, Reads s.heap v d as) vs ds) (hal : PySem.W.AllAlike ds) (ht : ∀ d ∈ ds, ∃ xs, d = .tuple xs) (h0 : PyData.tuple [] ∈ ds) (hu : ∀ d, d ∈ ds → A.units + d.depth < cLine) :
    PySem.W.SortsAt prog w A s (PySem.W.dataKind s.heap ds) vs := by
  obtain ⟨b, hb⟩ := tup_kind0 (M := model prog w) (A := A) e ht h0
  refine ⟨fun v hv => ?_, if b = true then general' else oneType', ?_, fun h2 E Q hq => hb E hq⟩
  · obtain ⟨d, hd, as, r⟩ := e.left v hv
    exact ⟨_, PySem.W.dataKind_some hal hd r⟩
  · intro E x y a b' Q ha hb' hq
    obtain ⟨d, as, hd, ra, rfl⟩ := PySem.W.dataKind_inv ha
    obtain ⟨d', as', hd', rb, rfl⟩ := PySem.W.dataKind_inv hb'
    have room : A.units + min d.depth d'.depth < cLine := Nat.lt_of_le_of_lt (Nat.add_le_add_left (Nat.min_le_left _ _) _) (hu d hd)
    cases b with
    | true =>
      rw [if_pos rfl]
      show wpAny _ _ (oneLt' false x y) _ _ _
      exact PySem.W.oneLt_alike (fun z => by cases z) ra rb (hal d hd d' hd') (fun z => by obtain ⟨xs, q⟩ := ht d hd; rw [q] at z; cases z) room hq
    | false =>
      rw [if_neg (by simp), PyProof.Rows.keyLt'_oneType]
      obtain ⟨xs, rfl⟩ := ht d hd
      obtain ⟨ys, rfl⟩ := ht d' hd'
      exact oneLt_tup ra rb (hal _ hd _ hd') room hq
theorem sortsAt_any {vs : List Value} {ds : List PyData} (e : PySem.W.EachIs (fun v d => ∃ as, Reads s.heap v d as) vs ds) (hc : CanSort ds) (hu : ∀ d, d ∈ ds → A.units + d.depth < cLine) :
    PySem.W.SortsAt prog w A s (PySem.W.dataKind s.heap ds) vs := by
  obtain ⟨hal, hp, hn, hk⟩ := hc
  rcases hk with hk | hk | ⟨hk, hk0⟩
  · exact PySem.W.SortsAt.data e hal hk hu
  · exact sortsAt_one e hal hn hk hu
  · exact sortsAt_tup e hal hk hk0 hu
/-- sorted(x, ..) is list.sort(..) on a new list of what x gives -/
theorem sorted_of_col {x : Value} {kw : List (Str × Value)} {Q : Value → Shared → Prop} {C : List Value → Shared → Prop} (ha1 : argsOk "sorted" ⟨[x], kw⟩) (ha2 : ∀ x, argsOk "list.sort" ⟨[.ref x], kw⟩)
    (col : ∀ E : Value → Shared → Prop, wpAny (model prog w) A.in1 (collect x) C E s)
    (body : ∀ vs s1, C vs s1 → vs.length ≤ sizeLine ∧ ∀ E' : Value → Shared → Prop, wpAny (model prog w) A.in1.in1 (Builtin.«list.sort» ⟨[.ref s1.heap.objs.size], kw⟩) (fun f s' => f = .done (.ret .none) ∧ Q (.ref s1.heap.objs.size) s') E' { s1 with heap := s1.heap.push (seqObj "list" vs.toArray 0) }) :
    wpAny (model prog w) A (call (.builtin "sorted") [x] kw) Q E s := by
  refine PyProof.Rows.call_function_entry_kw kind_sorted plain_sorted entry_sorted ha1 ?_
  unfold Builtin.«sorted»
  refine wpAny_bind (m := checkCount "sorted" 1 1 _) (wpAny_pure ?_)
  refine wpAny_bind (wpAny_mono (col _) (fun vs s1 hC => ?_) fun _ _ z => z)
  obtain ⟨hL, bd⟩ := body vs s1 hC
  refine wpAny_bind (wpAny_newList ?_ hL)
  refine wpAny_bind (wpAny_holding (wpAny_call_entry_kw slot_list_sort ⟨_, Heap.get?_push_size _ rfl, rfl⟩ entry_list_sort ?body (ha2 _)))
  case body =>
    refine wpAny_mono (bd _) (fun f s' hf => ?_) fun _ _ e => e
    obtain ⟨rfl, hq⟩ := hf
    exact ⟨_, rfl, wpAny_pure ⟨_, rfl, hq⟩⟩
end
section
variable {K : PySem.W.Frag} {H : Hp}
theorem zip_snd {α β : Type} : ∀ {xs : List α} {ys : List β}, xs.length = ys.length → (xs.zip ys).map Prod.snd = ys
  | [], [], _ => rfl
  | x :: xs, y :: ys, h => by
    show y :: (xs.zip ys).map Prod.snd = _
    rw [zip_snd (by simpa using h)]
theorem RpAll.of_each : ∀ {bs : List (V × PyData)}, (∀ b ∈ bs, Rp K H b.1 b.2) → RpAll K H (bs.map Prod.fst) (bs.map Prod.snd)
  | [], _ => .nil
  | b :: bs, h => .cons (h b List.mem_cons_self) (RpAll.of_each fun c hc => h c (List.mem_cons_of_mem _ hc))
theorem RpAll.zip_mem : ∀ {vs : List V} {ds : List PyData}, RpAll K H vs ds → ∀ b ∈ vs.zip ds, Rp K H b.1 b.2
  | _, _, .nil, b, hb => by cases hb
  | _, _, .cons r t, b, hb => by
    rcases List.mem_cons.mp hb with rfl | hb
    · exact r
    · exact RpAll.zip_mem t b hb
theorem each_zip {s : Shared} {X : Cx} {pins : List (Addr × Obj)} {σ : L2.St} (I : Inv X pins σ H s) (hK : X.K = K) {h' : Heap} (kp : ∀ b o, s.heap.get? b = some o → h'.get? b = some o) : ∀ {vs : List V} {ds : List PyData} {us : List Value}, RpAll K H vs ds → Vals vs us → PyData.plainAll ds = true →
    PySem.W.EachIs (fun u (b : V × PyData) => RelV b.1 u) us (vs.zip ds) ∧ PySem.W.EachIs (fun u (b : V × PyData) => ∃ as, Reads h' u b.2 as) us (vs.zip ds)
  | _, _, _, .nil, .nil, _ => ⟨.nil, .nil⟩
  | _, _, _, .cons r t, .cons q u, hp => by
    obtain ⟨p1, p2⟩ := Bool.and_eq_true_iff.mp (show (_ && PyData.plainAll _) = true from hp)
    obtain ⟨h1, h2⟩ := each_zip I hK kp t u p2
    subst hK
    obtain ⟨as, rd⟩ := Rp.reads I _ _ _ p1 r q
    exact ⟨.cons q h1, .cons ⟨as, PyProof.Rows.Reads.keeps kp rd⟩ h2⟩
theorem vals_each : ∀ {us : List Value} {bs : List (V × PyData)}, PySem.W.EachIs (fun u (b : V × PyData) => RelV b.1 u) us bs → Vals (bs.map Prod.fst) us
  | _, _, .nil => .nil
  | _, _, .cons h t => .cons h (vals_each t)
end
section
variable {Γ : Gam} {M : Sto} {Q : G → Sto → Prop}
/-- the tail of sorted: the values us are collected in s1 -/
theorem sort_tail {X : Cx} (fit : Γ.Fit X) {pins : List (Addr × Obj)} {σ : L2.St} {H : Hp} {s s1 : Shared} {vs : List V} {ds : List PyData} {us : List Value} {Qv : VK} {A : Around} (hA : A.units ≤ X.A.units + 3)
    (I : Inv X pins σ H s) (kp : ∀ b o, s.heap.get? b = some o → s1.heap.get? b = some o) (es : ∃ h' tk, s1 = { s with heap := h', toks := tk }) (ra : RpAll Γ.K H vs ds) (rv : Vals vs us) (hc : CanSort ds) (hz : ds.length ≤ sizeLine)
    (hm : Hold Γ.K H M) (q : NewL (sortD ds) M Q) (k : KOk Γ.K H Q Qv) (E' : Value → Shared → Prop) :
    wpAny (model X.prog X.w) A (Builtin.«list.sort» ⟨[.ref s1.heap.objs.size], []⟩) (fun f s' => f = .done (.ret .none) ∧ EP X pins σ Qv (.ref s1.heap.objs.size) s') E' { s1 with heap := s1.heap.push (seqObj "list" us.toArray 0) } := by
  have hu := fit_units fit
  have kp2 : ∀ b o, s.heap.get? b = some o → (PySem.W.sortingHeap (s1.heap.push (seqObj "list" us.toArray 0)) s1.heap.objs.size us).get? b = some o := fun b o e =>
    PySem.W.sortingHeap_old (Nat.ne_of_lt (Heap.lt_size (kp b o e))) (Heap.get?_push_of_some _ (kp b o e))
  have hlen : vs.length = ds.length := ra.length
  have zs : (vs.zip ds).map Prod.snd = ds := zip_snd hlen
  obtain ⟨e1, e2⟩ := each_zip I fit.K kp2 ra rv hc.2.1.1
  have e3 : PySem.W.EachIs (fun v d => ∃ as, Reads (PySem.W.sortingHeap (s1.heap.push (seqObj "list" us.toArray 0)) s1.heap.objs.size us) v d as) us ds := by
    have := PySem.W.each_map (R := fun v d => ∃ as, Reads (PySem.W.sortingHeap (s1.heap.push (seqObj "list" us.toArray 0)) s1.heap.objs.size us) v d as) Prod.snd e2
    rw [zs] at this
    exact this
  refine PySem.W.list_sort_vals (s := { s1 with heap := s1.heap.push (seqObj "list" us.toArray 0) }) (n := 0) (Heap.get?_push_size _ rfl)
    (sortsAt_any (s := { s1 with heap := PySem.W.sortingHeap (s1.heap.push (seqObj "list" us.toArray 0)) s1.heap.objs.size us }) e3 hc (fun d hd => by have := depth_mem hd; have := hc.2.1.2; omega)) (by rw [← rv.length, hlen]; exact hz) ⟨rfl, ?_⟩
  have se := PySem.W.sortVals_data (R := fun u (b : V × PyData) => RelV b.1 u) (enc := Prod.snd) false e1 e2 (by rw [zs]; exact hc.1)
  rw [zs] at se
  have rvo := vals_each se
  have hsm : ((vs.zip ds).mergeSort (PySem.W.dataLe false Prod.snd)).map Prod.snd = sortD ds := by
    rw [PySem.W.sort_maps (s := leD) Prod.snd (fun a _ b _ => by rw [PySem.W.dataLe_eq]; rfl), zs]
    rfl
  have ro : RpAll Γ.K H (((vs.zip ds).mergeSort (PySem.W.dataLe false Prod.snd)).map Prod.fst) (sortD ds) := by
    rw [← hsm]
    exact RpAll.of_each fun b hb => RpAll.zip_mem ra b ((List.mergeSort_perm _ _).mem_iff.mp hb)
  obtain ⟨c, hcl⟩ := sortedHeap_at (h := s1.heap.push (seqObj "list" us.toArray 0)) (a := s1.heap.objs.size) (n := 0) (vs := us) (out := (PySem.W.sortVals (PySem.W.dataKind (PySem.W.sortingHeap (s1.heap.push (seqObj "list" us.toArray 0)) s1.heap.objs.size us) ds) false us us).toArray) (Heap.get?_push_size _ rfl)
  obtain ⟨hh, tk, rfl⟩ := es
  have hgone : s.heap.get? hh.objs.size = none := by
    cases q : s.heap.get? hh.objs.size with
    | none => rfl
    | some o => exact absurd (Heap.lt_size (kp _ _ q)) (Nat.lt_irrefl _)
  refine newL_laid (s := s) (t' := tk) (its := PySem.W.sortVals (PySem.W.dataKind (PySem.W.sortingHeap (hh.push (seqObj "list" us.toArray 0)) hh.objs.size us) ds) false us us) (n := c) I fit.K (fun b u e => ?_) hgone hcl rvo ?_ ro hm q k
  · have q := kp b u e
    have hlt := Heap.lt_size q
    rw [sortedHeap_old (Nat.ne_of_lt hlt) (by rw [size_push']; exact Nat.lt_succ_of_lt hlt)]
    exact Heap.get?_push_of_some _ q
  · rw [ro.length]
    show (ds.mergeSort leD).length ≤ _
    rw [List.length_mergeSort]
    exact hz
def oSorted : ON := fun xs M Q => ∃ g ds, xs = [g] ∧ SeqV M g ds ∧ CanSort ds ∧ ds.length ≤ sizeLine ∧ NewL (sortD ds) M Q
theorem o_sorted : OpN Γ (.builtin "sorted") oSorted := fun X fit pins s σ H vs us Qv I rv ⟨xs, M, Q, rs, hm, ⟨g, ds, e, sv, hc, hz, q⟩, k⟩ => by
  subst e
  obtain ⟨v, rfl⟩ : ∃ v, vs = [v] := by
    cases rs with
    | cons r t => cases t; exact ⟨_, rfl⟩
  have r : RG Γ.K H v g := by
    cases rs with
    | cons r t => exact r
  obtain ⟨u, rfl, ru⟩ := vals1 rv
  have fin : ∀ (its : List Value) (ys : List V), RpAll Γ.K H ys ds → Vals ys its → ∀ {a : Addr} {T : String} {o : Obj} {n : Nat}, T = "list" ∨ T = "tuple" → s.heap.get? a = some o → o.cls = .type T → o.data = .seq its.toArray n →
      wpAny (model X.prog X.w) X.A (call (.builtin "sorted") [.ref a]) (EP X pins σ Qv) X.xe s := fun its ys ra rw1 a T o n hT ho hcl hd =>
    sorted_of_col (C := fun vs s1 => vs = its ∧ (∀ b o, s.heap.get? b = some o → s1.heap.get? b = some o) ∧ ∃ h' tk, s1 = { s with heap := h', toks := tk }) (args_sorted1 _) (fun _ => args_list_sort _)
      (fun E => wpAny_collect_seq a hT ho hcl hd (fun h' kp => ⟨by simp, kp, h', s.toks, rfl⟩) (by rw [List.size_toArray, ← rw1.length, ra.length]; exact hz))
      (fun vs s1 ⟨e1, kp, es⟩ => by
        subst e1
        refine ⟨by rw [← rw1.length, ra.length]; exact hz, fun E' => sort_tail fit (A := X.A.in1.in1) (by show X.A.units + 1 + 1 ≤ _; omega) I kp es ra rw1 hc hz hm q k E'⟩)
  cases sv with
  | t =>
    obtain ⟨a, ys, rfl, ha, ra⟩ := Rp.sqt r
    obtain ⟨its, rw1, ⟨o, ho, hcl, n, hd⟩, _⟩ := I.tuple (.inl (.inl ha))
    cases ru
    exact fin its ys ra rw1 (.inr rfl) ho hcl hd
  | l hl =>
    obtain ⟨a, ys, rfl, ha, ra⟩ := hl.sql hm r
    rw [← fit.K] at ha
    obtain ⟨its, rw1, ⟨o, n, ho, hcl, _, hd⟩, _⟩ := I.list ha
    cases ru
    exact fin its ys ra rw1 (.inl rfl) ho hcl hd
end
end B
end
section
set_option maxHeartbeats 4000000
/-! D5: more built-ins: list, tuple, sums, isinstance, items, slices, methods, stores. -/
namespace B
open PySem PySem.Spec PyProof.Rows L2
section
variable {Γ : Gam}
theorem rgs1 {K : PySem.W.Frag} {H : Hp} {vs : List V} {g : G} (h : RGs K H vs [g]) : ∃ v, vs = [v] ∧ RG K H v g := by
  cases h with
  | cons r t => cases t; exact ⟨_, rfl, r⟩
theorem rgs2 {K : PySem.W.Frag} {H : Hp} {vs : List V} {g g' : G} (h : RGs K H vs [g, g']) : ∃ v v', vs = [v, v'] ∧ RG K H v g ∧ RG K H v' g' := by
  cases h with
  | cons r t => cases t with | cons r2 t => cases t; exact ⟨_, _, rfl, r, r2⟩
/-- list(xs) -/
def oList : ON := fun xs M Q => ∃ g ds, xs = [g] ∧ SeqV M g ds ∧ NewL ds M Q
theorem o_list : OpN Γ (.type "list") oList := fun X fit pins s σ H vs us Qv I rv ⟨xs, M, Q, rs, hm, ⟨g, ds, e, sv, q⟩, k⟩ => by
  subst e
  obtain ⟨v, rfl, r⟩ := rgs1 rs
  obtain ⟨u, rfl, ru⟩ := vals1 rv
  have fin : ∀ (its : List Value) (ys : List V), RpAll Γ.K H ys ds → Vals ys its → ys.length ≤ sizeLine → ∀ {a : Addr} {T : String} {o : Obj} {n : Nat}, T = "list" ∨ T = "tuple" → s.heap.get? a = some o → o.cls = .type T → o.data = .seq its.toArray n →
      wpAny (model X.prog X.w) X.A (call (.type "list") [.ref a]) (EP X pins σ Qv) X.xe s := fun its ys ra rw1 z a T o n hT ho hcl hd =>
    call_list_seq a hT ho hcl hd (fun h' c' kp e => newL_laid (t' := s.toks) I fit.K kp (get_size_none _) e rw1 z ra hm q k) (by rw [List.size_toArray, ← rw1.length]; exact z)
  cases sv with
  | t =>
    obtain ⟨a, ys, rfl, ha, ra⟩ := Rp.sqt r
    obtain ⟨its, rw1, ⟨o, ho, hcl, n, hd⟩, z⟩ := I.tuple (.inl (.inl ha))
    cases ru
    exact fin its ys ra rw1 z (.inr rfl) ho hcl hd
  | l hl =>
    obtain ⟨a, ys, rfl, ha, ra⟩ := hl.sql hm r
    rw [← fit.K] at ha
    obtain ⟨its, rw1, ⟨o, n, ho, hcl, _, hd⟩, z⟩ := I.list ha
    cases ru
    exact fin its ys ra rw1 z (.inl rfl) ho hcl hd
/-- tuple(xs) -/
def oTuple : ON := fun xs M Q => ∃ g ds, xs = [g] ∧ SeqV M g ds ∧ Q (.d (.tuple ds)) M
theorem o_tuple : OpN Γ (.type "tuple") oTuple := fun X fit => CallR.mono' call_tuple_of fun vs H Qv ⟨xs, M, Q, rs, hm, ⟨g, ds, e, sv, q⟩, k⟩ => by
  subst e
  obtain ⟨v, rfl, r⟩ := rgs1 rs
  cases sv with
  | t =>
    obtain ⟨a, ys, rfl, ha, ra⟩ := Rp.sqt r
    exact ⟨a, ys, rfl, .inr ⟨.inl (.inl ha), k.here hm r q⟩⟩
  | l hl =>
    obtain ⟨a, ys, rfl, ha, ra⟩ := hl.sql hm r
    rw [← fit.K] at ha
    exact ⟨a, ys, rfl, .inl ⟨ha, fun p np => k (.ref p) _ (.d (.tuple ds)) M (.new np) (hm.keep (new_keeps np)) (rgd (Rp.tup upd_same (ra.mono (.new np)))) q⟩⟩
/-- sum, any, all, max, min of lists -/
def oSum : ON := fun xs M Q => ∃ g, ∃ ns : List Int, xs = [g] ∧ DatV M g (.list (ns.map PyData.int)) ∧ Q (.d (.int ns.sum)) M
theorem o_sum : OpN Γ (.builtin "sum") oSum := fun X fit => CallR.mono' (cr_sum fit.calm) fun vs H Qv ⟨xs, M, Q, rs, hm, ⟨g, ns, e, sv, q⟩, k⟩ => by
  subst e
  obtain ⟨v, rfl, r⟩ := rgs1 rs
  obtain ⟨a, ys, rfl, ha, ra⟩ := sv.sql hm r
  rw [← fit.K] at ha
  rw [ra.ints] at ha
  exact ⟨a, ns, rfl, ha, k.here hm (rgd (Rp.int _)) q⟩
def oAny : ON := fun xs M Q => ∃ g, ∃ bs : List Bool, xs = [g] ∧ DatV M g (.list (bs.map PyData.bool)) ∧ Q (.d (.bool (bs.any id))) M
theorem o_any : OpN Γ (.builtin "any") oAny := fun X fit => CallR.mono' (cr_any fit.calm) fun vs H Qv ⟨xs, M, Q, rs, hm, ⟨g, ns, e, sv, q⟩, k⟩ => by
  subst e
  obtain ⟨v, rfl, r⟩ := rgs1 rs
  obtain ⟨a, ys, rfl, ha, ra⟩ := sv.sql hm r
  rw [← fit.K] at ha
  rw [ra.bls] at ha
  exact ⟨a, ns, rfl, ha, k.here hm (rgd (Rp.bl _)) q⟩
def oAll : ON := fun xs M Q => ∃ g, ∃ bs : List Bool, xs = [g] ∧ DatV M g (.list (bs.map PyData.bool)) ∧ Q (.d (.bool (bs.all id))) M
theorem o_all : OpN Γ (.builtin "all") oAll := fun X fit => CallR.mono' (cr_all fit.calm) fun vs H Qv ⟨xs, M, Q, rs, hm, ⟨g, ns, e, sv, q⟩, k⟩ => by
  subst e
  obtain ⟨v, rfl, r⟩ := rgs1 rs
  obtain ⟨a, ys, rfl, ha, ra⟩ := sv.sql hm r
  rw [← fit.K] at ha
  rw [ra.bls] at ha
  exact ⟨a, ns, rfl, ha, k.here hm (rgd (Rp.bl _)) q⟩
def maxI : List Int → Int
  | [] => 0
  | x :: xs => xs.foldl (fun a y => if a < y then y else a) x
theorem foldmax_spec : ∀ (xs : List Int) (x : Int), (xs.foldl (fun a y => if a < y then y else a) x = x ∨ xs.foldl (fun a y => if a < y then y else a) x ∈ xs) ∧ x ≤ xs.foldl (fun a y => if a < y then y else a) x ∧ ∀ y ∈ xs, y ≤ xs.foldl (fun a y => if a < y then y else a) x
  | [], x => ⟨.inl rfl, Int.le_refl _, fun _ h => by cases h⟩
  | z :: xs, x => by
    show ((xs.foldl _ (if x < z then z else x)) = x ∨ _) ∧ _
    obtain ⟨h1, h2, h3⟩ := foldmax_spec xs (if x < z then z else x)
    have hz : z ≤ (if x < z then z else x) := by split <;> omega
    have hx : x ≤ (if x < z then z else x) := by split <;> omega
    refine ⟨?_, Int.le_trans hx h2, fun y hy => ?_⟩
    · rcases h1 with h1 | h1
      · by_cases c : x < z
        · right
          show List.foldl _ (if x < z then z else x) xs ∈ z :: xs
          rw [h1, if_pos c]
          exact List.mem_cons_self
        · left
          rw [h1, if_neg c]
      · right
        exact List.mem_cons_of_mem _ h1
    · rcases List.mem_cons.mp hy with rfl | hy
      · exact Int.le_trans hz h2
      · exact h3 y hy
theorem maxI_spec {ns : List Int} (h : ns ≠ []) : maxI ns ∈ ns ∧ ∀ y ∈ ns, y ≤ maxI ns := by
  cases ns with
  | nil => exact absurd rfl h
  | cons x xs =>
    obtain ⟨h1, h2, h3⟩ := foldmax_spec xs x
    refine ⟨?_, fun y hy => ?_⟩
    · rcases h1 with h1 | h1
      · show List.foldl _ x xs ∈ _
        rw [h1]
        exact List.mem_cons_self
      · exact List.mem_cons_of_mem _ h1
    · rcases List.mem_cons.mp hy with rfl | hy
      · exact h2
      · exact h3 y hy
def oMaxL : ON := fun xs M Q => ∃ g, ∃ ns : List Int, xs = [g] ∧ DatV M g (.list (ns.map PyData.int)) ∧ ns ≠ [] ∧ Q (.d (.int (maxI ns))) M
theorem o_maxL : OpN Γ (.builtin "max") oMaxL := fun X fit => CallR.mono' (cr_max fit.calm) fun vs H Qv ⟨xs, M, Q, rs, hm, ⟨g, ns, e, sv, ne, q⟩, k⟩ => by
  subst e
  obtain ⟨v, rfl, r⟩ := rgs1 rs
  obtain ⟨a, ys, rfl, ha, ra⟩ := sv.sql hm r
  rw [← fit.K] at ha
  rw [ra.ints] at ha
  refine ⟨a, ns, rfl, ha, List.length_pos_iff.mpr ne, fun m h1 h2 => ?_⟩
  have e : m = maxI ns := Int.le_antisymm ((maxI_spec ne).2 _ h1) (h2 _ (maxI_spec ne).1)
  rw [e]
  exact k.here hm (rgd (Rp.int _)) q
/-! ### isinstance, a built-in class -/
def tyD : PyData → String
  | .none => "NoneType"
  | .bool _ => "bool"
  | .int _ => "int"
  | .str _ => "str"
  | .list _ => "list"
  | .tuple _ => "tuple"
  | .dict _ => "dict"
theorem tyX_of {K : PySem.W.Frag} {H : Hp} {v : V} {d : PyData} (r : Rp K H v d) : TyX K H v (.type (tyD d)) := by
  cases r with
  | non => exact .base .non
  | bl b => exact .base (.bl b)
  | int i => exact .base (.int i)
  | str x => exact .base (.str x)
  | lst e _ => exact .base (.frz e)
  | tup e _ => exact .base (.tup e)
  | dct e _ => exact .fDict e
def isaD (n : String) (d : PyData) : Bool := (kitB (tyD d) n).getD false
def oIsi : ON := fun xs M Q => ∃ d n, xs = [.d d, .op (.ty n)] ∧ (kitB (tyD d) n).isSome = true ∧ Q (.d (.bool (isaD n d))) M
theorem o_isi : OpN Γ (.builtin "isinstance") oIsi := fun X fit => CallR.mono' call_isi fun vs H Qv ⟨xs, M, Q, rs, hm, ⟨d, n, e, z, q⟩, k⟩ => by
  subst e
  obtain ⟨v, v', rfl, r, r'⟩ := rgs2 rs
  cases r'
  obtain ⟨b, hb⟩ := Option.isSome_iff_exists.mp z
  have eb : isaD n d = b := by unfold isaD; rw [hb]; rfl
  rw [eb] at q
  exact ⟨v, .ty n, .type (tyD d), .type n, b, rfl, .ty n, by rw [fit.K]; exact tyX_of r, kit_ty hb, k.here hm (rgd (Rp.bl _)) q⟩
theorem kit_tuple : ∀ d : PyData, kitB (tyD d) "tuple" = some (match d with | .tuple _ => true | _ => false) := by
  have h1 : kitB "NoneType" "tuple" = some false := by decide +kernel
  have h2 : kitB "bool" "tuple" = some false := by decide +kernel
  have h3 : kitB "int" "tuple" = some false := by decide +kernel
  have h4 : kitB "str" "tuple" = some false := by decide +kernel
  have h5 : kitB "list" "tuple" = some false := by decide +kernel
  have h6 : kitB "tuple" "tuple" = some true := by decide +kernel
  have h7 : kitB "dict" "tuple" = some false := by decide +kernel
  intro d
  cases d
  · exact h1
  · exact h2
  · exact h3
  · exact h4
  · exact h5
  · exact h6
  · exact h7
theorem kit_int : ∀ d : PyData, kitB (tyD d) "int" = some (match d with | .int _ => true | .bool _ => true | _ => false) := by
  have h1 : kitB "NoneType" "int" = some false := by decide +kernel
  have h2 : kitB "bool" "int" = some true := by decide +kernel
  have h3 : kitB "int" "int" = some true := by decide +kernel
  have h4 : kitB "str" "int" = some false := by decide +kernel
  have h5 : kitB "list" "int" = some false := by decide +kernel
  have h6 : kitB "tuple" "int" = some false := by decide +kernel
  have h7 : kitB "dict" "int" = some false := by decide +kernel
  intro d
  cases d
  · exact h1
  · exact h2
  · exact h3
  · exact h4
  · exact h5
  · exact h6
  · exact h7
theorem kit_bool : ∀ d : PyData, kitB (tyD d) "bool" = some (match d with | .bool _ => true | _ => false) := by
  have h1 : kitB "NoneType" "bool" = some false := by decide +kernel
  have h2 : kitB "bool" "bool" = some true := by decide +kernel
  have h3 : kitB "int" "bool" = some false := by decide +kernel
  have h4 : kitB "str" "bool" = some false := by decide +kernel
  have h5 : kitB "list" "bool" = some false := by decide +kernel
  have h6 : kitB "tuple" "bool" = some false := by decide +kernel
  have h7 : kitB "dict" "bool" = some false := by decide +kernel
  intro d
  cases d
  · exact h1
  · exact h2
  · exact h3
  · exact h4
  · exact h5
  · exact h6
  · exact h7
theorem kit_str : ∀ d : PyData, kitB (tyD d) "str" = some (match d with | .str _ => true | _ => false) := by
  have h1 : kitB "NoneType" "str" = some false := by decide +kernel
  have h2 : kitB "bool" "str" = some false := by decide +kernel
  have h3 : kitB "int" "str" = some false := by decide +kernel
  have h4 : kitB "str" "str" = some true := by decide +kernel
  have h5 : kitB "list" "str" = some false := by decide +kernel
  have h6 : kitB "tuple" "str" = some false := by decide +kernel
  have h7 : kitB "dict" "str" = some false := by decide +kernel
  intro d
  cases d
  · exact h1
  · exact h2
  · exact h3
  · exact h4
  · exact h5
  · exact h6
  · exact h7
def isT : PyData → Bool
  | .tuple _ => true
  | _ => false
def isI : PyData → Bool
  | .int _ => true
  | .bool _ => true
  | _ => false
def isBl : PyData → Bool
  | .bool _ => true
  | _ => false
def isS : PyData → Bool
  | .str _ => true
  | _ => false
theorem oIsi_tuple {d : PyData} {M : Sto} {Q : G → Sto → Prop} (q : Q (.d (.bool (isT d))) M) : oIsi [.d d, .op (.ty "tuple")] M Q := ⟨d, "tuple", rfl, by rw [kit_tuple]; rfl, by
  unfold isaD
  rw [kit_tuple]
  cases d <;> exact q⟩
theorem oIsi_int {d : PyData} {M : Sto} {Q : G → Sto → Prop} (q : Q (.d (.bool (isI d))) M) : oIsi [.d d, .op (.ty "int")] M Q := ⟨d, "int", rfl, by rw [kit_int]; rfl, by
  unfold isaD
  rw [kit_int]
  cases d <;> exact q⟩
theorem oIsi_bool {d : PyData} {M : Sto} {Q : G → Sto → Prop} (q : Q (.d (.bool (isBl d))) M) : oIsi [.d d, .op (.ty "bool")] M Q := ⟨d, "bool", rfl, by rw [kit_bool]; rfl, by
  unfold isaD
  rw [kit_bool]
  cases d <;> exact q⟩
theorem oIsi_str {d : PyData} {M : Sto} {Q : G → Sto → Prop} (q : Q (.d (.bool (isS d))) M) : oIsi [.d d, .op (.ty "str")] M Q := ⟨d, "str", rfl, by rw [kit_str]; rfl, by
  unfold isaD
  rw [kit_str]
  cases d <;> exact q⟩
/-! ### calls of built-ins -/
variable {ρ : GEnv} {M : Sto} {Q : G → Sto → Prop} {a b c : Expr} {pos p : Pos} {e : Expr} {es : List Expr} {x : Str} {o : ON} {id T : String}
theorem de_callB (ho : OpN Γ (.builtin id) o) (hm : Γ.mg x = none) (hv : bootBuiltins x = some (.builtin id)) (h : DA Γ (e :: es) ρ M fun gs M1 => o gs M1 Q) (hg : GlD Γ x := by rfl) (hn : x ≠ "__name__" := by decide) (hdb : (x == ("__debug__" : Str)) = false := by decide)
    (he : ∀ env, starEach (e :: es) env = (false, eval e env) :: starEach es env := by intro _; rfl) (hpl : ∀ env, (backTo pos (starEach es env)).any (·.1) = false := by intro _; rfl) : DE Γ (.Call (.Name x p) (e :: es) [] pos) ρ M Q :=
  DE.of (fun X f => pe_callB (ho X f) (GlD.gl f hg) (by rw [f.mg]; exact hm) hv (pa_all f (e :: es)) hn hdb (he _) (hpl _)) fun X f σ H Qv r h0 k => allA_of h r h0 fun vs H1 gs M1 p1 r1 h1 rs q => ⟨gs, M1, Q, rs, h1, q, KOk.later p1 k⟩
theorem de_callT (ho : OpN Γ (.type T) o) (hm : Γ.mg x = none) (hv : bootBuiltins x = some (.type T)) (h : DA Γ (e :: es) ρ M fun gs M1 => o gs M1 Q) (hg : GlD Γ x := by rfl) (hn : x ≠ "__name__" := by decide) (hdb : (x == ("__debug__" : Str)) = false := by decide)
    (he : ∀ env, starEach (e :: es) env = (false, eval e env) :: starEach es env := by intro _; rfl) (hpl : ∀ env, (backTo pos (starEach es env)).any (·.1) = false := by intro _; rfl) : DE Γ (.Call (.Name x p) (e :: es) [] pos) ρ M Q :=
  DE.of (fun X f => pe_callTy (ho X f) (GlD.gl f hg) (by rw [f.mg]; exact hm) hv (pa_all f (e :: es)) hn hdb (he _) (hpl _)) fun X f σ H Qv r h0 k => allA_of h r h0 fun vs H1 gs M1 p1 r1 h1 rs q => ⟨gs, M1, Q, rs, h1, q, KOk.later p1 k⟩
theorem pd_callB {gs : List G} {z : G} (ho : OpN Γ (.builtin id) o) (hm : Γ.mg x = none) (hv : bootBuiltins x = some (.builtin id)) (h : PAs Γ ρ M (e :: es) gs) (q : o gs M fun g M' => g = z ∧ M' = M) (hg : GlD Γ x := by rfl) (hn : x ≠ "__name__" := by decide) (hdb : (x == ("__debug__" : Str)) = false := by decide)
    (he : ∀ env, starEach (e :: es) env = (false, eval e env) :: starEach es env := by intro _; rfl) (hpl : ∀ env, (backTo pos (starEach es env)).any (·.1) = false := by intro _; rfl) : PD Γ (.Call (.Name x p) (e :: es) [] pos) ρ M z :=
  de_callB ho hm hv (h.da q) hg hn hdb he hpl
theorem pd_callT {gs : List G} {z : G} (ho : OpN Γ (.type T) o) (hm : Γ.mg x = none) (hv : bootBuiltins x = some (.type T)) (h : PAs Γ ρ M (e :: es) gs) (q : o gs M fun g M' => g = z ∧ M' = M) (hg : GlD Γ x := by rfl) (hn : x ≠ "__name__" := by decide) (hdb : (x == ("__debug__" : Str)) = false := by decide)
    (he : ∀ env, starEach (e :: es) env = (false, eval e env) :: starEach es env := by intro _; rfl) (hpl : ∀ env, (backTo pos (starEach es env)).any (·.1) = false := by intro _; rfl) : PD Γ (.Call (.Name x p) (e :: es) [] pos) ρ M z :=
  de_callT ho hm hv (h.da q) hg hn hdb he hpl
/-! ### items -/
def Ix2 (Γ : Gam) (o : O2) : Prop := ∀ X, Γ.Fit X → IxR X (up2 Γ.K o)
def oIx : O2 := fun x y M Q => ∃ ds i d, SeqV M x ds ∧ y = .d (.int i) ∧ atI ds i = some d ∧ Q (.d d) M
theorem IxR.mono' {X : Cx} {r r' : R2} (h : IxR X r) (k : ∀ x y H Q, r' x y H Q → r x y H Q) : IxR X r' := fun a b pins s σ H x y v u Q I rx ry q e => h a b pins s σ H x y v u Q I rx ry (k x y H Q q) e
theorem o_ix : Ix2 Γ oIx := fun X fit => IxR.mono' (ix_list.or ix_tup) fun vx vy H Qv ⟨x, y, M, Q, rx, ry, hm, ⟨ds, i, d, sv, e, ha, q⟩, k⟩ => by
  subst e
  cases ry
  have look : ∀ {us : List V}, RpAll Γ.K H us ds → ∃ v, atI us i = some v ∧ Rp Γ.K H v d := fun {us} ra => by
    unfold atI at ha ⊢
    rw [ra.length]
    cases e : ixN ds.length i with
    | none =>
      rw [e] at ha
      cases ha
    | some j =>
      rw [e] at ha
      obtain ⟨v, e2, rv⟩ := ra.get (show ds[j]? = some d from ha)
      exact ⟨v, e2, rv⟩
  cases sv with
  | t =>
    obtain ⟨a, us, rfl, h, ra⟩ := Rp.sqt rx
    obtain ⟨v, e2, rv⟩ := look ra
    exact .inr ⟨a, us, i, v, rfl, rfl, .inl (.inl h), e2, k.here hm (rgd rv) q⟩
  | l hl =>
    obtain ⟨a, us, rfl, h, ra⟩ := hl.sql hm rx
    obtain ⟨v, e2, rv⟩ := look ra
    rw [← fit.K] at h
    exact .inl ⟨a, us, i, v, rfl, rfl, h, e2, k.here hm (rgd rv) q⟩
/-- an item of a list of the store, of any kind -/
def oIxM : O2 := fun x y M Q => ∃ p gs i g, x = .op (.ref p) ∧ M p = some (.lst gs) ∧ y = .d (.int i) ∧ atI gs i = some g ∧ Q g M
theorem o_ixM : Ix2 Γ oIxM := fun X fit => IxR.mono' ix_list fun vx vy H Qv ⟨x, y, M, Q, rx, ry, hm, ⟨p, gs, i, g, e1, e3, e2, ha, q⟩, k⟩ => by
  subst e1 e2
  cases rx
  cases ry
  obtain ⟨us, e4, rs⟩ := hm _ _ e3
  unfold atI at ha
  cases e : ixN gs.length i with
  | none =>
    rw [e] at ha
    cases ha
  | some j =>
    rw [e] at ha
    obtain ⟨v, e5, rv⟩ := rs.get (show gs[j]? = some g from ha)
    refine ⟨p, us, i, v, rfl, rfl, .inl (.inl e4), ?_, k.here hm rv q⟩
    unfold atI
    rw [rs.length, e]
    exact e5
theorem de_ix {o : O2} (ho : Ix2 Γ o) (h : DE Γ a ρ M fun x M1 => DE Γ b ρ M1 fun y M2 => o x y M2 Q) (hs : PlainIx b := by intro _ _; rfl) : DE Γ (.Subscript a b pos) ρ M Q :=
  DE.of (fun X f => pe_ix (ho X f) (pe_all f a) (pe_all f b) hs) fun X f σ H Qv r h0 k => all_of h r h0 fun v H1 x M1 p1 r1 h1 rx d =>
    all_of d r1 h1 fun u H2 y M2 p2 r2 h2 ry q => ⟨x, y, M2, Q, rx.mono p2, ry, h2, q, KOk.later (p1.trans p2) k⟩
theorem pd_ix {o : O2} {x y z : G} (ho : Ix2 Γ o) (ha : PD Γ a ρ M x) (hb : PD Γ b ρ M y) (q : o x y M fun g M' => g = z ∧ M' = M) (hs : PlainIx b := by intro _ _; rfl) : PD Γ (.Subscript a b pos) ρ M z := de_ix ho (PD.de ha (PD.de hb q)) hs
/-! ### slices -/
def cutD (xs : List PyData) (lo hi : Option Int) : List PyData := (xs.drop (HT.sIx xs.length 0 lo)).take (HT.sIx xs.length xs.length hi - HT.sIx xs.length 0 lo)
/-- a bound of a slice, pure -/
inductive PPart (Γ : Gam) (ρ : GEnv) (M : Sto) : Option Expr → Option Int → Prop
  | none : PPart Γ ρ M none none
  | some {e : Expr} {i : Int} (h : PD Γ e ρ M (.d (.int i))) : PPart Γ ρ M (some e) (some i)
theorem PPart.po {X : Cx} (f : Γ.Fit X) {e : Option Expr} {o : Option Int} (h : PPart Γ ρ M e o) : PO X e (fun σ H Q => REnv Γ.K H σ ρ ∧ Hold Γ.K H M ∧ ∀ H', Pers H H' → Hold Γ.K H' M → Q o H') := by
  cases h with
  | none => exact ⟨fun pins s σ H Q I ⟨r, h, q⟩ => po_none.run pins s σ H Q I (q H (.refl H) h)⟩
  | some h => exact ⟨fun pins s σ H Q I ⟨r, hh, q⟩ => (po_some (pe_all f _)).run pins s σ H Q I (all_of h r hh fun v H1 g M1 p1 r1 h1 rg ⟨e1, e2⟩ => by
      subst e1 e2
      cases rg
      exact ⟨_, rfl, q H1 p1 h1⟩)⟩
theorem pd_slT {lo hi : Option Expr} {l h : Option Int} {ds : List PyData} {p2 : Pos} (he : PD Γ e ρ M (.d (.tuple ds))) (hl : PPart Γ ρ M lo l) (hh : PPart Γ ρ M hi h) : PD Γ (.Subscript e (.Slice lo hi none p2) pos) ρ M (.d (.tuple (cutD ds l h))) :=
  DE.of (fun X f => pe_slice sl_tupA (pe_all f e) (hl.po f) (hh.po f)) fun X f σ H Qv r h0 k => all_of he r h0 fun v H1 g M1 p1 r1 h1 rg ⟨e1, e2⟩ => by
    subst e1 e2
    obtain ⟨a, us, rfl, ha, ra⟩ := Rp.sqt rg
    refine ⟨r1, h1, fun H2 p2 h2 => ⟨r1.mono p2, h2, fun H3 p3 h3 => ?_⟩⟩
    have p23 := p2.trans p3
    have ha3 := p23.1 _ _ ha
    have ra3 := ra.mono p23
    refine ⟨a, us, rfl, .inl (.inl ha3), fun w => ?_, fun nw p np => ?_⟩
    · refine k (.ref a) H3 (.d (.tuple (cutD ds l h))) M1 (p1.trans p23) h3 ?_ ⟨rfl, rfl⟩
      have e : cutD ds l h = ds := by
        unfold cutD
        rw [← ra3.length, w.1, w.2]
        simp [ra3.length]
      rw [e]
      exact Rp.tup ha3 ra3
    · refine k (.ref p) _ (.d (.tuple (cutD ds l h))) M1 (p1.trans (p23.trans (.new np))) (h3.keep (new_keeps np)) (rgd (Rp.tup upd_same ?_)) ⟨rfl, rfl⟩
      unfold cutD cutV
      rw [← ra3.length]
      exact ((ra3.mono (.new np)).drop _).take _
theorem de_slL {lo hi : Option Expr} {l h : Option Int} {x : G} {ds : List PyData} {p2 : Pos} (he : PD Γ e ρ M x) (hx : DatV M x (.list ds)) (hl : PPart Γ ρ M lo l) (hh : PPart Γ ρ M hi h) (q : NewL (cutD ds l h) M Q) : DE Γ (.Subscript e (.Slice lo hi none p2) pos) ρ M Q := by
  have hr : ∀ X, Γ.Fit X → SlR X (fun vx lo hi H Qv => ∃ a us H0, vx = .ref a ∧ DatV M x (.list ds) ∧ Hold Γ.K H M ∧ RG Γ.K H vx x ∧ SqL Γ.K H a us ∧ RpAll Γ.K H us ds ∧ lo = l ∧ hi = h ∧ Pers H0 H ∧ KOk Γ.K H0 Q Qv) := by
    intro X f pins s σ H vx v vl vu lo hi sl Qv I rx hs pl pu ⟨a, us, H0, e1, _, hm, _, ha, ra, e2, e3, p0, k⟩
    subst e1 e2 e3
    cases rx
    rw [← f.K] at ha
    obtain ⟨its, rv, ht, hz⟩ := I.list ha
    have hlen := rv.length
    refine ⟨"list", _, slot_list_getitem.lookup, ht.isList.typeIs, ?_⟩
    refine wpAny_getItem_list_slice ht.isList hs pl pu .none (by simp) ?_ (by rw [List.size_toArray] <;> omega)
    rw [slicePick_cut, ← hlen]
    refine newL_laid (t' := s.toks) (n := 0) I f.K (fun b ob q => Heap.get?_push_of_some _ q) (get_size_none _) (Heap.get?_push_size _ rfl) ((rv.drop (HT.sIx us.length 0 lo)).take (HT.sIx us.length us.length hi - HT.sIx us.length 0 lo)) (Nat.le_trans (cutV_length us lo hi) hz) ?_ hm q (KOk.later p0 k)
    unfold cutD
    rw [← ra.length]
    exact (ra.drop _).take _
  exact DE.of (fun X f => pe_slice (hr X f) (pe_all f e) (hl.po f) (hh.po f)) fun X f σ H Qv r h0 k => all_of he r h0 fun v H1 g M1 p1 r1 h1 rg ⟨e1, e2⟩ => by
    subst e1 e2
    refine ⟨r1, h1, fun H2 p2 h2 => ⟨r1.mono p2, h2, fun H3 p3 h3 => ?_⟩⟩
    have rg3 := rg.mono (p2.trans p3)
    obtain ⟨a, us, e3, ha, ra⟩ := hx.sql h3 rg3
    exact ⟨a, us, H, e3, hx, h3, rg3, ha, ra, rfl, rfl, p1.trans (p2.trans p3), k⟩
theorem pd_slL {lo hi : Option Expr} {l h : Option Int} {x : G} {ds : List PyData} {p2 : Pos} (he : PD Γ e ρ M x) (hx : DatV M x (.list ds)) (hl : PPart Γ ρ M lo l) (hh : PPart Γ ρ M hi h) : PD Γ (.Subscript e (.Slice lo hi none p2) pos) ρ M (.d (.list (cutD ds l h))) :=
  de_slL he hx hl hh (.frz ⟨rfl, rfl⟩)
end
end B
end
section
set_option maxHeartbeats 4000000
/-! D6: targets, statements, loops. -/
namespace B
open PySem PySem.Spec PyProof.Rows L2
theorem env_sc {P : Env → Prop} {sc : Scope} (h : ∀ env : Env, P { env with scope := sc }) : ∀ env : Env, env.scope = sc → P env := fun env e => by subst e; exact h env
/-- things of the store are forgotten -/
theorem de_drop {Γ : Gam} {e : Expr} {ρ : GEnv} {M : Sto} {Q : G → Sto → Prop} (h : DE Γ e ρ M fun g M1 => ∃ M2, (∀ p o, M2 p = some o → M1 p = some o) ∧ Q g M2) : DE Γ e ρ M Q :=
  DE.of (fun X f => h.run X f) fun X f σ H Qv r h0 k => ⟨r, h0, fun v H' g M' p h' rg ⟨M2, w, q⟩ => k v H' g M2 p (h'.weak w) rg q⟩
/-! ### targets -/
def tDG (K : PySem.W.Frag) (g : G) (ρ : GEnv) (M : Sto) (Q : GEnv → Sto → Prop) : TG := fun v σ H Qs => RG K H v g ∧ REnv K H σ ρ ∧ Hold K H M ∧ ∀ σ' H' ρ' M', Pers H H' → REnv K H' σ' ρ' → Hold K H' M' → Q ρ' M' → Qs σ' H'
structure DG (Γ : Gam) (tg : Expr) (g : G) (ρ : GEnv) (M : Sto) (Q : GEnv → Sto → Prop) : Prop where
  run : ∀ X, Γ.Fit X → PG X tg (tDG Γ.K g ρ M Q)
def tAllG (Γ : Gam) (tg : Expr) : TG := fun v σ H Qs => ∃ g ρ M Q, DG Γ tg g ρ M Q ∧ tDG Γ.K g ρ M Q v σ H Qs
theorem PG.mono' {X : Cx} {tg : Expr} {t t' : TG} (h : PG X tg t) (k : ∀ v σ H Q, t' v σ H Q → t v σ H Q) : PG X tg t' := ⟨fun pins s σ H v u Q I r q => h.run pins s σ H v u Q I r (k v σ H Q q)⟩
theorem PGs.mono' {X : Cx} {tg : List Expr} {t t' : TGs} (h : PGs X tg t) (k : ∀ v σ H Q, t' v σ H Q → t v σ H Q) : PGs X tg t' := ⟨fun pins s σ H v u Q I r q => h.run pins s σ H v u Q I r (k v σ H Q q)⟩
theorem pg_all {Γ : Gam} {X : Cx} (f : Γ.Fit X) (tg : Expr) : PG X tg (tAllG Γ tg) := ⟨fun pins s σ H v u Q I r ⟨g, ρ, M, Q', d, h⟩ => (d.run X f).run pins s σ H v u Q I r h⟩
def tDGs (K : PySem.W.Frag) (gs : List G) (ρ : GEnv) (M : Sto) (Q : GEnv → Sto → Prop) : TGs := fun vs σ H Qs => RGs K H vs gs ∧ REnv K H σ ρ ∧ Hold K H M ∧ ∀ σ' H' ρ' M', Pers H H' → REnv K H' σ' ρ' → Hold K H' M' → Q ρ' M' → Qs σ' H'
structure DGs (Γ : Gam) (tgs : List Expr) (gs : List G) (ρ : GEnv) (M : Sto) (Q : GEnv → Sto → Prop) : Prop where
  run : ∀ X, Γ.Fit X → PGs X tgs (tDGs Γ.K gs ρ M Q)
def tAllGs (Γ : Gam) (tg : List Expr) : TGs := fun v σ H Qs => ∃ g ρ M Q, DGs Γ tg g ρ M Q ∧ tDGs Γ.K g ρ M Q v σ H Qs
theorem pgs_all {Γ : Gam} {X : Cx} (f : Γ.Fit X) (tg : List Expr) : PGs X tg (tAllGs Γ tg) := ⟨fun pins s σ H v u Q I r ⟨g, ρ, M, Q', d, h⟩ => (d.run X f).run pins s σ H v u Q I r h⟩
section
variable {Γ : Gam} {ρ : GEnv} {M : Sto} {pos : Pos}
theorem dg_name {Q : GEnv → Sto → Prop} (i : Nat) {x : Str} {g : G} (q : Q (ρ.set i (some g)) M) (hN : Γ.N[i]? = some x := by rfl) (hx : Loc Γ.sc x := by first | exact Or.inl rfl | exact Or.inr rfl) (ha0 : Γ.asg x = true := by rfl) : DG Γ (.Name x pos) g ρ M Q :=
  ⟨fun X f => PG.mono' (pg_name (i := i) f.nd (by rw [f.N]; exact hN) (by rw [f.sc]; exact hx) (f.fn x (by rw [f.sc]; exact hx) ha0)) fun v σ H Qs ⟨rg, r, h, k⟩ => k _ H _ M (.refl H) (r.set i rg) h q⟩
theorem dgs_nil {Q : GEnv → Sto → Prop} (q : Q ρ M) : DGs Γ [] [] ρ M Q := ⟨fun X f => PGs.mono' pgs_nil fun vs σ H Qs ⟨rg, r, h, k⟩ => by
  cases rg
  exact ⟨rfl, k σ H ρ M (.refl H) r h q⟩⟩
theorem dgs_cons {Q : GEnv → Sto → Prop} {e : Expr} {es : List Expr} {g : G} {gs : List G} (h : DG Γ e g ρ M fun ρ1 M1 => DGs Γ es gs ρ1 M1 Q)
    (hs : ∀ env, (assignEach (e :: es) env).map (·.2) = assign e env :: (assignEach es env).map (·.2) := by intro _; rfl) : DGs Γ (e :: es) (g :: gs) ρ M Q :=
  ⟨fun X f => PGs.mono' (pgs_cons (pg_all f e) (pgs_all f es) (hs _)) fun vs σ H Qs ⟨rg, r, h0, k⟩ => by
    cases rg with
    | cons r1 r2 =>
      refine ⟨_, _, rfl, g, ρ, M, _, h, r1, r, h0, fun σ' H' ρ' M' p r' h' d => ?_⟩
      exact ⟨gs, ρ', M', Q, d, RGs.mono p r2, r', h', fun σ2 H2 ρ2 M2 p2 r2' h2 q => k σ2 H2 ρ2 M2 (p.trans p2) r2' h2 q⟩⟩
theorem dg_tup {Q : GEnv → Sto → Prop} {es : List Expr} {k : Nat} {ds : List PyData} {n : Nat} (h : DGs Γ es (ds.map G.d) ρ M Q) (hl : ds.length = n) (hn : ∀ env, (assignEach es env).length = n := by intro _; rfl) (hst : ∀ env, (assignEach es env).findIdx? (·.1) = none := by intro _; rfl) : DG Γ (.Tuple es k pos) (.d (.tuple ds)) ρ M Q :=
  ⟨fun X f => PG.mono' (pg_tup (n := n) f.calm (pgs_all f es) (hn _) (hst _)) fun v σ H Qs ⟨rg, r, h0, kk⟩ => by
    obtain ⟨a, us, rfl, ha, ra⟩ := Rp.sqt rg
    exact ⟨a, us, rfl, .inl (.inl ha), by rw [ra.length, hl], _, ρ, M, Q, h, RGs.of_data ra, r, h0, kk⟩⟩
/-- o[i] = .. of a list of the store -/
theorem dg_subL {Q : GEnv → Sto → Prop} {o i : Expr} {g : G} (h : DE Γ o ρ M fun x M1 => DE Γ i ρ M1 fun y M2 => ∃ p gs k j, x = .op (.ref p) ∧ M2 p = some (.lst gs) ∧ y = .d (.int k) ∧ ixN gs.length k = some j ∧ Q ρ (put M2 p (.lst (gs.set j g))))
    (ha : ∀ env v, assign (.Subscript o i pos) env v = (do
      let ov ← holding [v] (eval o env)
      let iv ← holding [v, ov] (eval i env)
      standAt pos
      holding [v, ov, iv] (setItem ov iv v)
      release [v, ov, iv] []) := by intro _ _; rfl) : DG Γ (.Subscript o i pos) g ρ M Q :=
  ⟨fun X f => PG.mono' (pg_sub (pe_all f o) (pe_all f i) set_list (ha _)) fun v σ H Qs ⟨rg, r, h0, k⟩ => all_of h r h0 fun vo H1 x M1 p1 r1 h1 rx d => all_of d r1 h1 fun vi H2 y M2 p2 r2 h2 ry ⟨p, gs, kk, j, e1, e2, e3, hj, q⟩ => by
    subst e1 e3
    cases rx
    cases ry
    obtain ⟨us, e4, rs⟩ := h2 _ _ e2
    have rg2 := rg.mono (p1.trans p2)
    refine ⟨p, us, kk, j, rfl, rfl, e4, by rw [rs.length]; exact hj, ?_⟩
    obtain ⟨pr, hp⟩ := h2.put (o := .lst (us.set j v)) (m' := .lst (gs.set j g)) e2 ⟨_, upd_same, RGs.mono (Pers.put e4 (fun _ z => nomatch z) (fun _ _ z => nomatch z)) (rs.set rg2 j)⟩
    exact k σ _ ρ _ (p1.trans (p2.trans pr)) (r2.mono pr) hp q⟩
/-- one argument -/
theorem da_one {e : Expr} {Q : G → Sto → Prop} (h : DE Γ e ρ M Q) (hs : ∀ env, starEach [e] env = [(false, eval e env)]) : DA Γ [e] ρ M fun gs M1 => ∃ g, gs = [g] ∧ Q g M1 :=
  da_cons (DE.mono h fun g M1 q => da_nil ⟨g, rfl, q⟩) fun env => by rw [hs]; rfl
/-! ### statements -/
variable {D : DEnds}
theorem D1.of {st : Stmt} {t : Cx → TS} (h : ∀ X, Γ.Fit X → PS X st (t X)) (k : ∀ X, Γ.Fit X → ∀ E σ H, REnv Γ.K H σ ρ → Hold Γ.K H M → EndsOk Γ.K H D E → t X E σ H) : D1 Γ st ρ M D := ⟨fun X f => PS.mono' (h X f) fun E σ H ⟨a, b, c⟩ => k X f E σ H a b c⟩
theorem d1_asg {tg e : Expr} (h : DE Γ e ρ M fun g M1 => DG Γ tg g ρ M1 D.nx) (hs : ∀ env, swapsWithSole [tg] e pos.line env = pure false := by intro _; rfl) (hw : ∀ env : Env, swappedStores [tg] e { env with scope := Γ.sc } = pure none := by intro _; rfl)
    (h1 : ∀ env, (assignEach [tg] env).map (·.2) = [assign tg env] := by intro _; rfl) : D1 Γ (.Assign [tg] e pos) ρ M D :=
  D1.of (fun X f => ps_asg (pe_all f e) (pg_all f tg) (hs _) (env_sc (P := fun env => swappedStores [tg] e env = pure none) hw _ f.sc) (h1 _)) fun X f E σ H r h0 k => all_of h r h0 fun v H1 g M1 p1 r1 h1' rg d => ⟨g, ρ, M1, D.nx, d, rg, r1, h1', fun σ' H' ρ' M' p r' h' q => k.nx σ' H' ρ' M' (p1.trans p) r' h' q⟩
theorem d1_set (i : Nat) {x : Str} {e : Expr} {p' : Pos} (h : DE Γ e ρ M fun g M1 => D.nx (ρ.set i (some g)) M1) (hN : Γ.N[i]? = some x := by rfl) (hx : Loc Γ.sc x := by first | exact Or.inl rfl | exact Or.inr rfl) (ha0 : Γ.asg x = true := by rfl)
    (hs : ∀ env : Env, swapsWith e (some (.Name x p')) pos.line { env with scope := Γ.sc } = pure false := by intro _; rfl) : D1 Γ (.Assign [.Name x p'] e pos) ρ M D :=
  D1.of (fun X f => ps_set (i := i) f.nd (by rw [f.N]; exact hN) (by rw [f.sc]; exact hx) (pe_all f e) (env_sc (P := fun env => swapsWith e (some (.Name x p')) pos.line env = pure false) hs _ f.sc) (f.fn x (by rw [f.sc]; exact hx) ha0)) fun X f E σ H r h0 k => all_of h r h0 fun v H1 g M1 p1 r1 h1 rg q => k.nx _ H1 _ M1 p1 (r1.set i rg) h1 q
theorem d1_par (i j : Nat) {x y : Str} {a b : Expr} {px py pt : Pos} {kt k2 pt2} (h : DA Γ [a, b] ρ M fun gs M1 => ∃ g1 g2, gs = [g1, g2] ∧ D.nx ((ρ.set i (some g1)).set j (some g2)) M1) (hij : i ≠ j := by decide) (hN : Γ.N[i]? = some x := by rfl) (hN2 : Γ.N[j]? = some y := by rfl)
    (hx : Γ.sc.names.lookup x = some .local := by rfl) (hy : Γ.sc.names.lookup y = some .local := by rfl)
    (hw : ∀ env : Env, swappedStores [.Tuple [.Name x px, .Name y py] kt pt] (.Tuple [a, b] k2 pt2) { env with scope := Γ.sc } = pure (some [x, y]) := by intro _; rfl)
    (hs : ∀ env, swapsWithSole [.Tuple [.Name x px, .Name y py] kt pt] (.Tuple [a, b] k2 pt2) pos.line env = pure false := by intro _; rfl) : D1 Γ (.Assign [.Tuple [.Name x px, .Name y py] kt pt] (.Tuple [a, b] k2 pt2) pos) ρ M D :=
  D1.of (fun X f => ps_par (i := i) (j := j) f.calm f.nd (by rw [f.N]; exact hN) (by rw [f.N]; exact hN2) hij (by rw [f.sc]; exact hx) (by rw [f.sc]; exact hy) (pa_all f [a, b]) (env_sc (P := fun env => swappedStores [.Tuple [.Name x px, .Name y py] kt pt] (.Tuple [a, b] k2 pt2) env = pure (some [x, y])) hw _ f.sc) (hs _)) fun X f E σ H r h0 k => allA_of h r h0 fun vs H1 gs M1 p1 r1 h1 rs ⟨g1, g2, e, q⟩ => by
    subst e
    cases rs with
    | cons ra t => cases t with
      | cons rb t =>
        cases t
        exact ⟨_, _, rfl, k.nx _ H1 _ M1 p1 ((r1.set i ra).set j rb) h1 q⟩
theorem d1_ret {e : Expr} (h : DE Γ e ρ M D.rt) : D1 Γ (.Return (some e) pos) ρ M D :=
  D1.of (fun X f => ps_ret (pe_all f e)) fun X f E σ H r h0 k => all_of h r h0 fun v H1 g M1 p1 r1 h1 rg q => k.rt v H1 g M1 p1 h1 rg q
theorem d1_expr {e : Expr} (h : DE Γ e ρ M fun _ M1 => D.nx ρ M1) (hs : ∀ env, swapsWith e none pos.line env = pure false := by intro _; rfl) : D1 Γ (.Expr e pos) ρ M D :=
  D1.of (fun X f => ps_expr (pe_all f e) (hs _)) fun X f E σ H r h0 k => all_of h r h0 fun v H1 g M1 p1 r1 h1 rg q => k.nx σ H1 ρ M1 p1 r1 h1 q
theorem d1_if {c : Expr} {a b : List Stmt} (h : DT Γ c ρ M fun k M1 => if k = true then DS Γ a ρ M1 D else DS Γ b ρ M1 D) : D1 Γ (.If c a b pos) ρ M D :=
  D1.of (fun X f => ps_if (pt_all f c) (pss_all f a) (pss_all f b)) fun X f E σ H r h0 k => allT_of h r h0 fun v H1 M1 p1 r1 h1 q => by
    cases v with
    | true => exact iteT ⟨ρ, M1, D, by simpa using q, r1, h1, k.later p1⟩
    | false => exact iteF ⟨ρ, M1, D, by simpa using q, r1, h1, k.later p1⟩
theorem d1_cont (q : D.ct ρ M) : D1 Γ (.Continue pos) ρ M D := D1.of (fun X f => ps_continue) fun X f E σ H r h0 k => k.ct σ H ρ M (.refl H) r h0 q
/-- name += an int -/
theorem d1_augAdd (i : Nat) {x : Str} {e : Expr} {p' : Pos} {m : Int} (hv : ρ[i]? = some (some (.d (.int m)))) (h : DE Γ e ρ M fun g M1 => ∃ n, g = .d (.int n) ∧ D.nx (ρ.set i (some (.d (.int (m + n))))) M1) (hN : Γ.N[i]? = some x := by rfl) (hx : Loc Γ.sc x := by first | exact Or.inl rfl | exact Or.inr rfl) (ha0 : Γ.asg x = true := by rfl) : D1 Γ (.AugAssign (.Name x p') .Add e pos) ρ M D :=
  D1.of (fun X f => ps_aug (i := i) f.nd (by rw [f.N]; exact hN) (by rw [f.sc]; exact hx) (pe_all f e) ip_add (f.fn x (by rw [f.sc]; exact hx) ha0)) fun X f E σ H r h0 k => by
    obtain ⟨v, e1, rv⟩ := r.2 i _ hv
    cases rv
    refine ⟨_, e1, all_of h r h0 fun v H1 g M1 p1 r1 h1 rg ⟨n, e2, q⟩ => ?_⟩
    subst e2
    cases rg
    exact ⟨m, n, rfl, rfl, k.nx _ H1 _ M1 p1 (r1.set i (rgd (Rp.int _))) h1 q⟩
/-- while, by a measure -/
theorem d1_while {c : Expr} {body : List Stmt} (h : ∃ W : Nat → GEnv → Sto → Prop, (∃ m, W m ρ M) ∧ ∀ m ρ M, W m ρ M → DT Γ c ρ M fun b M1 => if b = true then DS Γ body ρ M1 { D with nx := fun ρ' M' => ∃ m', m' < m ∧ W m' ρ' M', ct := fun ρ' M' => ∃ m', m' < m ∧ W m' ρ' M', bk := D.nx } else D.nx ρ M1) : D1 Γ (.While c body [] pos) ρ M D := by
  obtain ⟨W, ⟨m0, w0⟩, turn⟩ := h
  refine D1.of (fun X f => ps_while f.own (pt_all f c) (pss_all f body)) fun X f E σ H r h0 k => ?_
  refine ⟨fun m σ' H' => ∃ ρ' M', Pers H H' ∧ REnv Γ.K H' σ' ρ' ∧ Hold Γ.K H' M' ∧ W m ρ' M', ⟨m0, ρ, M, .refl H, r, h0, w0⟩, ?_⟩
  rintro m σ1 H1 ⟨ρ1, M1, p1, r1, h1, w1⟩
  refine allT_of (turn m ρ1 M1 w1) r1 h1 fun b H2 M2 p2 r2 h2 q => ?_
  cases b with
  | false =>
    rw [if_neg Bool.false_ne_true] at q ⊢
    exact k.nx σ1 H2 ρ1 M2 (p1.trans p2) r2 h2 q
  | true =>
    rw [if_pos rfl] at q ⊢
    refine ⟨fun σ' H' => ∃ ρ' M' m', m' < m ∧ Pers H H' ∧ REnv Γ.K H' σ' ρ' ∧ Hold Γ.K H' M' ∧ W m' ρ' M', fun σ' H' ⟨ρ', M', m', a, b⟩ => ⟨m', a, ρ', M', b⟩, ρ1, M2, _, q, r2, h2, ?_⟩
    exact ⟨fun σ' H' ρ' M' p r' h' ⟨m', hm, w⟩ => ⟨ρ', M', m', hm, p1.trans (p2.trans p), r', h', w⟩, fun v H' g M' p h' rg q => k.rt v H' g M' (p1.trans (p2.trans p)) h' rg q,
      fun σ' H' ρ' M' p r' h' q => k.nx σ' H' ρ' M' (p1.trans (p2.trans p)) r' h' q, fun σ' H' ρ' M' p r' h' ⟨m', hm, w⟩ => ⟨ρ', M', m', hm, p1.trans (p2.trans p), r', h', w⟩⟩
/-! ### iterators -/
structure FeedsD (K : PySem.W.Frag) (H0 : Hp) (J : It) (C : Sto → Prop) (gs : List G) : Prop where
  stop : ∀ i H M, Pers H0 H → Hold K H M → C M → gs.length ≤ i → J.stop i H
  go : ∀ i g H M, Pers H0 H → Hold K H M → C M → gs[i]? = some g → J.go i H ∧ ∀ x H', J.yld i H x H' → Pers H H' ∧ Hold K H' M ∧ RG K H' x g
def tDI (K : PySem.W.Frag) (ρ : GEnv) (M : Sto) (Q : List G → (Sto → Prop) → Sto → Prop) : TI := fun σ H R => REnv K H σ ρ ∧ Hold K H M ∧ ∀ J H' C gs M', Pers H H' → Hold K H' M' → FeedsD K H' J C gs → Q gs C M' → R J H'
structure DI (Γ : Gam) (tg iter : Expr) (ρ : GEnv) (M : Sto) (Q : List G → (Sto → Prop) → Sto → Prop) : Prop where
  run : ∀ X, Γ.Fit X → PI X tg iter (tDI Γ.K ρ M Q)
theorem PI.mono' {X : Cx} {tg it : Expr} {t t' : TI} (h : PI X tg it t) (k : ∀ σ H Q, t' σ H Q → t σ H Q) : PI X tg it t' := ⟨fun pins s σ H R I q => h.run pins s σ H R I (k σ H R q)⟩
def tAllI (Γ : Gam) (tg it : Expr) : TI := fun σ H R => ∃ ρ M Q, DI Γ tg it ρ M Q ∧ tDI Γ.K ρ M Q σ H R
theorem pi_all {Γ : Gam} {X : Cx} (f : Γ.Fit X) (tg it : Expr) : PI X tg it (tAllI Γ tg it) := ⟨fun pins s σ H R I ⟨ρ, M, Q', d, h⟩ => (d.run X f).run pins s σ H R I h⟩
theorem DI.of {tg it : Expr} {Q : List G → (Sto → Prop) → Sto → Prop} {t : Cx → TI} (h : ∀ X, Γ.Fit X → PI X tg it (t X)) (k : ∀ X, Γ.Fit X → ∀ σ H R, REnv Γ.K H σ ρ → Hold Γ.K H M → (∀ J H' C gs M', Pers H H' → Hold Γ.K H' M' → FeedsD Γ.K H' J C gs → Q gs C M' → R J H') → t X σ H R) : DI Γ tg it ρ M Q :=
  ⟨fun X f => PI.mono' (h X f) fun σ H R ⟨a, b, c⟩ => k X f σ H R a b c⟩
variable {tg : Expr} {Q : List G → (Sto → Prop) → Sto → Prop}
theorem feeds_data {K : PySem.W.Frag} {H0 : Hp} {a : Addr} {xs : List V} {ds : List PyData} (C : Sto → Prop) (hq : ∀ H M, Pers H0 H → Hold K H M → C M → ∃ xs, SqL K H a xs ∧ RpAll K H xs ds)
   : FeedsD K H0 (Itl K a) C (ds.map G.d) := by
  refine ⟨fun i H M p h c hl => ?_, fun i g H M p h c e => ?_⟩
  · obtain ⟨xs, q, ra⟩ := hq H M p h c
    exact ⟨xs, q, by rw [ra.length]; rw [List.length_map] at hl; exact hl⟩
  · obtain ⟨xs, q, ra⟩ := hq H M p h c
    obtain ⟨v, e2, rv⟩ := RGs.get (RGs.of_data ra) e
    exact ⟨⟨xs, v, q, e2⟩, fun x H' ⟨e3, y⟩ => by
      subst e3
      have := y xs q
      rw [e2] at this
      cases this
      exact ⟨.refl _, h, rv⟩⟩
theorem di_list {e : Expr} (h : DE Γ e ρ M fun g M1 => ∃ ds, DatV M1 g (.list ds) ∧ Q (ds.map G.d) (fun M => DatV M g (.list ds)) M1) : DI Γ tg e ρ M Q :=
  DI.of (fun X f => pi_list (pe_all f e)) fun X f σ H R r h0 k => all_of h r h0 fun v H1 g M1 p1 r1 h1 rg ⟨ds, hd, q⟩ => by
    obtain ⟨a, xs, rfl, ha, ra⟩ := hd.sql h1 rg
    refine ⟨a, rfl, ⟨xs, by rw [f.K]; exact ha⟩, ?_⟩
    rw [f.K]
    refine k (Itl Γ.K a) H1 _ _ M1 p1 h1 (feeds_data (xs := xs) _ fun H M p h c => ?_) q
    obtain ⟨a', xs', e, ha', ra'⟩ := c.sql h (rg.mono p)
    cases e
    exact ⟨xs', ha', ra'⟩
theorem di_listM {e : Expr} (h : DE Γ e ρ M fun g M1 => ∃ p gs, g = .op (.ref p) ∧ M1 p = some (.lst gs) ∧ Q gs (fun M => M p = some (.lst gs)) M1) : DI Γ tg e ρ M Q :=
  DI.of (fun X f => pi_list (pe_all f e)) fun X f σ H R r h0 k => all_of h r h0 fun v H1 g M1 p1 r1 h1 rg ⟨p, gs, e1, e2, q⟩ => by
    subst e1
    cases rg
    obtain ⟨us, e4, rs⟩ := h1 _ _ e2
    refine ⟨p, rfl, ⟨us, .inl (.inl e4)⟩, ?_⟩
    rw [f.K]
    refine k (Itl Γ.K p) H1 _ gs M1 p1 h1 ⟨fun i H M p h c hl => ?_, fun i g H M p h c e => ?_⟩ q
    · obtain ⟨us, e5, rs⟩ := h _ _ c
      exact ⟨us, .inl (.inl e5), by rw [rs.length]; exact hl⟩
    · obtain ⟨us, e5, rs⟩ := h _ _ c
      obtain ⟨v, e6, rv⟩ := rs.get e
      exact ⟨⟨us, v, .inl (.inl e5), e6⟩, fun x H' ⟨e7, y⟩ => by
        subst e7
        have := y us (.inl (.inl e5))
        rw [e6] at this
        cases this
        exact ⟨.refl _, h, rv⟩⟩
theorem di_tup {e : Expr} (h : DE Γ e ρ M fun g M1 => ∃ ds, g = .d (.tuple ds) ∧ Q (ds.map G.d) (fun _ => True) M1) : DI Γ tg e ρ M Q :=
  DI.of (fun X f => pi_tup (pe_all f e)) fun X f σ H R r h0 k => all_of h r h0 fun v H1 g M1 p1 r1 h1 rg ⟨ds, e, q⟩ => by
    subst e
    obtain ⟨a, xs, rfl, ha, ra⟩ := Rp.sqt rg
    refine ⟨a, rfl, ⟨xs, .inl (.inl ha)⟩, ?_⟩
    rw [f.K]
    refine k (Itt Γ.K a) H1 _ _ M1 p1 h1 ⟨fun i H M p h c hl => ?_, fun i g H M p h c e => ?_⟩ q
    · exact ⟨xs, .inl (.inl (p.1 _ _ ha)), by rw [ra.length]; rw [List.length_map] at hl; exact hl⟩
    · obtain ⟨v, e2, rv⟩ := RGs.get (RGs.of_data (ra.mono p)) e
      have hq : SqT Γ.K H a xs := .inl (.inl (p.1 _ _ ha))
      exact ⟨⟨xs, v, hq, e2⟩, fun x H' ⟨e3, y⟩ => by
        subst e3
        have := y xs hq
        rw [e2] at this
        cases this
        exact ⟨.refl _, h, rv⟩⟩
def rangeG (lo : Int) (n : Nat) : List G := (List.range n).map fun i => .d (.int (lo + (i : Nat)))
theorem rangeG_get {lo : Int} {n i : Nat} {g : G} (h : (rangeG lo n)[i]? = some g) : i < n ∧ g = .d (.int (lo + (i : Nat))) := by
  unfold rangeG at h
  rw [List.getElem?_map] at h
  by_cases hi : i < n
  · rw [List.getElem?_range hi] at h
    cases h
    exact ⟨hi, rfl⟩
  · rw [List.getElem?_eq_none_iff.mpr (by rw [List.length_range]; omega)] at h
    cases h
theorem rangeG_length {lo : Int} {n : Nat} : (rangeG lo n).length = n := by unfold rangeG; rw [List.length_map, List.length_range]
theorem feeds_range {K : PySem.W.Frag} {H0 : Hp} {lo : Int} {n : Nat} : FeedsD K H0 (Itr lo n) (fun _ => True) (rangeG lo n) := by
  refine ⟨fun i H M p h c hl => by rw [rangeG_length] at hl; exact hl, fun i g H M p h c e => ?_⟩
  obtain ⟨hi, e⟩ := rangeG_get e
  subst e
  exact ⟨hi, fun x H' ⟨e3, e4⟩ => by
    subst e3 e4
    exact ⟨.refl _, h, rgd (Rp.int _)⟩⟩
theorem di_range1 {a : Expr} {p pos : Pos} (hm : Γ.mg "range" = none) (h : DE Γ a ρ M fun g M1 => ∃ j : Int, g = .d (.int j) ∧ j ≤ 2 ^ 60 ∧ -(2 ^ 60) ≤ j ∧ Q (rangeG 0 j.toNat) (fun _ => True) M1) (hg : GlD Γ "range" := by rfl) (hs : ∀ env, starEach [a] env = [(false, eval a env)] := by intro _; rfl) : DI Γ tg (.Call (.Name "range" p) [a] [] pos) ρ M Q :=
  DI.of (fun X f => pi_range1 (GlD.gl f hg) (by rw [f.mg]; exact hm) (pa_all f [a]) (hs _)) fun X f σ H R r h0 k => allA_of (da_one h hs) r h0 fun vs H1 gs M1 p1 r1 h1 rs ⟨g, e0, j, e, b1, b2, q⟩ => by
    subst e0 e
    cases rs with
    | cons ra t =>
      cases t
      cases ra
      exact ⟨j, rfl, by omega, by omega, k _ H1 _ _ M1 p1 h1 feeds_range q⟩
theorem di_range2 {a b : Expr} {p pos : Pos} (hm : Γ.mg "range" = none) (h : DA Γ [a, b] ρ M fun gs M1 => ∃ i j : Int, gs = [.d (.int i), .d (.int j)] ∧ (i ≤ 2 ^ 60 ∧ -(2 ^ 60) ≤ i ∧ j ≤ 2 ^ 60 ∧ -(2 ^ 60) ≤ j) ∧ Q (rangeG i (j - i).toNat) (fun _ => True) M1) (hg : GlD Γ "range" := by rfl)
    (hs : ∀ env, starEach [a, b] env = [(false, eval a env), (false, eval b env)] := by intro _; rfl) (hs2 : ∀ env, starEach [b] env = [(false, eval b env)] := by intro _; rfl) : DI Γ tg (.Call (.Name "range" p) [a, b] [] pos) ρ M Q :=
  DI.of (fun X f => pi_range2 (GlD.gl f hg) (by rw [f.mg]; exact hm) (pa_all f [a, b]) (hs _) (hs2 _)) fun X f σ H R r h0 k => allA_of h r h0 fun vs H1 gs M1 p1 r1 h1 rs ⟨i, j, e, b1, q⟩ => by
    subst e
    cases rs with
    | cons ra t => cases t with
      | cons rb t =>
        cases t
        cases ra
        cases rb
        exact ⟨i, j, rfl, by omega, k _ H1 _ _ M1 p1 h1 feeds_range q⟩
def enumG (i : Nat) : List PyData → List G
  | [] => []
  | d :: ds => .d (.tuple [.int (i : Nat), d]) :: enumG (i + 1) ds
theorem enumG_length : ∀ (ds : List PyData) (i : Nat), (enumG i ds).length = ds.length
  | [], _ => rfl
  | d :: ds, i => by rw [enumG, List.length_cons, List.length_cons, enumG_length ds]
theorem enumG_get : ∀ {ds : List PyData} {k i : Nat} {g : G}, (enumG k ds)[i]? = some g → ∃ d, ds[i]? = some d ∧ g = .d (.tuple [.int ((k + i : Nat) : Int), d])
  | [], _, _, _, h => by simp [enumG] at h
  | d :: ds, k, 0, g, h => by
    simp [enumG] at h
    exact ⟨d, rfl, h.symm⟩
  | d :: ds, k, i + 1, g, h => by
    simp only [enumG, List.getElem?_cons_succ] at h
    obtain ⟨d', e1, e2⟩ := enumG_get h
    refine ⟨d', by simpa using e1, ?_⟩
    rw [e2, show k + 1 + i = k + (i + 1) by omega]
theorem pair_new {K : PySem.W.Frag} {H : Hp} {M : Sto} {T : Addr} {x y : V} {a b : PyData} (h : Hold K H M) (hT : H T = none) (ra : Rp K H x a) (rb : Rp K H y b) : Pers H (upd H T (.tup [x, y])) ∧ Hold K (upd H T (.tup [x, y])) M ∧ RG K (upd H T (.tup [x, y])) (.ref T) (.d (.tuple [a, b])) :=
  ⟨.new hT, h.keep (new_keeps hT), Rp.tup upd_same (.cons (ra.mono (.new hT)) (.cons (rb.mono (.new hT)) .nil))⟩
theorem di_enum {e : Expr} {p pos tpos : Pos} {elts : List Expr} {kk : Nat} (hm : Γ.mg "enumerate" = none) (h : DE Γ e ρ M fun g M1 => ∃ ds, DatV M1 g (.list ds) ∧ Q (enumG 0 ds) (fun M => DatV M g (.list ds)) M1) (hg : GlD Γ "enumerate" := by rfl) (hs : ∀ env, starEach [e] env = [(false, eval e env)] := by intro _; rfl) : DI Γ (.Tuple elts kk tpos) (.Call (.Name "enumerate" p) [e] [] pos) ρ M Q :=
  DI.of (fun X f => pi_enum (GlD.gl f hg) (by rw [f.mg]; exact hm) (pa_all f [e]) (hs _)) fun X f σ H R r h0 k => allA_of (da_one h hs) r h0 fun vs H1 gs M1 p1 r1 h1 rs ⟨g, e, ds, hd, q⟩ => by
    subst e
    cases rs with
    | cons rg t =>
      cases t
      obtain ⟨a, xs, rfl, ha, ra⟩ := hd.sql h1 rg
      refine ⟨a, xs, rfl, by rw [f.K]; exact ha, ?_⟩
      rw [f.K]
      have look : ∀ H M, Pers H1 H → Hold Γ.K H M → DatV M g (.list ds) → ∃ xs, SqL Γ.K H a xs ∧ RpAll Γ.K H xs ds := fun H M p h c => by
        obtain ⟨a', xs', e, ha', ra'⟩ := c.sql h (rg.mono p)
        cases e
        exact ⟨xs', ha', ra'⟩
      refine k (Ite Γ.K a) H1 (fun M => DatV M g (.list ds)) _ M1 p1 h1 ⟨fun i H M p h c hl => ?_, fun i g H M p h c e => ?_⟩ q
      · obtain ⟨xs, q, ra⟩ := look H M p h c
        exact ⟨xs, q, by rw [ra.length]; rw [enumG_length] at hl; exact hl⟩
      · obtain ⟨xs, q, ra⟩ := look H M p h c
        obtain ⟨d, e1, e2⟩ := enumG_get e
        obtain ⟨v, e3, rv⟩ := ra.get e1
        subst e2
        refine ⟨⟨xs, v, q, e3⟩, fun x H' ⟨T, y, ex, hT, eH, hy⟩ => ?_⟩
        subst ex eH
        have := hy xs q
        rw [e3] at this
        cases this
        rw [Nat.zero_add]
        exact pair_new h hT (.int _) rv
def zipG : List PyData → List PyData → List G
  | a :: as, b :: bs => .d (.tuple [a, b]) :: zipG as bs
  | _, _ => []
theorem zipG_get : ∀ {as bs : List PyData} {i : Nat} {g : G}, (zipG as bs)[i]? = some g → ∃ a b, as[i]? = some a ∧ bs[i]? = some b ∧ g = .d (.tuple [a, b])
  | [], _, _, _, h => by simp [zipG] at h
  | _ :: _, [], _, _, h => by simp [zipG] at h
  | a :: as, b :: bs, 0, g, h => by
    simp [zipG] at h
    exact ⟨a, b, rfl, rfl, h.symm⟩
  | a :: as, b :: bs, i + 1, g, h => by
    simp only [zipG, List.getElem?_cons_succ] at h
    obtain ⟨x, y, e1, e2, e3⟩ := zipG_get h
    exact ⟨x, y, by simpa using e1, by simpa using e2, e3⟩
theorem zipG_length : ∀ (as bs : List PyData), (zipG as bs).length = min as.length bs.length
  | [], _ => by simp [zipG]
  | _ :: _, [] => by simp [zipG]
  | a :: as, b :: bs => by
    rw [zipG, List.length_cons, zipG_length as bs, List.length_cons, List.length_cons]
    omega
/-- zip of two lists, or of two tuples -/
theorem di_zip {e e2 : Expr} {p pos tpos : Pos} {elts : List Expr} {kk : Nat} (hm : Γ.mg "zip" = none) (h : DA Γ [e, e2] ρ M fun gs M1 => ∃ g1 g2 as bs, gs = [g1, g2] ∧ ((DatV M1 g1 (.list as) ∧ DatV M1 g2 (.list bs)) ∨ (g1 = .d (.tuple as) ∧ g2 = .d (.tuple bs))) ∧ Q (zipG as bs) (fun M => SeqV M g1 as ∧ SeqV M g2 bs) M1) (hg : GlD Γ "zip" := by rfl)
    (hs : ∀ env, starEach [e, e2] env = (false, eval e env) :: starEach [e2] env := by intro _; rfl) (hpl : ∀ env, (backTo pos (starEach [e2] env)).any (·.1) = false := by intro _; rfl) : DI Γ (.Tuple elts kk tpos) (.Call (.Name "zip" p) [e, e2] [] pos) ρ M Q :=
  DI.of (fun X f => RZ.pi_zipA (GlD.gl f hg) (by rw [f.mg]; exact hm) (pa_all f [e, e2]) (hs _) (hpl _)) fun X f σ H R r h0 k => allA_of h r h0 fun vs H1 gs M1 p1 r1 h1 rs ⟨g1, g2, as, bs, e, hd, q⟩ => by
    subst e
    cases rs with
    | cons rg1 t => cases t with
      | cons rg2 t =>
        cases t
        rw [f.K]
        rcases hd with ⟨d1, d2⟩ | ⟨d1, d2⟩
        · obtain ⟨a, xs, rfl, ha, ra⟩ := d1.sql h1 rg1
          obtain ⟨b, ys, rfl, hb, rb⟩ := d2.sql h1 rg2
          have look1 : ∀ H M, Pers H1 H → Hold Γ.K H M → SeqV M g1 as → ∃ xs, SqL Γ.K H a xs ∧ RpAll Γ.K H xs as := fun H M p h c => by
            cases c with
            | t =>
              cases d1
            | l c =>
              obtain ⟨a', xs', e, ha', ra'⟩ := c.sql h (rg1.mono p)
              cases e
              exact ⟨xs', ha', ra'⟩
          have look2 : ∀ H M, Pers H1 H → Hold Γ.K H M → SeqV M g2 bs → ∃ xs, SqL Γ.K H b xs ∧ RpAll Γ.K H xs bs := fun H M p h c => by
            cases c with
            | t =>
              cases d2
            | l c =>
              obtain ⟨a', xs', e, ha', ra'⟩ := c.sql h (rg2.mono p)
              cases e
              exact ⟨xs', ha', ra'⟩
          refine ⟨a, b, xs, ys, rfl, .inl ⟨ha, hb, ?_⟩⟩
          refine k (Itz Γ.K a b) H1 _ _ M1 p1 h1 ⟨fun i H M p h ⟨c1, c2⟩ hl => ?_, fun i g H M p h ⟨c1, c2⟩ e => ?_⟩ q
          · obtain ⟨us, q1, s1⟩ := look1 H M p h c1
            obtain ⟨ws, q2, s2⟩ := look2 H M p h c2
            rw [zipG_length] at hl
            exact ⟨us, ws, q1, q2, by rw [s1.length, s2.length]; omega⟩
          · obtain ⟨us, q1, s1⟩ := look1 H M p h c1
            obtain ⟨ws, q2, s2⟩ := look2 H M p h c2
            obtain ⟨x, y, e1, e2, e3⟩ := zipG_get e
            obtain ⟨v, e4, rv⟩ := s1.get e1
            obtain ⟨w, e5, rw'⟩ := s2.get e2
            subst e3
            refine ⟨⟨us, ws, v, w, q1, q2, e4, e5⟩, fun x H' ⟨T, y, z, ex, hT, eH, hy, hz⟩ => ?_⟩
            subst ex eH
            have k1 := hy us q1
            rw [e4] at k1
            cases k1
            have k2 := hz ws q2
            rw [e5] at k2
            cases k2
            exact pair_new h hT rv rw'
        · subst d1 d2
          obtain ⟨a, xs, rfl, ha, ra⟩ := Rp.sqt rg1
          obtain ⟨b, ys, rfl, hb, rb⟩ := Rp.sqt rg2
          refine ⟨a, b, xs, ys, rfl, .inr ⟨.inl (.inl ha), .inl (.inl hb), ?_⟩⟩
          refine k (RZ.ItzT Γ.K a b) H1 _ _ M1 p1 h1 ⟨fun i H M p h _ hl => ?_, fun i g H M p h _ e => ?_⟩ q
          · rw [zipG_length] at hl
            exact ⟨xs, ys, .inl (.inl (p.1 _ _ ha)), .inl (.inl (p.1 _ _ hb)), by rw [ra.length, rb.length]; omega⟩
          · have q1 : SqT Γ.K H a xs := .inl (.inl (p.1 _ _ ha))
            have q2 : SqT Γ.K H b ys := .inl (.inl (p.1 _ _ hb))
            obtain ⟨x, y, e1, e2, e3⟩ := zipG_get e
            obtain ⟨v, e4, rv⟩ := (ra.mono p).get e1
            obtain ⟨w, e5, rw'⟩ := (rb.mono p).get e2
            subst e3
            refine ⟨⟨xs, ys, v, w, q1, q2, e4, e5⟩, fun x H' ⟨T, y, z, ex, hT, eH, hy, hz⟩ => ?_⟩
            subst ex eH
            have k1 := hy xs q1
            rw [e4] at k1
            cases k1
            have k2 := hz ys q2
            rw [e5] at k2
            cases k2
            exact pair_new h hT rv rw'
/-! ### for -/
theorem d1_for {iter : Expr} {body : List Stmt} (h : DI Γ tg iter ρ M fun gs C M1 => ∃ I : Nat → GEnv → Sto → Prop, I 0 ρ M1 ∧ (∀ i ρ M, i ≤ gs.length → I i ρ M → C M) ∧
      (∀ i g ρ M, gs[i]? = some g → I i ρ M → DG Γ tg g ρ M fun ρ2 M2 => DS Γ body ρ2 M2 { D with nx := I (i + 1), ct := I (i + 1), bk := D.nx }) ∧ (∀ ρ M, I gs.length ρ M → D.nx ρ M))
    (hs : ∀ env x, foldedSetIterable iter env x = pure x := by intro _ _; rfl) : D1 Γ (.For tg iter body [] pos) ρ M D := by
  refine D1.of (fun X f => ps_for f.own f.calm (pi_all f tg iter) (pg_all f tg) (pss_all f body) (hs _)) fun X f E σ H r h0 k => ?_
  refine ⟨ρ, M, _, h, r, h0, fun J H1 C gs M1 p1 h1 fd ⟨I, i0, hC, step, done⟩ => ?_⟩
  refine ⟨fun i m σ' H' => m = gs.length - i ∧ i ≤ gs.length ∧ ∃ ρ' M', Pers H1 H' ∧ REnv Γ.K H' σ' ρ' ∧ Hold Γ.K H' M' ∧ I i ρ' M', ⟨gs.length, by simp, Nat.zero_le _, ρ, M1, .refl _, r.mono p1, h1, i0⟩, ?_⟩
  rintro i m σ2 H2 ⟨rfl, hi, ρ2, M2, p2, r2, h2, w⟩
  by_cases hlt : i < gs.length
  · have eg : gs[i]? = some gs[i] := by simp [hlt]
    obtain ⟨hgo, hy⟩ := fd.go i _ H2 M2 p2 h2 (hC i ρ2 M2 hi w) eg
    refine .inr ⟨hgo, fun σ' H' => ∃ ρ' M', Pers H1 H' ∧ REnv Γ.K H' σ' ρ' ∧ Hold Γ.K H' M' ∧ I (i + 1) ρ' M', fun σ' H' q => ⟨_, by omega, rfl, hlt, q⟩, fun x H3 y3 => ?_⟩
    obtain ⟨p3, h3, rx⟩ := hy x H3 y3
    refine ⟨_, ρ2, M2, _, step i _ ρ2 M2 eg w, rx, r2.mono p3, h3, fun σ4 H4 ρ4 M4 p4 r4 h4 d => ?_⟩
    have pp := p1.trans (p2.trans (p3.trans p4))
    have pq := p2.trans (p3.trans p4)
    exact ⟨ρ4, M4, _, d, r4, h4, fun σ' H' ρ' M' p r' h' q => ⟨ρ', M', pq.trans p, r', h', q⟩, fun v H' g M' p h' rg q => k.rt v H' g M' (pp.trans p) h' rg q, fun σ' H' ρ' M' p r' h' q => k.nx σ' H' ρ' M' (pp.trans p) r' h' q, fun σ' H' ρ' M' p r' h' q => ⟨ρ', M', pq.trans p, r', h', q⟩⟩
  · have e : i = gs.length := by omega
    subst e
    exact .inl ⟨fd.stop _ H2 M2 p2 h2 (hC _ ρ2 M2 hi w) (Nat.le_refl _), k.nx σ2 H2 ρ2 M2 (p1.trans p2) r2 h2 (done ρ2 M2 w)⟩
end
end B
end
section
set_option maxHeartbeats 4000000
/-! D7: list comprehensions. -/
namespace B
open PySem PySem.Spec PyProof.Rows L2
/-! ### things frozen -/
theorem pe_frz {X : Cx} {e : Expr} {t : TE} (h : PE X e t) : PE X e (fun σ H Q => t σ H fun v H1 => Q v H1 ∨ ∃ d xs, H1 d = some (.lst xs) ∧ ∀ od, Q v (upd H1 d (.frz od (.lst xs)))) := ⟨fun pins s σ H Q I hq => by
  refine thn (h.run pins s σ H _ I hq) fun v s1 ⟨x, H1, I1, r1, q1⟩ => ?_
  rcases q1 with q1 | ⟨d, xs, e, q1⟩
  · exact ⟨x, H1, I1, r1, q1⟩
  · obtain ⟨od, I2⟩ := I1.lock e trivial
    exact ⟨x, _, I2, r1, q1 od⟩⟩
theorem ps_frz {X : Cx} {st : Stmt} {t : TS} (h : PS X st t) : PS X st (fun E σ H => t { E with nx := fun σ' H1 => E.nx σ' H1 ∨ ∃ d xs, H1 d = some (.lst xs) ∧ ∀ od, E.nx σ' (upd H1 d (.frz od (.lst xs))) } σ H) := ⟨fun pins s σ H E I hq => by
  refine thn (h.run pins s σ H _ I hq) fun f s1 q1 => ?_
  cases f with
  | next =>
    obtain ⟨σ', H1, I1, q1⟩ := q1
    rcases q1 with q1 | ⟨d, xs, e, q1⟩
    · exact ⟨σ', H1, I1, q1⟩
    · obtain ⟨od, I2⟩ := I1.lock e trivial
      exact ⟨σ', _, I2, q1 od⟩
  | ret v => exact q1
  | brk => exact q1
  | cont => exact q1⟩
/-- a list of data of the store is told as data from here on -/
theorem hold_frz {K : PySem.W.Frag} {H : Hp} {M : Sto} {p : Addr} {ds : List PyData} {xs : List V} {od : Obj} (h : Hold K H M) (e : H p = some (.lst xs)) (ra : RpAll K H xs ds) : Pers H (upd H p (.frz od (.lst xs))) ∧ Hold K (upd H p (.frz od (.lst xs))) (del M p) ∧ RG K (upd H p (.frz od (.lst xs))) (.ref p) (.d (.list ds)) := by
  have pr : Pers H (upd H p (.frz od (.lst xs))) := Pers.put e (fun _ z => nomatch z) (fun _ _ z => nomatch z)
  refine ⟨pr, fun b o q => ?_, Rp.lst upd_same (ra.mono pr)⟩
  unfold del at q
  by_cases hb : b = p
  · rw [if_pos hb] at q
    cases q
  · rw [if_neg hb] at q
    exact (h b o q).mono pr (upd_ne hb)
/-- what a new list at D may be told as -/
def LcEnd (D : Addr) (acc : List G) (M : Sto) (Q : G → Sto → Prop) : Prop := (∃ ds, acc = ds.map G.d ∧ Q (.d (.list ds)) (del M D)) ∨ Q (.op (.ref D)) M
section
variable {Γ : Gam} {ρ : GEnv} {M : Sto} {pos : Pos}
theorem de_frz {e : Expr} {Q : G → Sto → Prop} (h : DE Γ e ρ M fun g M' => Q g M' ∨ ∃ p ds, g = .op (.ref p) ∧ M' p = some (.lst (ds.map G.d)) ∧ Q (.d (.list ds)) (del M' p)) : DE Γ e ρ M Q :=
  DE.of (fun X f => pe_frz (h.run X f)) fun X f σ H Qv r h0 k => ⟨r, h0, fun v H' g M' p h' rg q => by
    rcases q with q | ⟨a, ds, e, ha, q⟩
    · exact .inl (k v H' g M' p h' rg q)
    · subst e
      cases rg
      obtain ⟨xs, e1, rs⟩ := h' _ _ ha
      refine .inr ⟨a, xs, e1, fun od => ?_⟩
      obtain ⟨p2, h2, rg2⟩ := hold_frz (od := od) h' e1 (RGs.data rs)
      exact k _ _ _ _ (p.trans p2) h2 rg2 q⟩
theorem wipe_wiped {vs : List Nat} {σ : L2.St} : L2.wipe (L2.wipe σ vs) vs = L2.wipe σ vs := by
  have : ∀ {us : List Nat}, (∀ i ∈ us, i ∈ vs) → L2.wipe (L2.wipe σ vs) us = L2.wipe σ vs := by
    intro us
    induction us with
    | nil => intro _; rfl
    | cons u us ih =>
      intro hu
      show (L2.wipe (L2.wipe σ vs) us).set u none = L2.wipe σ vs
      rw [ih (fun i hi => hu i (List.mem_cons_of_mem _ hi))]
      refine List.ext_getElem? fun j => ?_
      by_cases hj : u = j
      · subst hj
        have hn : ∀ v, (L2.wipe σ vs)[u]? ≠ some (some v) := fun v e => (wipe_some e).2 (hu u List.mem_cons_self)
        by_cases hl : u < (L2.wipe σ vs).length
        · rw [List.getElem?_set_self hl]
          cases e : (L2.wipe σ vs)[u]? with
          | none =>
            rw [List.getElem?_eq_none_iff] at e
            omega
          | some o =>
            cases o with
            | none => rfl
            | some v => exact absurd e (hn v)
        · rw [List.getElem?_eq_none_iff.mpr (by rw [List.length_set]; omega), List.getElem?_eq_none_iff.mpr (by omega)]
      · rw [List.getElem?_set_ne hj]
  exact this fun i hi => hi
/-! ### targets of a block -/
theorem wipe_put {σ : L2.St} {i : Nat} {x : Option V} : ∀ {vs : List Nat}, i ∈ vs → L2.wipe (σ.set i x) vs = L2.wipe σ vs
  | v :: vs, h => by
    by_cases hi : i ∈ vs
    · show (L2.wipe (σ.set i x) vs).set v none = (L2.wipe σ vs).set v none
      rw [wipe_put hi]
    · have e : i = v := by
        rcases List.mem_cons.mp h with e | e
        · exact e
        · exact absurd e hi
      subst e
      clear h
      have : ∀ {vs : List Nat}, i ∉ vs → L2.wipe (σ.set i x) vs = (L2.wipe σ vs).set i x := by
        intro vs
        induction vs with
        | nil => intro _; rfl
        | cons w ws ih =>
          intro hn
          show (L2.wipe (σ.set i x) ws).set w none = ((L2.wipe σ ws).set w none).set i x
          rw [ih (fun z => hn (List.mem_cons_of_mem _ z)), List.set_comm _ _ (fun z => hn (by rw [z]; exact List.mem_cons_self))]
      show (L2.wipe (σ.set i x) vs).set i none = (L2.wipe σ vs).set i none
      rw [this hi, List.set_set]
def tDC (K : PySem.W.Frag) (vs : List Nat) (g : G) (ρ : GEnv) (M : Sto) (Q : GEnv → Sto → Prop) : TG := fun v σ H Qs => RG K H v g ∧ REnv K H σ ρ ∧ Hold K H M ∧ ∀ σ' H' ρ' M', L2.wipe σ' vs = L2.wipe σ vs → Pers H H' → REnv K H' σ' ρ' → Hold K H' M' → Q ρ' M' → Qs σ' H'
structure DC (Γ : Gam) (vs : List Nat) (tg : Expr) (g : G) (ρ : GEnv) (M : Sto) (Q : GEnv → Sto → Prop) : Prop where
  run : ∀ X, Γ.Fit X → PG X tg (tDC Γ.K vs g ρ M Q)
def tAllC (Γ : Gam) (vs : List Nat) (tg : Expr) : TG := fun v σ H Qs => ∃ g ρ M Q, DC Γ vs tg g ρ M Q ∧ tDC Γ.K vs g ρ M Q v σ H Qs
theorem pg_allC {X : Cx} {vs : List Nat} (f : Γ.Fit X) (tg : Expr) : PG X tg (tAllC Γ vs tg) := ⟨fun pins s σ H v u Q I r ⟨g, ρ, M, Q', d, h⟩ => (d.run X f).run pins s σ H v u Q I r h⟩
def tDCs (K : PySem.W.Frag) (vs : List Nat) (gs : List G) (ρ : GEnv) (M : Sto) (Q : GEnv → Sto → Prop) : TGs := fun ws σ H Qs => RGs K H ws gs ∧ REnv K H σ ρ ∧ Hold K H M ∧ ∀ σ' H' ρ' M', L2.wipe σ' vs = L2.wipe σ vs → Pers H H' → REnv K H' σ' ρ' → Hold K H' M' → Q ρ' M' → Qs σ' H'
structure DCs (Γ : Gam) (vs : List Nat) (tgs : List Expr) (gs : List G) (ρ : GEnv) (M : Sto) (Q : GEnv → Sto → Prop) : Prop where
  run : ∀ X, Γ.Fit X → PGs X tgs (tDCs Γ.K vs gs ρ M Q)
def tAllCs (Γ : Gam) (vs : List Nat) (tg : List Expr) : TGs := fun v σ H Qs => ∃ g ρ M Q, DCs Γ vs tg g ρ M Q ∧ tDCs Γ.K vs g ρ M Q v σ H Qs
theorem pgs_allC {X : Cx} {vs : List Nat} (f : Γ.Fit X) (tg : List Expr) : PGs X tg (tAllCs Γ vs tg) := ⟨fun pins s σ H v u Q I r ⟨g, ρ, M, Q', d, h⟩ => (d.run X f).run pins s σ H v u Q I r h⟩
theorem dc_name {vs : List Nat} {Q : GEnv → Sto → Prop} (i : Nat) {x : Str} {g : G} (q : Q (ρ.set i (some g)) M) (hi : i ∈ vs := by decide) (hN : Γ.N[i]? = some x := by rfl) (hx : Loc Γ.sc x := by first | exact Or.inl rfl | exact Or.inr rfl) (ha0 : Γ.asg x = true := by rfl) : DC Γ vs (.Name x pos) g ρ M Q :=
  ⟨fun X f => PG.mono' (pg_name (i := i) f.nd (by rw [f.N]; exact hN) (by rw [f.sc]; exact hx) (f.fn x (by rw [f.sc]; exact hx) ha0)) fun v σ H Qs ⟨rg, r, h, k⟩ => k _ H _ M (wipe_put hi) (.refl H) (r.set i rg) h q⟩
theorem dcs_nil {vs : List Nat} {Q : GEnv → Sto → Prop} (q : Q ρ M) : DCs Γ vs [] [] ρ M Q := ⟨fun X f => PGs.mono' pgs_nil fun ws σ H Qs ⟨rg, r, h, k⟩ => by
  cases rg
  exact ⟨rfl, k σ H ρ M rfl (.refl H) r h q⟩⟩
theorem dcs_cons {vs : List Nat} {Q : GEnv → Sto → Prop} {e : Expr} {es : List Expr} {g : G} {gs : List G} (h : DC Γ vs e g ρ M fun ρ1 M1 => DCs Γ vs es gs ρ1 M1 Q)
    (hs : ∀ env, (assignEach (e :: es) env).map (·.2) = assign e env :: (assignEach es env).map (·.2) := by intro _; rfl) : DCs Γ vs (e :: es) (g :: gs) ρ M Q :=
  ⟨fun X f => PGs.mono' (pgs_cons (pg_allC f e) (pgs_allC f es) (hs _)) fun ws σ H Qs ⟨rg, r, h0, k⟩ => by
    cases rg with
    | cons r1 r2 =>
      refine ⟨_, _, rfl, g, ρ, M, _, h, r1, r, h0, fun σ' H' ρ' M' w1 p r' h' d => ?_⟩
      exact ⟨gs, ρ', M', Q, d, RGs.mono p r2, r', h', fun σ2 H2 ρ2 M2 w2 p2 r2' h2 q => k σ2 H2 ρ2 M2 (w2.trans w1) (p.trans p2) r2' h2 q⟩⟩
theorem dc_tup {vs : List Nat} {Q : GEnv → Sto → Prop} {es : List Expr} {k : Nat} {ds : List PyData} {n : Nat} (h : DCs Γ vs es (ds.map G.d) ρ M Q) (hl : ds.length = n) (hn : ∀ env, (assignEach es env).length = n := by intro _; rfl) (hst : ∀ env, (assignEach es env).findIdx? (·.1) = none := by intro _; rfl) : DC Γ vs (.Tuple es k pos) (.d (.tuple ds)) ρ M Q :=
  ⟨fun X f => PG.mono' (pg_tup (n := n) f.calm (pgs_allC f es) (hn _) (hst _)) fun v σ H Qs ⟨rg, r, h0, kk⟩ => by
    obtain ⟨a, us, rfl, ha, ra⟩ := Rp.sqt rg
    exact ⟨a, us, rfl, .inl (.inl ha), by rw [ra.length, hl], _, ρ, M, Q, h, RGs.of_data ra, r, h0, kk⟩⟩
/-! ### tests of a block -/
structure DTs (Γ : Gam) (ifs : List Expr) (ρ : GEnv) (M : Sto) (Q : Bool → Sto → Prop) : Prop where
  run : ∀ X, Γ.Fit X → PTs X ifs (tDT Γ.K ρ M Q)
def tAllTs (Γ : Gam) (ifs : List Expr) : TT := fun σ H Qv => ∃ ρ M Q, DTs Γ ifs ρ M Q ∧ tDT Γ.K ρ M Q σ H Qv
theorem pts_all {X : Cx} (f : Γ.Fit X) (e : List Expr) : PTs X e (tAllTs Γ e) := ⟨fun pins s σ H Q I ⟨ρ, M, Q', d, h⟩ => (d.run X f).run pins s σ H Q I h⟩
theorem PTs.mono' {X : Cx} {e : List Expr} {t t' : TT} (h : PTs X e t) (k : ∀ σ H Q, t' σ H Q → t σ H Q) : PTs X e t' := ⟨fun pins s σ H Q I q => h.run pins s σ H Q I (k σ H Q q)⟩
theorem dts_nil {Q : Bool → Sto → Prop} (q : Q true M) : DTs Γ [] ρ M Q := ⟨fun X f => PTs.mono' pts_nil fun σ H Qv ⟨r, h, k⟩ => k true H M (.refl H) h q⟩
theorem dts_one {c : Expr} {Q : Bool → Sto → Prop} (h : DT Γ c ρ M Q) : DTs Γ [c] ρ M Q := ⟨fun X f => pts_one (h.run X f)⟩
/-! ### the block -/
def Gam.blk (Γ : Gam) (scope : Scope) : Gam := { Γ with sc := relS scope Γ.sc, asg := fun x => scope.names.lookup x == some .cell || scope.names.lookup x == some .local, code := none, aux := fun _ => True }
theorem Gam.Fit.blk {X : Cx} (f : Γ.Fit X) (scope : Scope) (s : Shared) (H : Hp) (C : Addr) (cl : List (Str × Addr)) (fp : List Addr) : (Γ.blk scope).Fit (X.blk s H scope (compEnvC scope cl C X.env) fp) := by
  refine ⟨f.prog, f.w, f.K, f.mg, f.base, f.N, ?_, f.calm, f.nd, f.room, fun x hx ha => ?_, PassesOwn.never, (fun p h => nomatch h), fun _ _ => trivial⟩
  · show relS scope X.env.scope = relS scope Γ.sc
    rw [f.sc]
  · have ha' : (scope.names.lookup x == some .cell || scope.names.lookup x == some .local) = true := ha
    rcases Bool.or_eq_true_iff.mp ha' with k | k
    · exact .inl k
    · exact .inr (lookup_relS_keep (sc := X.env.scope) (fun z => nomatch z) (by simpa using k))
variable {tg iter elt : Expr} {ifs : List Expr} {scope : Scope} {own : List (Str × Nat)}
def LcP (Γ : Gam) (tg iter elt : Expr) (ifs : List Expr) (scope : Scope) (vs : List Nat) (ρ : GEnv) (M : Sto) (Q : G → Sto → Prop) : Prop :=
  DI Γ tg iter ρ M fun gs C M1 => ∀ D, M1 D = none → ∃ I : Nat → List G → Sto → Prop, I 0 [] (put M1 D (.lst [])) ∧ (∀ i acc M', i ≤ gs.length → I i acc M' → C M') ∧
    (∀ i g acc M', gs[i]? = some g → I i acc M' → acc.length < sizeLine ∧ DC (Γ.blk scope) vs tg g (wipeG ρ vs) M' fun ρ2 M2 => DTs (Γ.blk scope) ifs ρ2 M2 fun b M3 =>
      if b = true then DE (Γ.blk scope) elt ρ2 M3 fun y M4 => M4 D = some (.lst acc) ∧ I (i + 1) (acc ++ [y]) (put M4 D (.lst (acc ++ [y]))) else I (i + 1) acc M3) ∧
    ∀ acc M', I gs.length acc M' → M' D = some (.lst acc) ∧ LcEnd D acc M' Q
theorem lc_run {vs : List Nat} {Q : G → Sto → Prop} {X : Cx} (f : Γ.Fit X) (h : LcP Γ tg iter elt ifs scope vs ρ M Q) {σ : L2.St} {H : Hp} {Qv : VK} (r : REnv Γ.K H σ ρ) (h0 : Hold Γ.K H M) (k : KOk Γ.K H Q Qv) :
    tLc (tAllI Γ tg iter) (tAllC (Γ.blk scope) vs tg) (tAllTs (Γ.blk scope) ifs) (tAll (Γ.blk scope) elt) vs σ H (fun v H1 => Qv v H1 ∨ ∃ d xs, H1 d = some (.lst xs) ∧ ∀ od, Qv v (upd H1 d (.frz od (.lst xs)))) := by
  refine ⟨ρ, M, _, h, r, h0, fun J H1 C gs M1 p1 h1 fd hI D hD => ?_⟩
  obtain ⟨I, i0, hC, step, done⟩ := hI D (h1.fresh hD)
  refine ⟨fun i m H' => m = gs.length - i ∧ i ≤ gs.length ∧ ∃ acc M', Pers H1 H' ∧ Hold Γ.K H' M' ∧ I i acc M', ⟨gs.length, by simp, Nat.zero_le _, [], _, .new hD, h1.new (m := .lst []) hD ⟨[], upd_same, .nil⟩, i0⟩, ?_⟩
  rintro i m H2 ⟨rfl, hi, acc, M2, p2, h2, w⟩
  by_cases hlt : i < gs.length
  · have eg : gs[i]? = some gs[i] := by simp [hlt]
    obtain ⟨hgo, hy⟩ := fd.go i _ H2 M2 p2 h2 (hC i acc M2 hi w) eg
    obtain ⟨hz, st⟩ := step i _ acc M2 eg w
    refine .inr ⟨hgo, fun H' => ∃ acc M', Pers H1 H' ∧ Hold Γ.K H' M' ∧ I (i + 1) acc M', fun H' q => ⟨_, by omega, rfl, hlt, q⟩, fun x H3 y3 => ?_⟩
    obtain ⟨p3, h3, rx⟩ := hy x H3 y3
    refine ⟨_, wipeG ρ vs, M2, _, st, rx, (r.mono (p1.trans (p2.trans p3))).wiped vs, h3, fun σ4 H4 ρ4 M4 w4 p4 r4 h4 dt => ⟨w4.trans ?_, ρ4, M4, _, dt, r4, h4, fun b H5 M5 p5 h5 q5 => ?_⟩⟩
    · exact wipe_wiped
    · cases b with
      | false =>
        rw [if_neg Bool.false_ne_true] at q5 ⊢
        exact ⟨acc, M5, p2.trans (p3.trans (p4.trans p5)), h5, q5⟩
      | true =>
        rw [if_pos rfl] at q5 ⊢
        refine ⟨ρ4, M5, _, q5, r4.mono p5, h5, fun v H6 g M6 p6 h6 rg ⟨eD, q6⟩ => ?_⟩
        obtain ⟨us, e6, rs⟩ := h6 _ _ eD
        refine ⟨us, e6, by rw [rs.length]; exact hz, ?_⟩
        obtain ⟨p7, h7⟩ := h6.put (o := .lst (us ++ [v])) (m' := .lst (acc ++ [g])) eD ⟨_, upd_same, RGs.mono (Pers.put e6 (fun _ z => nomatch z) (fun _ _ z => nomatch z)) (rs.append (.cons rg .nil))⟩
        exact ⟨_, _, p2.trans (p3.trans (p4.trans (p5.trans (p6.trans p7)))), h7, q6⟩
  · have e : i = gs.length := by omega
    subst e
    obtain ⟨eD, fin⟩ := done acc M2 w
    refine .inl ⟨fd.stop _ H2 M2 p2 h2 (hC _ acc M2 hi w) (Nat.le_refl _), ?_⟩
    rcases fin with ⟨ds, e, q⟩ | q
    · subst e
      obtain ⟨us, e6, rs⟩ := h2 _ _ eD
      refine .inr ⟨D, us, e6, fun od => ?_⟩
      obtain ⟨p3, h3, rg⟩ := hold_frz (od := od) h2 e6 (RGs.data rs)
      exact k _ _ _ _ (p1.trans (p2.trans p3)) h3 rg q
    · exact .inl (k _ _ _ _ (p1.trans p2) h2 (show RG Γ.K H2 (.ref D) (.op (.ref D)) from rfl) q)
theorem de_lc {Q : G → Sto → Prop} (h : LcP Γ tg iter elt ifs scope (own.map (·.2)) ρ M Q) (ok : BlkOk Γ.N Γ.sc scope own) (hs : ∀ env x, foldedSetIterable iter env x = pure x := by intro _ _; rfl) : DE Γ (.ListComp elt [⟨tg, iter, ifs, 0⟩] scope pos) ρ M Q :=
  DE.of (fun X f => pe_frz (pe_lc (own := own) f.calm f.nd (pi_all f tg iter) (by rw [f.N, f.sc]; exact ok) (fun s H C cl fp => pg_allC (f.blk scope s H C cl fp) tg) (fun s H C cl fp => pts_all (f.blk scope s H C cl fp) ifs) (fun s H C cl fp => pe_all (f.blk scope s H C cl fp) elt) (hs _))) fun X f σ H Qv r h0 k => lc_run f h r h0 k
/-- name = [..], the name a local -/
theorem d1_setLc {D : DEnds} {spos py : Pos} (i : Nat) {y : Str} (h : LcP Γ tg iter elt ifs scope (own.map (·.2)) ρ M fun g M1 => D.nx (ρ.set i (some g)) M1) (ok : BlkOk Γ.N Γ.sc scope own) (hN : Γ.N[i]? = some y := by rfl) (hk : Γ.sc.kind = .function := by rfl) (hy : Γ.sc.names.lookup y = some .local := by rfl)
    (hl : (py.line == pos.line) = true := by rfl) (ha : (scope.names.any fun (n, k) => n == y && (k == .local || k == .cell)) = false := by rfl) (hs : ∀ env x, foldedSetIterable iter env x = pure x := by intro _ _; rfl) : D1 Γ (.Assign [.Name y py] (.ListComp elt [⟨tg, iter, ifs, 0⟩] scope pos) spos) ρ M D :=
  D1.of (fun X f => ps_frz (ps_setLc (i := i) (own := own) f.calm f.nd (by rw [f.N]; exact hN) (by rw [f.sc]; exact hy) (sw_true (by rw [f.sc]; exact hk) (by rw [f.sc]; exact hy) hl ha) (pi_all f tg iter) (by rw [f.N, f.sc]; exact ok) (fun s H C cl fp => pg_allC (f.blk scope s H C cl fp) tg) (fun s H C cl fp => pts_all (f.blk scope s H C cl fp) ifs) (fun s H C cl fp => pe_all (f.blk scope s H C cl fp) elt) (hs _)))
    fun X f E σ H r h0 k => lc_run (Qv := fun v H1 => E.nx (σ.set i (some v)) H1) f h r h0 fun v H1 g M1 p1 h1 rg q => k.nx _ H1 _ M1 p1 ((r.mono p1).set i rg) h1 q
/-! ### pure ones -/
def Ext (M M' : Sto) : Prop := ∀ p o, M p = some o → M' p = some o
theorem Ext.refl (M : Sto) : Ext M M := fun _ _ h => h
theorem Ext.trans {M M1 M2 : Sto} (a : Ext M M1) (b : Ext M1 M2) : Ext M M2 := fun p o h => b p o (a p o h)
theorem Ext.put {M : Sto} {D : Addr} {o : MO} (h : M D = none) : Ext M (put M D o) := fun p u e => by
  rw [put_ne (fun z => by rw [z, h] at e; cases e)]
  exact e
theorem DatV.ext {M M' : Sto} {g : G} {d : PyData} (h : DatV M g d) (e : Ext M M') : DatV M' g d := by
  cases h with
  | d => exact .d _
  | l h => exact .l (e _ _ h)
theorem SeqV.ext {M M' : Sto} {g : G} {d : List PyData} (h : SeqV M g d) (e : Ext M M') : SeqV M' g d := by
  cases h with
  | t => exact .t _
  | l h => exact .l (h.ext e)
/-- a pure iterator -/
def PIt (Γ : Gam) (tg iter : Expr) (ρ : GEnv) (M : Sto) (gs : List G) : Prop := ∀ Q : List G → (Sto → Prop) → Sto → Prop, (∀ C, (∀ M', Ext M M' → C M') → Q gs C M) → DI Γ tg iter ρ M Q
theorem pit_list {g : G} {ds : List PyData} (h : PD Γ iter ρ M g) (hd : DatV M g (.list ds)) : PIt Γ tg iter ρ M (ds.map G.d) := fun Q k => di_list (PD.de h ⟨ds, hd, k _ fun M' e => hd.ext e⟩)
theorem pit_tup {ds : List PyData} (h : PD Γ iter ρ M (.d (.tuple ds))) : PIt Γ tg iter ρ M (ds.map G.d) := fun Q k => di_tup (PD.de h ⟨ds, rfl, k _ fun M' e => trivial⟩)
theorem pit_range1 {a : Expr} {p pos : Pos} {j : Int} (hm : Γ.mg "range" = none) (h : PD Γ a ρ M (.d (.int j))) (hj : -(2 ^ 60) ≤ j ∧ j ≤ 2 ^ 60) (hg : GlD Γ "range" := by rfl) (hs : ∀ env, starEach [a] env = [(false, eval a env)] := by intro _; rfl) : PIt Γ tg (.Call (.Name "range" p) [a] [] pos) ρ M (rangeG 0 j.toNat) :=
  fun Q k => di_range1 hm (PD.de h ⟨j, rfl, hj.2, hj.1, k _ fun M' e => trivial⟩) hg hs
theorem pit_range2 {a b : Expr} {p pos : Pos} {i j : Int} (hm : Γ.mg "range" = none) (ha : PD Γ a ρ M (.d (.int i))) (hb : PD Γ b ρ M (.d (.int j))) (hi : -(2 ^ 60) ≤ i ∧ i ≤ 2 ^ 60) (hj : -(2 ^ 60) ≤ j ∧ j ≤ 2 ^ 60) (hg : GlD Γ "range" := by rfl)
    (hs : ∀ env, starEach [a, b] env = [(false, eval a env), (false, eval b env)] := by intro _; rfl) (hs2 : ∀ env, starEach [b] env = [(false, eval b env)] := by intro _; rfl) : PIt Γ tg (.Call (.Name "range" p) [a, b] [] pos) ρ M (rangeG i (j - i).toNat) :=
  fun Q k => di_range2 hm ((PAs.cons ha (.cons hb .nil (by intro env; rw [hs2]; rfl)) (by intro env; rw [hs, hs2])).da ⟨i, j, rfl, ⟨hi.2, hi.1, hj.2, hj.1⟩, k _ fun M' e => trivial⟩) hg hs hs2
theorem pit_zipT {e e2 : Expr} {p pos tpos : Pos} {elts : List Expr} {kk : Nat} {as bs : List PyData} (hm : Γ.mg "zip" = none) (h1 : PD Γ e ρ M (.d (.tuple as))) (h2 : PD Γ e2 ρ M (.d (.tuple bs))) (hg : GlD Γ "zip" := by rfl)
    (hs : ∀ env, starEach [e, e2] env = (false, eval e env) :: starEach [e2] env := by intro _; rfl) (hs2 : ∀ env, starEach [e2] env = (false, eval e2 env) :: starEach [] env := by intro _; rfl) (hpl : ∀ env, (backTo pos (starEach [e2] env)).any (·.1) = false := by intro _; rfl) : PIt Γ (.Tuple elts kk tpos) (.Call (.Name "zip" p) [e, e2] [] pos) ρ M (zipG as bs) :=
  fun Q k => di_zip hm ((PAs.cons h1 (.cons h2 .nil hs2) hs).da ⟨_, _, as, bs, rfl, .inr ⟨rfl, rfl⟩, k _ fun M' e => ⟨.t _, .t _⟩⟩) hg hs hpl
theorem pit_zipL {e e2 : Expr} {p pos tpos : Pos} {elts : List Expr} {kk : Nat} {as bs : List PyData} {g1 g2 : G} (hm : Γ.mg "zip" = none) (h1 : PD Γ e ρ M g1) (h2 : PD Γ e2 ρ M g2) (d1 : DatV M g1 (.list as)) (d2 : DatV M g2 (.list bs)) (hg : GlD Γ "zip" := by rfl)
    (hs : ∀ env, starEach [e, e2] env = (false, eval e env) :: starEach [e2] env := by intro _; rfl) (hs2 : ∀ env, starEach [e2] env = (false, eval e2 env) :: starEach [] env := by intro _; rfl) (hpl : ∀ env, (backTo pos (starEach [e2] env)).any (·.1) = false := by intro _; rfl) : PIt Γ (.Tuple elts kk tpos) (.Call (.Name "zip" p) [e, e2] [] pos) ρ M (zipG as bs) :=
  fun Q k => di_zip hm ((PAs.cons h1 (.cons h2 .nil hs2) hs).da ⟨_, _, as, bs, rfl, .inl ⟨d1, d2⟩, k _ fun M' e => ⟨.l (d1.ext e), .l (d2.ext e)⟩⟩) hg hs hpl
/-- what a pure comprehension's turn does: the tests say p, the item is f -/
def LcStep (Γ : Gam) (tg elt : Expr) (ifs : List Expr) (vs : List Nat) (ρ : GEnv) (M : Sto) (g : G) (b : Bool) (y : PyData) : Prop :=
  DC Γ vs tg g ρ M fun ρ2 M2 => M2 = M ∧ DTs Γ ifs ρ2 M (fun b' M3 => b' = b ∧ M3 = M) ∧ (b = true → PD Γ elt ρ2 M (.d y))
theorem lc_pure {α : Type} {vs : List Nat} {Q : G → Sto → Prop} {gs : List G} (hI : PIt Γ tg iter ρ M gs) (inj : α → G) (xs : List α) (hx : gs = xs.map inj) (p : α → Bool) (F : α → PyData) (hz : xs.length ≤ sizeLine)
    (hst : ∀ M', Ext M M' → ∀ x ∈ xs, LcStep (Γ.blk scope) tg elt ifs vs (wipeG ρ vs) M' (inj x) (p x) (F x)) (hq : NewL ((xs.filter p).map F) M Q) : LcP Γ tg iter elt ifs scope vs ρ M Q := by
  refine hI _ fun C hC D hD => ?_
  subst hx
  refine ⟨fun i acc M' => acc = (((xs.take i).filter p).map F).map G.d ∧ M' = put M D (.lst acc), ⟨by simp, rfl⟩, fun i acc M' _ ⟨_, e⟩ => by rw [e]; exact hC _ (Ext.put hD), fun i g acc M' eg ⟨ea, e⟩ => ?_, fun acc M' ⟨ea, e⟩ => ?_⟩
  · rw [List.getElem?_map] at eg
    cases ex : xs[i]? with
    | none => rw [ex] at eg; cases eg
    | some x =>
      rw [ex] at eg
      cases eg
      have hi : i < xs.length := (List.getElem?_eq_some_iff.mp ex).1
      have et : xs.take (i + 1) = xs.take i ++ [x] := by rw [List.take_add_one, ex]; rfl
      refine ⟨?_, ?_⟩
      · rw [ea, List.length_map, List.length_map]
        have h1 := List.length_filter_le p (xs.take i)
        rw [List.length_take] at h1
        omega
      · have st := hst M' (by rw [e]; exact Ext.put hD) x (List.mem_of_getElem? ex)
        refine ⟨fun X f => PG.mono' (st.run X f) fun v σ H Qs ⟨rg, r, h, k⟩ => ⟨rg, r, h, fun σ' H' ρ' M2 w pr r' h' ⟨e2, dts, de⟩ => k σ' H' ρ' M2 w pr r' h' ?_⟩⟩
        subst e2
        refine ⟨fun X f => PTs.mono' (dts.run X f) fun σ H Qv ⟨r, h, k⟩ => ⟨r, h, fun b H' M3 pr h3 ⟨eb, e3⟩ => k b H' M3 pr h3 ?_⟩⟩
        subst eb e3
        by_cases hp : p x = true
        · rw [if_pos hp]
          refine PD.de (de hp) ⟨by rw [e]; exact put_same, ?_, by rw [e, put_put]⟩
          rw [et, List.filter_append, List.map_append, List.map_append, ← ea]
          simp [hp]
        · rw [if_neg hp]
          refine ⟨?_, e⟩
          rw [et, List.filter_append, List.map_append, List.map_append, ← ea]
          simp [hp]
  · rw [List.length_map, List.take_length] at ea
    refine ⟨by rw [e]; exact put_same, ?_⟩
    rcases hq with q | q
    · exact .inl ⟨_, ea, by rw [e, del_put hD]; exact q⟩
    · exact .inr (by rw [e, ea]; exact q D hD)
theorem pd_lc {α : Type} {gs : List G} (hI : PIt Γ tg iter ρ M gs) (inj : α → G) (xs : List α) (hx : gs = xs.map inj) (p : α → Bool) (F : α → PyData) (hz : xs.length ≤ sizeLine) (ok : BlkOk Γ.N Γ.sc scope own)
    (hst : ∀ M', Ext M M' → ∀ x ∈ xs, LcStep (Γ.blk scope) tg elt ifs (own.map (·.2)) (wipeG ρ (own.map (·.2))) M' (inj x) (p x) (F x)) (hs : ∀ env x, foldedSetIterable iter env x = pure x := by intro _ _; rfl) : PD Γ (.ListComp elt [⟨tg, iter, ifs, 0⟩] scope pos) ρ M (.d (.list ((xs.filter p).map F))) :=
  de_lc (lc_pure hI inj xs hx p F hz hst (.frz ⟨rfl, rfl⟩)) ok hs
/-- without tests -/
theorem pd_map {α : Type} {gs : List G} (hI : PIt Γ tg iter ρ M gs) (inj : α → G) (xs : List α) (hx : gs = xs.map inj) (F : α → PyData) (hz : xs.length ≤ sizeLine) (ok : BlkOk Γ.N Γ.sc scope own)
    (hst : ∀ M', Ext M M' → ∀ x ∈ xs, DC (Γ.blk scope) (own.map (·.2)) tg (inj x) (wipeG ρ (own.map (·.2))) M' fun ρ2 M2 => M2 = M' ∧ PD (Γ.blk scope) elt ρ2 M' (.d (F x))) (hs : ∀ env x, foldedSetIterable iter env x = pure x := by intro _ _; rfl) : PD Γ (.ListComp elt [⟨tg, iter, [], 0⟩] scope pos) ρ M (.d (.list (xs.map F))) := by
  have h := pd_lc (pos := pos) (ifs := []) hI inj xs hx (fun _ => true) F hz ok (fun M' e x hx => ⟨fun X f => PG.mono' ((hst M' e x hx).run X f) fun v σ H Qs ⟨rg, r, h, k⟩ => ⟨rg, r, h, fun σ' H' ρ' M2 w pr r' h' ⟨e2, d⟩ => k σ' H' ρ' M2 w pr r' h' ⟨e2, dts_nil ⟨rfl, rfl⟩, fun _ => d⟩⟩⟩) hs
  rw [show xs.filter (fun _ => true) = xs from List.filter_eq_self.mpr (fun _ _ => rfl)] at h
  exact h
end
end B
end
section
set_option maxHeartbeats 4000000
/-! D8: methods of lists, defs and their calls. -/
namespace B
open PySem PySem.Spec PyProof.Rows L2
section
variable {Γ : Gam} {ρ : GEnv} {M : Sto} {Q : G → Sto → Prop} {o e : Expr} {apos cpos pos p : Pos}
def fewOk (e : Expr) (cpos : Pos) (env : Env) : Bool := (backTo cpos (starEach [e] env)).all (fun x => !x.1) && (backToKw cpos (keywordEach [] env)).all (fun x => x.1.isSome)
      && decide (([e] : List Expr).length + ([] : List Keyword).length + (if ([] : List Keyword).isEmpty then 0 else 1) < 30)
theorem lst_put {K : PySem.W.Frag} {H : Hp} {M : Sto} {a : Addr} {us : List V} {gs hs : List G} {ws : List V} (h : Hold K H M) (e : M a = some (.lst gs)) (e4 : H a = some (.lst us)) (rs : RGs K H ws hs) : Pers H (upd H a (.lst ws)) ∧ Hold K (upd H a (.lst ws)) (put M a (.lst hs)) :=
  h.put (o := .lst ws) (m' := .lst hs) e ⟨_, upd_same, RGs.mono (Pers.put e4 (fun _ z => nomatch z) (fun _ _ z => nomatch z)) rs⟩
theorem de_append (h : DE Γ o ρ M fun x M1 => ∃ a g0, x = .op (.ref a) ∧ M1 a = some (.lst g0) ∧ DE Γ e ρ M1 fun y M2 => ∃ gs, M2 a = some (.lst gs) ∧ gs.length < sizeLine ∧ Q (.d .none) (put M2 a (.lst (gs ++ [y]))))
    (hbase : ∀ env, attributeBase o "append" env (eval o env) = eval o env := by intro _; rfl) (hfew : ∀ env, fewOk e cpos env = true := by intro _; rfl) (hline : (apos.endLine == cpos.line) = true := by rfl)
    (hs : ∀ env, starEach [e] env = (false, eval e env) :: starEach [] env := by intro _; rfl) : DE Γ (.Call (.Attribute o "append" apos) [e] [] cpos) ρ M Q :=
  DE.of (fun X f => pe_bm PySem.F.plainAttrs_list PySem.F.slot_list_append PySem.F.type_list_append mt_append (pe_all f o) (pa_all f [e]) (hbase _) (hfew _) hline (hs _) rfl) fun X f σ H Qv r h0 k => all_of h r h0 fun v H1 x M1 p1 r1 h1 rx ⟨a, g0, e1, e2, d⟩ => by
    subst e1
    cases rx
    obtain ⟨us0, e3, _⟩ := h1 _ _ e2
    refine ⟨.inl ⟨rfl, us0, .inl (.inl e3)⟩, allA_of (da_one d hs) r1 h1 fun vs H2 gs M2 p2 r2 h2 rs ⟨g, eg, gs', e4, hz, q⟩ => ?_⟩
    subst eg
    cases rs with
    | cons rg t =>
      cases t
      obtain ⟨us, e5, rs'⟩ := h2 _ _ e4
      obtain ⟨p3, h3⟩ := lst_put (a := a) h2 e4 e5 (rs'.append (.cons rg .nil))
      exact ⟨a, us, _, rfl, rfl, e5, by rw [rs'.length]; exact hz, k _ _ _ _ (p1.trans (p2.trans p3)) h3 (rgd Rp.non) q⟩
theorem de_extend (h : DE Γ o ρ M fun x M1 => ∃ a g0, x = .op (.ref a) ∧ M1 a = some (.lst g0) ∧ DE Γ e ρ M1 fun y M2 => ∃ b gs hs, y = .op (.ref b) ∧ M2 a = some (.lst gs) ∧ M2 b = some (.lst hs) ∧ gs.length + hs.length ≤ sizeLine ∧ Q (.d .none) (put M2 a (.lst (gs ++ hs))))
    (hbase : ∀ env, attributeBase o "extend" env (eval o env) = eval o env := by intro _; rfl) (hfew : ∀ env, fewOk e cpos env = true := by intro _; rfl) (hline : (apos.endLine == cpos.line) = true := by rfl)
    (hs : ∀ env, starEach [e] env = (false, eval e env) :: starEach [] env := by intro _; rfl) : DE Γ (.Call (.Attribute o "extend" apos) [e] [] cpos) ρ M Q :=
  DE.of (fun X f => pe_bm PySem.F.plainAttrs_list PySem.F.slot_list_extend PySem.F.type_list_extend mt_extend (pe_all f o) (pa_all f [e]) (hbase _) (hfew _) hline (hs _) rfl) fun X f σ H Qv r h0 k => all_of h r h0 fun v H1 x M1 p1 r1 h1 rx ⟨a, g0, e1, e2, d⟩ => by
    subst e1
    cases rx
    obtain ⟨us0, e3, _⟩ := h1 _ _ e2
    refine ⟨.inl ⟨rfl, us0, .inl (.inl e3)⟩, allA_of (da_one d hs) r1 h1 fun vs H2 gs M2 p2 r2 h2 rs ⟨g, eg, b, gs', hs', ey, e4, e6, hz, q⟩ => ?_⟩
    subst eg ey
    cases rs with
    | cons rg t =>
      cases t
      cases rg
      obtain ⟨us, e5, rs'⟩ := h2 _ _ e4
      obtain ⟨ws, e7, rs2⟩ := h2 _ _ e6
      obtain ⟨p3, h3⟩ := lst_put (a := a) h2 e4 e5 (rs'.append rs2)
      exact ⟨a, b, us, ws, rfl, rfl, e5, e7, by rw [rs'.length, rs2.length]; exact hz, k _ _ _ _ (p1.trans (p2.trans p3)) h3 (rgd Rp.non) q⟩
theorem RGs.eraseIdx {K : PySem.W.Frag} {H : Hp} : ∀ {vs : List V} {gs : List G} (i : Nat), RGs K H vs gs → RGs K H (vs.eraseIdx i) (gs.eraseIdx i)
  | _, _, _, .nil => .nil
  | _, _, 0, .cons _ t => t
  | _, _, i + 1, .cons q t => .cons q (RGs.eraseIdx i t)
theorem de_popAt (h : DE Γ o ρ M fun x M1 => ∃ a g0, x = .op (.ref a) ∧ M1 a = some (.lst g0) ∧ DE Γ e ρ M1 fun y M2 => ∃ (i : Nat) (gs : List G) (g : G), y = .d (.int i) ∧ M2 a = some (.lst gs) ∧ gs[i]? = some g ∧ gs.length ≤ 2 ^ 60 ∧ Q g (put M2 a (.lst (gs.eraseIdx i))))
    (hbase : ∀ env, attributeBase o "pop" env (eval o env) = eval o env := by intro _; rfl) (hfew : ∀ env, fewOk e cpos env = true := by intro _; rfl) (hline : (apos.endLine == cpos.line) = true := by rfl)
    (hs : ∀ env, starEach [e] env = (false, eval e env) :: starEach [] env := by intro _; rfl) : DE Γ (.Call (.Attribute o "pop" apos) [e] [] cpos) ρ M Q :=
  DE.of (fun X f => pe_bm PySem.F.plainAttrs_list PySem.F.slot_list_pop PySem.F.type_list_pop mt_popAt (pe_all f o) (pa_all f [e]) (hbase _) (hfew _) hline (hs _) rfl) fun X f σ H Qv r h0 k => all_of h r h0 fun v H1 x M1 p1 r1 h1 rx ⟨a, g0, e1, e2, d⟩ => by
    subst e1
    cases rx
    obtain ⟨us0, e3, _⟩ := h1 _ _ e2
    refine ⟨.inl ⟨rfl, us0, .inl (.inl e3)⟩, allA_of (da_one d hs) r1 h1 fun vs H2 gs M2 p2 r2 h2 rs ⟨g, eg, i, gs', g', ey, e4, e6, hz, q⟩ => ?_⟩
    subst eg ey
    cases rs with
    | cons rg t =>
      cases t
      cases rg
      obtain ⟨us, e5, rs'⟩ := h2 _ _ e4
      obtain ⟨v, e7, rv⟩ := rs'.get e6
      obtain ⟨p3, h3⟩ := lst_put (a := a) h2 e4 e5 (rs'.eraseIdx i)
      have hi : i < us.length := (List.getElem?_eq_some_iff.mp e7).1
      have hl := rs'.length
      exact ⟨a, us, i, i, v, rfl, rfl, e5, by omega, by omega, seqIndex_of (by omega) (by omega), e7, k _ _ _ _ (p1.trans (p2.trans p3)) h3 (rv.mono p3) q⟩
theorem ifT {c : Bool} {p q : Prop} (h : c = true) (hp : p) : if c = true then p else q := by rw [if_pos h]; exact hp
theorem ifF {c : Bool} {p q : Prop} (h : c = false) (hq : q) : if c = true then p else q := by rw [if_neg (by rw [h]; exact Bool.false_ne_true)]; exact hq
/-! ### defs -/
/-- what a def answers, called while no repr is under way -/
structure FnG (P : Program) (w : World) (K : PySem.W.Frag) (mg : Str → Option Value) (base : Heap) (k : Nat) (f : Addr) (fd : FuncData) (ps : List Str) (o : ON) : Prop where
  len : ∀ gs M Q, o gs M Q → gs.length = ps.length
  run : ∀ (A : Around) (outer : List Env) (s : Shared) (H : Hp) (args : Args) (us : List Value) (vs : List V) (Q : VK), RoomG k A → Env0 P w K mg base A outer s H → BindsTo s fd args (ps.zip us) → Vals vs us → upN K o vs H Q → codeAny (model P w) A (.call (.ref f) args) (CR C8.CX0 outer P w H s Q C8.E0) s
structure Fn (P : Program) (w : World) (K : PySem.W.Frag) (mg : Str → Option Value) (base : Heap) (k : Nat) (x : Str) (o : ON) : Prop where
  ex : ∃ f fd ps, FnG P w K mg base k f fd ps o ∧ mg x = some (.ref f) ∧ PySem.W.keepIn K (.ref f) = true ∧ Binds K fd ps []
theorem Fn.fit {X : Cx} (f : Γ.Fit X) {k : Nat} {x : Str} {o : ON} (c : Fn Γ.P Γ.w Γ.K Γ.mg Γ.base k x o) : Fn X.prog X.w X.K X.mg X.base k x o := by
  rw [f.prog, f.w, f.K, f.mg, f.base]
  exact c
theorem FnG.call {X : Cx} {pins : List (Addr × Obj)} {σ : L2.St} {H : Hp} {s : Shared} {k : Nat} {f : Addr} {fd : FuncData} {ps : List Str} {o : ON} {args : Args} {us : List Value} {vs : List V} {Qv : VK} (F : FnG X.prog X.w X.K X.mg X.base k f fd ps o) (hr : RoomG k X.A) (I : Inv X pins σ H s)
    (hb : BindsTo s fd args (ps.zip us)) (rv : Vals vs us) (q : upN X.K o vs H Qv) : wpAny (model X.prog X.w) X.A (call (.ref f) args.pos args.kw) (EP X pins σ Qv) X.xe s := by
  refine wpAny_call (codeAny_mono (F.run X.A X.stack s H args us vs Qv hr I.env0 hb rv q) fun r s' hq => ?_)
  cases r with
  | error e => exact hq.elim
  | ok fl =>
    cases fl with
    | ret u => exact I.after hq
    | next => exact False.elim hq
    | brk => exact False.elim hq
    | cont => exact False.elim hq
theorem de_call {o : ON} {x : Str} {k : Nat} {es : List Expr} (c : Fn Γ.P Γ.w Γ.K Γ.mg Γ.base k x o) (h : DA Γ (e :: es) ρ M fun gs M1 => o gs M1 Q) (hk : k ≤ Γ.lv := by exact Nat.le_of_ble_eq_true rfl) (hg : GlD Γ x := by rfl)
    (hdb : (x == ("__debug__" : Str)) = false := by decide) (he : ∀ env, starEach (e :: es) env = (false, eval e env) :: starEach es env := by intro _; rfl) (hpl : ∀ env, (backTo pos (starEach es env)).any (·.1) = false := by intro _; rfl) : DE Γ (.Call (.Name x p) (e :: es) [] pos) ρ M Q := by
  refine ⟨fun X fit => ⟨fun pins s σ H Qv I ⟨r, h0, kk⟩ => ?_⟩⟩
  obtain ⟨f, fd, ps, F, hm, kp, bnd⟩ := (c.fit fit).ex
  refine wpAny_Call_Name_kw (ld_glob I (GlD.gl fit hg) hm ?_ hdb)
  refine PySem.W.callWith_K (h₀ := X.base) I.ok.mod.kin kp (thn ((h.run X fit).run pos pins s σ H (fun vs H1 => upN X.K o vs H1 Qv) I ⟨r, h0, fun vs H1 gs M1 p1 h1 rs q => ⟨gs, M1, Q, by rw [fit.K]; exact rs, by rw [fit.K]; exact h1, q, by rw [fit.K]; exact KOk.later p1 kk⟩⟩) fun us s1 ⟨vs, H1, I1, rv, q⟩ => ⟨I1.kIn, ?_⟩) (he _) (hpl _)
  obtain ⟨gs, M1, Q1, rs, h1, q1, k1⟩ := q
  have hl : (us ++ ([] : List Value)).length = ps.length := by
    rw [List.append_nil, ← rv.length, rs.length]
    exact F.len _ _ _ q1
  have b := bnd s1 us I1.kIn hl
  rw [List.append_nil] at b
  exact F.call (args := ⟨us, []⟩) (fit.room.mono hk) I1 b rv ⟨gs, M1, Q1, rs, h1, q1, k1⟩
theorem pd_call {o : ON} {x : Str} {k : Nat} {es : List Expr} {gs : List G} {z : G} (c : Fn Γ.P Γ.w Γ.K Γ.mg Γ.base k x o) (h : PAs Γ ρ M (e :: es) gs) (q : o gs M fun g M' => g = z ∧ M' = M) (hk : k ≤ Γ.lv := by exact Nat.le_of_ble_eq_true rfl) (hg : GlD Γ x := by rfl)
    (hdb : (x == ("__debug__" : Str)) = false := by decide) (he : ∀ env, starEach (e :: es) env = (false, eval e env) :: starEach es env := by intro _; rfl) (hpl : ∀ env, (backTo pos (starEach es env)).any (·.1) = false := by intro _; rfl) : PD Γ (.Call (.Name x p) (e :: es) [] pos) ρ M z :=
  de_call c (h.da q) hk hg hdb he hpl
def startG (N : List Str) (gs : List G) : GEnv := gs.map some ++ List.replicate (N.length - gs.length) none
theorem renv_start {K : PySem.W.Frag} {H : Hp} {N : List Str} {vs : List V} {gs : List G} (r : RGs K H vs gs) : REnv K H (L2.start N vs) (startG N gs) := by
  have hl := r.length
  refine ⟨by unfold L2.start startG; simp [hl], fun i g e => ?_⟩
  unfold startG at e
  unfold L2.start
  by_cases hi : i < gs.length
  · rw [List.getElem?_append_left (by simpa using hi), List.getElem?_map] at e
    rw [List.getElem?_append_left (by simp; omega), List.getElem?_map]
    cases e2 : gs[i]? with
    | none => rw [e2] at e; cases e
    | some g' =>
      rw [e2] at e
      cases e
      obtain ⟨v, e3, rv⟩ := r.get e2
      exact ⟨v, by rw [e3]; rfl, rv⟩
  · rw [List.getElem?_append_right (by simpa using hi), List.getElem?_replicate] at e
    split at e <;> cases e
def dRet (Q : G → Sto → Prop) : DEnds := { nx := fun _ M' => Q (.d .none) M', rt := Q }
variable {P : Program} {w : World} {K : PySem.W.Frag} {mg : Str → Option Value} {base : Heap}
/-- a def's promise, by its body -/
theorem fnG_of {name qual : Str} {params : Arguments} {body : List Stmt} {scope : Scope} {f : Addr} {dV kV doc pm cdv ct oc : Value} {an od : Option Addr} {osl : Array (Option Value)} {N ps : List Str} {k : Nat} {o : ON} {cd : Option (Addr × Str)}
    (lk : K.lookup f = some ⟨oc, od, .func (PySem.W.fnOf name qual params body scope dV kV doc pm an cdv ct), osl⟩) (hcd : PySem.W.codeIn K cdv qual = true) (S : FnScope N ps scope) (len : ∀ gs M Q, o gs M Q → gs.length = ps.length)
    (hco : ∀ p, cd = some p → cdv = .ref p.1 ∧ qual ++ ".<locals>." = p.2) (h : ∀ gs M Q, o gs M Q → DS ⟨P, w, K, mg, base, N, scope, k, fun _ => true, cd, fun _ => True⟩ body (startG N gs) M (dRet Q)) :
    FnG P w K mg base (k + 1) f (PySem.W.fnOf name qual params body scope dV kV doc pm an cdv ct) ps o := by
  refine ⟨len, fun A outer st H args us vs Qv rm e0 hb rv up => ?_⟩
  obtain ⟨gs, M, Q, rs, hm, q, kk⟩ := up
  have hl : vs.length = ps.length := by rw [rs.length]; exact len _ _ _ q
  have inK : K.In st.heap := e0.mod.kin.keeps fun b u z => (e0.bs b u z).1
  have kinds : ∀ y ∈ ps.zip us, scope.names.lookup y.1 = some .local ∨ (scope.names.lookup y.1 = some .cell ∧ ((cellsFrom (st.heap.objs.size + 1) scope.names []).lookup y.1).isSome = true) := fun y hy => by
    rcases S.par y.1 (List.of_mem_zip (a := y.1) (b := y.2) hy).1 with z | z
    · exact .inl z
    · exact .inr ⟨z, PySem.W.cellsFrom_some _ _ _ (.inl z)⟩
  refine codeAny_call_function rm.toRoom.depth (inK _ _ lk) rfl S.co S.gen rfl (PySem.W.codeRec_of inK hcd) (hb _ _ _ _ ?_)
  refine wpAny_newFunctionEnv_cells S.kind kinds fun env he s1 x => ?_
  subst he
  refine ⟨(e0.mod.nolimit.keeps fun b u z => (e0.bs b u z).1).keeps x.toInCall.keep, codeAny_func ?_⟩
  have I : Inv (cxOf C8.CX0 P w K mg base N qual scope f cdv A outer st H C8.E0) [] (L2.start N vs) H s1 := inv_start S rm.hd e0 hl rv x
  have fit : Gam.Fit ⟨P, w, K, mg, base, N, scope, k, fun _ => true, cd, fun _ => True⟩ (cxOf C8.CX0 P w K mg base N qual scope f cdv A outer st H C8.E0).nox := ⟨rfl, rfl, rfl, rfl, rfl, rfl, rfl, rfl, S.nd, rm.deeper _, fun _ _ _ => .inl rfl, PassesOwn.never, (fun p z => hco p z), fun _ _ => trivial⟩
  refine wpAny_mono (((h gs M Q q).run _ fit).nox.run [] s1 (L2.start N vs) H { nx := fun _ H' => Qv .non H', rt := Qv } I ⟨renv_start rs, hm, ⟨fun σ' H' ρ' M' p r' h' z => kk _ _ _ _ p h' (rgd Rp.non) z, fun v H' g M' p h' rg z => kk v H' g M' p h' rg z, fun _ _ _ _ _ _ _ z => z.elim, fun _ _ _ _ _ _ _ z => z.elim⟩⟩) (fun fl s' hs => ?_) fun e s' hs => hs
  have fin : ∀ {σ' : L2.St} {H' : Hp} {v : V} {u : Value}, Inv (cxOf C8.CX0 P w K mg base N qual scope f cdv A outer st H C8.E0) [] σ' H' s' → RelV v u → Qv v H' → CE outer P w H st Qv u s' := fun {σ' H' v u} J r z => ⟨v, H', J.os, J.bare, J.base, J.hok, r, z⟩
  cases fl with
  | ret u =>
    obtain ⟨v, σ', H', J, r, z⟩ := hs
    exact fin J r z
  | next =>
    obtain ⟨σ', H', J, z⟩ := hs
    exact fin (v := .non) (u := .none) J rfl z
  | brk =>
    obtain ⟨σ', H', J, z⟩ := hs
    exact z.elim
  | cont =>
    obtain ⟨σ', H', J, z⟩ := hs
    exact z.elim
theorem fn_ok {x qual : Str} {params : Arguments} {body : List Stmt} {scope : Scope} {f : Addr} {fd : FuncData} {N ps : List Str} {k : Nat} {o : ON} (F : FunD K x qual params body scope [] [] f fd) (hm : mg x = some (.ref f))
    (hb : ∀ (kV doc pm : Value) (an : Option Addr) (cdv ct : Value) (us : List Value), us.length = ps.length → bindArgs (PySem.W.fnOf x qual params body scope .none kV doc pm an cdv ct) ⟨us, []⟩ = pure (ps.zip us)) (S : FnScope N ps scope) (len : ∀ gs M Q, o gs M Q → gs.length = ps.length)
    (h : ∀ gs M Q, o gs M Q → DS ⟨P, w, K, mg, base, N, scope, k, fun _ => true, none, fun _ => True⟩ body (startG N gs) M (dRet Q)) : Fn P w K mg base (k + 1) x o := by
  have b := F.bindsN hb
  have kp := F.kp
  obtain ⟨oc, od, dV, kV, doc, pm, an, cdv, ct, osl, rfl, lk, hcd, h1, h2⟩ := F.ex
  exact ⟨f, _, ps, fnG_of (cd := none) lk hcd S len (fun p z => nomatch z) h, hm, kp, b⟩
end
end B
end
section
set_option maxHeartbeats 4000000
/-! D9: calls over a comprehension. -/
namespace B
open PySem PySem.Spec PyProof.Rows L2
section
variable {Γ : Gam} {ρ : GEnv} {M : Sto} {tg iter elt : Expr} {ifs : List Expr} {scope : Scope} {pos p lpos : Pos}
/-- a turn of a comprehension without tests -/
def MapStep (Γ : Gam) (tg elt : Expr) (scope : Scope) (vs : List Nat) (ρ : GEnv) (M : Sto) (g : G) (y : PyData) : Prop := DC (Γ.blk scope) vs tg g (wipeG ρ vs) M fun ρ2 M2 => M2 = M ∧ PD (Γ.blk scope) elt ρ2 M (.d y)
def FilStep (Γ : Gam) (tg c elt : Expr) (scope : Scope) (vs : List Nat) (ρ : GEnv) (M : Sto) (g : G) (b : Bool) (y : PyData) : Prop := DC (Γ.blk scope) vs tg g (wipeG ρ vs) M fun ρ2 M2 => M2 = M ∧ PB (Γ.blk scope) c ρ2 M b ∧ (b = true → PD (Γ.blk scope) elt ρ2 M (.d y))
theorem dc_mono {vs : List Nat} {g : G} {Q Q' : GEnv → Sto → Prop} (h : DC Γ vs tg g ρ M Q) (k : ∀ ρ M, Q ρ M → Q' ρ M) : DC Γ vs tg g ρ M Q' := ⟨fun X f => PG.mono' (h.run X f) fun v σ H Qs ⟨a, b, c, d⟩ => ⟨a, b, c, fun σ' H' ρ' M' w p r h q => d σ' H' ρ' M' w p r h (k _ _ q)⟩⟩
/-- a list of the items f x -/
theorem pd_mapc {α : Type} {gs : List G} (own : List (Str × Nat)) (inj : α → G) (xs : List α) (F : α → PyData) (hI : PIt Γ tg iter ρ M gs) (hx : gs = xs.map inj) (hz : xs.length ≤ sizeLine) (hst : ∀ M', Ext M M' → ∀ x ∈ xs, MapStep Γ tg elt scope (own.map (·.2)) ρ M' (inj x) (F x)) (ok : blkC Γ.N Γ.sc scope own = true := by kernel_rfl)
    (hs : ∀ env x, foldedSetIterable iter env x = pure x := by intro _ _; rfl) : PD Γ (.ListComp elt [⟨tg, iter, [], 0⟩] scope pos) ρ M (.d (.list (xs.map F))) :=
  pd_map hI inj xs hx F hz (blkOk_by ok) hst hs
theorem pd_filc {α : Type} {gs : List G} {c : Expr} (own : List (Str × Nat)) (inj : α → G) (xs : List α) (t : α → Bool) (F : α → PyData) (hI : PIt Γ tg iter ρ M gs) (hx : gs = xs.map inj) (hz : xs.length ≤ sizeLine) (hst : ∀ M', Ext M M' → ∀ x ∈ xs, FilStep Γ tg c elt scope (own.map (·.2)) ρ M' (inj x) (t x) (F x)) (ok : blkC Γ.N Γ.sc scope own = true := by kernel_rfl)
    (hs : ∀ env x, foldedSetIterable iter env x = pure x := by intro _ _; rfl) : PD Γ (.ListComp elt [⟨tg, iter, [c], 0⟩] scope pos) ρ M (.d (.list ((xs.filter t).map F))) :=
  pd_lc hI inj xs hx t F hz (blkOk_by ok) (fun M' e x hx => dc_mono (hst M' e x hx) fun ρ2 M2 ⟨a, b, d⟩ => ⟨a, dts_one b, d⟩) hs
theorem da1 {e : Expr} {g : G} (h : PD Γ e ρ M g) (hs : ∀ env, starEach [e] env = (false, eval e env) :: starEach [] env := by intro _; rfl) : PAs Γ ρ M [e] [g] := .cons h .nil hs
theorem all_map {α : Type} (xs : List α) (t : α → Bool) : (xs.map t).all id = xs.all t := by rw [List.all_map]; rfl
theorem any_map {α : Type} (xs : List α) (t : α → Bool) : (xs.map t).any id = xs.any t := by rw [List.any_map]; rfl
theorem pd_allc {α : Type} {gs : List G} (own : List (Str × Nat)) (inj : α → G) (xs : List α) (t : α → Bool) (hm : Γ.mg "all" = none) (hI : PIt Γ tg iter ρ M gs) (hx : gs = xs.map inj) (hz : xs.length ≤ sizeLine) (hst : ∀ M', Ext M M' → ∀ x ∈ xs, MapStep Γ tg elt scope (own.map (·.2)) ρ M' (inj x) (.bool (t x))) (ok : blkC Γ.N Γ.sc scope own = true := by kernel_rfl)
    (hs : ∀ env x, foldedSetIterable iter env x = pure x := by intro _ _; rfl) (hg : GlD Γ "all" := by rfl) : PD Γ (.Call (.Name "all" p) [.ListComp elt [⟨tg, iter, [], 0⟩] scope lpos] [] pos) ρ M (.d (.bool (xs.all t))) :=
  pd_callB o_all hm rfl (da1 (pd_mapc own inj xs (fun x => .bool (t x)) hI hx hz hst ok hs)) ⟨_, xs.map t, rfl, by rw [List.map_map]; exact .d _, by rw [all_map], rfl⟩ hg
theorem pd_anyc {α : Type} {gs : List G} (own : List (Str × Nat)) (inj : α → G) (xs : List α) (t : α → Bool) (hm : Γ.mg "any" = none) (hI : PIt Γ tg iter ρ M gs) (hx : gs = xs.map inj) (hz : xs.length ≤ sizeLine) (hst : ∀ M', Ext M M' → ∀ x ∈ xs, MapStep Γ tg elt scope (own.map (·.2)) ρ M' (inj x) (.bool (t x))) (ok : blkC Γ.N Γ.sc scope own = true := by kernel_rfl)
    (hs : ∀ env x, foldedSetIterable iter env x = pure x := by intro _ _; rfl) (hg : GlD Γ "any" := by rfl) : PD Γ (.Call (.Name "any" p) [.ListComp elt [⟨tg, iter, [], 0⟩] scope lpos] [] pos) ρ M (.d (.bool (xs.any t))) :=
  pd_callB o_any hm rfl (da1 (pd_mapc own inj xs (fun x => .bool (t x)) hI hx hz hst ok hs)) ⟨_, xs.map t, rfl, by rw [List.map_map]; exact .d _, by rw [any_map], rfl⟩ hg
theorem pd_sumc {α : Type} {gs : List G} (own : List (Str × Nat)) (inj : α → G) (xs : List α) (t : α → Int) (hm : Γ.mg "sum" = none) (hI : PIt Γ tg iter ρ M gs) (hx : gs = xs.map inj) (hz : xs.length ≤ sizeLine) (hst : ∀ M', Ext M M' → ∀ x ∈ xs, MapStep Γ tg elt scope (own.map (·.2)) ρ M' (inj x) (.int (t x))) (ok : blkC Γ.N Γ.sc scope own = true := by kernel_rfl)
    (hs : ∀ env x, foldedSetIterable iter env x = pure x := by intro _ _; rfl) (hg : GlD Γ "sum" := by rfl) : PD Γ (.Call (.Name "sum" p) [.ListComp elt [⟨tg, iter, [], 0⟩] scope lpos] [] pos) ρ M (.d (.int (xs.map t).sum)) :=
  pd_callB o_sum hm rfl (da1 (pd_mapc own inj xs (fun x => .int (t x)) hI hx hz hst ok hs)) ⟨_, xs.map t, rfl, by rw [List.map_map]; exact .d _, rfl, rfl⟩ hg
theorem pd_tup1 {e : Expr} {ds : List PyData} (hm : Γ.mg "tuple" = none) (h : PD Γ e ρ M (.d (.list ds))) (hg : GlD Γ "tuple" := by rfl) (hs : ∀ env, starEach [e] env = (false, eval e env) :: starEach [] env := by intro _; rfl) (hpl : ∀ env, (backTo pos (starEach [] env)).any (·.1) = false := by intro _; rfl) : PD Γ (.Call (.Name "tuple" p) [e] [] pos) ρ M (.d (.tuple ds)) :=
  pd_callT o_tuple hm rfl (da1 h hs) ⟨_, ds, rfl, .l (.d _), rfl, rfl⟩ hg (he := hs) (hpl := hpl)
/-- sorted(e) of data, told as data -/
theorem pd_sorted {e : Expr} {g : G} {ds : List PyData} (hm : Γ.mg "sorted" = none) (h : PD Γ e ρ M g) (sv : SeqV M g ds) (hc : CanSort ds) (hz : ds.length ≤ sizeLine) (hg : GlD Γ "sorted" := by rfl) (hs : ∀ env, starEach [e] env = (false, eval e env) :: starEach [] env := by intro _; rfl) (hpl : ∀ env, (backTo pos (starEach [] env)).any (·.1) = false := by intro _; rfl) : PD Γ (.Call (.Name "sorted" p) [e] [] pos) ρ M (.d (.list (sortD ds))) :=
  pd_callB o_sorted hm rfl (da1 h hs) ⟨_, ds, rfl, sv, hc, hz, .frz ⟨rfl, rfl⟩⟩ hg (he := hs) (hpl := hpl)
theorem pd_len {e : Expr} {g : G} {ds : List PyData} (hm : Γ.mg "len" = none) (h : PD Γ e ρ M g) (sv : SeqV M g ds) (hg : GlD Γ "len" := by rfl) (hs : ∀ env, starEach [e] env = (false, eval e env) :: starEach [] env := by intro _; rfl) (hpl : ∀ env, (backTo pos (starEach [] env)).any (·.1) = false := by intro _; rfl) : PD Γ (.Call (.Name "len" p) [e] [] pos) ρ M (.d (.int (ds.length : Nat))) :=
  pd_callB o_len hm rfl (da1 h hs) ⟨_, ds, rfl, sv, rfl, rfl⟩ hg (he := hs) (hpl := hpl)
theorem sIx_nat (len d k : Nat) : HT.sIx len d (some (k : Nat)) = min k len := by
  unfold HT.sIx
  have h : ¬ ((k : Nat) : Int) < 0 := by omega
  simp [h]
theorem cut_from (ds : List PyData) (n : Nat) : cutD ds (some (n : Nat)) none = ds.drop n := by
  unfold cutD
  rw [sIx_nat]
  show (ds.drop (min n ds.length)).take (ds.length - min n ds.length) = _
  by_cases h : n ≤ ds.length
  · rw [Nat.min_eq_left h, List.take_of_length_le (by rw [List.length_drop]; omega)]
  · rw [Nat.min_eq_right (by omega), List.drop_of_length_le (show ds.length ≤ n by omega)]
    simp
theorem cut_from1 (ds : List PyData) : cutD ds (some 1) none = ds.drop 1 := cut_from ds 1
theorem cut_to (ds : List PyData) (n : Nat) : cutD ds none (some (n : Nat)) = ds.take n := by
  unfold cutD
  rw [sIx_nat]
  show (ds.drop 0).take (min n ds.length - 0) = _
  rw [List.drop_zero, Nat.sub_zero]
  by_cases h : n ≤ ds.length
  · rw [Nat.min_eq_left h]
  · rw [Nat.min_eq_right (by omega), List.take_of_length_le (by omega), List.take_of_length_le (by omega)]
theorem zipG_eq (as bs : List PyData) : zipG as bs = (as.zip bs).map fun p => G.d (.tuple [p.1, p.2]) := by
  induction as generalizing bs with
  | nil => simp [zipG]
  | cons a as ih => cases bs with
    | nil => simp [zipG]
    | cons b bs => simp [zipG, ih]
theorem rangeG_eq (lo : Int) (n : Nat) : rangeG lo n = (List.range n).map fun i => G.d (.int (lo + (i : Nat))) := rfl
end
end B
end
section
set_option maxHeartbeats 4000000
/-! D10: truth of ints, dicts. -/
namespace B
open PySem PySem.Spec PyProof.Rows L2
section
variable {Γ : Gam} {ρ : GEnv} {M : Sto} {a b c e : Expr} {pos : Pos}
theorem dt_int {Q : Bool → Sto → Prop} (h : DE Γ a ρ M fun x M1 => ∃ i : Int, x = .d (.int i) ∧ Q (i != 0) M1) (he : ∀ env whole, isTrue a env whole = (do let v ← whole; standAt a.pos; holding [v] (truthy v)) := by intro _ _; rfl) : DT Γ a ρ M Q :=
  ⟨fun X f => PT.mono' (pt_truth (pe_all f a) (he _)) fun σ H Qv ⟨r, h0, k⟩ => all_of h r h0 fun v H1 x M1 p1 r1 h1 rx ⟨i, e, q⟩ => by
    subst e
    cases rx
    exact ⟨i != 0, rfl, k _ H1 M1 p1 h1 q⟩⟩
theorem pb_int {i : Int} (h : PD Γ a ρ M (.d (.int i))) (he : ∀ env whole, isTrue a env whole = (do let v ← whole; standAt a.pos; holding [v] (truthy v)) := by intro _ _; rfl) : PB Γ a ρ M (i != 0) := dt_int (PD.de h ⟨i, rfl, rfl, rfl⟩) he
/-! ### dicts of the store -/
def valG (kvs : List (Key × G)) (k : Key) : Option G := (kvs.find? fun kv => decide (kv.1 = k)).map (·.2)
abbrev KVG (K : PySem.W.Frag) (H : Hp) : List (Key × V) → List (Key × G) → Prop := Paired (fun (a : Key × V) (b : Key × G) => a.1 = b.1 ∧ RG K H a.2 b.2)
theorem KVG.val {K : PySem.W.Frag} {H : Hp} {k : Key} : ∀ {vs : List (Key × V)} {gs : List (Key × G)}, KVG K H vs gs → (∀ g, valG gs k = some g → ∃ v, valV vs k = some v ∧ RG K H v g) ∧ (valG gs k = none → valV vs k = none)
  | _, _, .nil => ⟨(fun g e => nomatch e), fun _ => rfl⟩
  | (k1, v1) :: vs, (k2, g2) :: gs, .cons ⟨e, r⟩ t => by
    obtain ⟨h1, h2⟩ := KVG.val (k := k) t
    have e' : k1 = k2 := e
    subst e'
    by_cases hk : k1 = k
    · constructor
      · intro g q
        simp [valG, hk] at q
        subst q
        exact ⟨v1, valV_pos (p := (k1, v1)) hk, r⟩
      · intro q
        simp [valG, hk] at q
    · rw [show valG ((k1, g2) :: gs) k = valG gs k by simp [valG, hk], valV_neg (p := (k1, v1)) hk]
      exact ⟨h1, h2⟩
def putG (kvs : List (Key × G)) (k : Key) (g : G) : List (Key × G) := if (kvs.any fun kv => decide (kv.1 = k)) = true then kvs.map (fun kv => if kv.1 = k then (kv.1, g) else kv) else kvs ++ [(k, g)]
theorem KVG.any {K : PySem.W.Frag} {H : Hp} {k : Key} : ∀ {vs : List (Key × V)} {gs : List (Key × G)}, KVG K H vs gs → (vs.any fun kv => decide (kv.1 = k)) = (gs.any fun kv => decide (kv.1 = k))
  | _, _, .nil => rfl
  | _ :: _, _ :: _, .cons ⟨e, _⟩ t => by rw [List.any_cons, List.any_cons, KVG.any t, e]
theorem KVG.append {K : PySem.W.Frag} {H : Hp} {vs ws : List (Key × V)} {gs hs : List (Key × G)} (a : KVG K H vs gs) (b : KVG K H ws hs) : KVG K H (vs ++ ws) (gs ++ hs) := by
  induction a with
  | nil => exact b
  | cons h t ih => exact .cons h ih
theorem KVG.maps {K : PySem.W.Frag} {H : Hp} {k : Key} {v : V} {g : G} (r : RG K H v g) {vs : List (Key × V)} {gs : List (Key × G)} (h : KVG K H vs gs) : KVG K H (vs.map fun kv => if kv.1 = k then (kv.1, v) else kv) (gs.map fun kv => if kv.1 = k then (kv.1, g) else kv) := by
  induction h with
  | nil => exact .nil
  | @cons x y xs ys h t ih =>
    obtain ⟨e, r'⟩ := h
    refine .cons ?_ ih
    show (if x.1 = k then (x.1, v) else x).1 = (if y.1 = k then (y.1, g) else y).1 ∧ RG K H (if x.1 = k then (x.1, v) else x).2 (if y.1 = k then (y.1, g) else y).2
    by_cases hk : y.1 = k
    · rw [if_pos hk, if_pos (e.trans hk)]
      exact ⟨e, r⟩
    · rw [if_neg hk, if_neg (fun z => hk (e.symm.trans z))]
      exact ⟨e, r'⟩
theorem KVG.put {K : PySem.W.Frag} {H : Hp} {k : Key} {v : V} {g : G} (r : RG K H v g) {vs : List (Key × V)} {gs : List (Key × G)} (h : KVG K H vs gs) : KVG K H (putK vs k v) (putG gs k g) := by
  unfold putK putG
  rw [h.any]
  split
  · exact KVG.maps r h
  · exact h.append (.cons ⟨rfl, r⟩ .nil)
/-- a key of a dict of ints and texts -/
def keyD : PyData → Option Key
  | .int i => some (.inl i)
  | .str x => some (.inr x)
  | _ => none
theorem keyD_v {K : PySem.W.Frag} {H : Hp} {v : V} {d : PyData} {k : Key} (h : keyD d = some k) (r : Rp K H v d) : v = kV k := by
  cases d with
  | int i => cases r; cases h; rfl
  | str x => cases r; cases h; rfl
  | _ => cases h
theorem units1 {X : Cx} (f : Γ.Fit X) : X.A.units + 1 < cLine := by have := fit_units f; omega
/-- y in d, y not in d -/
theorem dict_look {H : Hp} {a : Addr} {gs : List (Key × G)} {y : V} {d : PyData} {k : Key} (h : Hold Γ.K H M) (e : M a = some (.dK gs)) (hk : keyD d = some k) (r : Rp Γ.K H y d) : ∃ o, DGet H a y o ∧ (∀ g, valG gs k = some g → ∃ v, o = some v ∧ RG Γ.K H v g) ∧ (valG gs k = none → o = none) := by
  obtain ⟨vs, e1, kv⟩ := h _ _ e
  have ey := keyD_v hk r
  subst ey
  obtain ⟨h1, h2⟩ := KVG.val (k := k) kv
  exact ⟨_, DGet.k e1, fun g q => by
    obtain ⟨v, a, b⟩ := h1 g q
    exact ⟨v, a, b⟩, h2⟩
theorem some_iff {o : Option V} {gs : List (Key × G)} {k : Key} {K : PySem.W.Frag} {H : Hp} (h1 : ∀ g, valG gs k = some g → ∃ v, o = some v ∧ RG K H v g) (h2 : valG gs k = none → o = none) : o.isSome = (valG gs k).isSome := by
  cases e : valG gs k with
  | none => rw [h2 e]; rfl
  | some g =>
    obtain ⟨v, e2, _⟩ := h1 g e
    rw [e2]
    rfl
theorem de_dinK {Q : G → Sto → Prop} (h : DE Γ a ρ M fun x M1 => DE Γ b ρ M1 fun y M2 => ∃ d k p gs, x = .d d ∧ keyD d = some k ∧ y = .op (.ref p) ∧ M2 p = some (.dK gs) ∧ Q (.d (.bool (valG gs k).isSome)) M2)
    (hm : behindInMarks .In b = false := by first | rfl | exact nomark _) : DE Γ (.Compare a [.In] [b] pos) ρ M Q :=
  de_cmp (o := fun x y M2 Q => ∃ d k p gs, x = .d d ∧ keyD d = some k ∧ y = .op (.ref p) ∧ M2 p = some (.dK gs) ∧ Q (.d (.bool (valG gs k).isSome)) M2) (fun X f pins s σ H vx vy u1 u2 Qv I r1 r2 ⟨x, y, M, Q, rx, ry, hm, ⟨d, k, p, gs, e1, hk, e2, e3, q⟩, kk⟩ => by
    subst e1 e2
    cases ry
    obtain ⟨o, g, h1, h2⟩ := dict_look (Γ := Γ) hm e3 hk rx
    cases r2
    exact d_in (units1 f) I g r1 fun s3 I3 => ⟨.bl o.isSome, H, I3, rfl, by rw [some_iff h1 h2]; exact kk.here hm (rgd (Rp.bl _)) q⟩) h hm
/-- d.get(k, x) -/
theorem de_dget2 {Q : G → Sto → Prop} {apos : Pos} (h : DE Γ a ρ M fun x M1 => ∃ p g0, x = .op (.ref p) ∧ M1 p = some (.dK g0) ∧ DE Γ b ρ M1 fun y M2 => DE Γ c ρ M2 fun z M3 => ∃ d k gs, y = .d d ∧ keyD d = some k ∧ M3 p = some (.dK gs) ∧ Q ((valG gs k).getD z) M3)
    (m : ∀ X : Cx, M2 X a "get" apos b c pos := by intro X; exact ⟨rfl, rfl, rfl, rfl⟩) : DE Γ (.Call (.Attribute a "get" apos) [b, c] [] pos) ρ M Q :=
  DE.of (fun X f => pe_dget2 (units1 f) (pe_all f a) (pe_all f b) (pe_all f c) (m X)) fun X f σ H Qv r h0 k => all_of h r h0 fun v H1 x M1 p1 r1 h1 rx ⟨p, g0, e1, e2, d⟩ => by
    subst e1
    cases rx
    obtain ⟨us0, e3, _⟩ := h1 _ _ e2
    refine ⟨p, rfl, .inl ⟨us0, .inl e3⟩, all_of d r1 h1 fun v2 H2 y M2 p2 r2 h2 ry d2 => all_of d2 r2 h2 fun v3 H3 z M3 p3 r3 h3 rz ⟨dd, k', gs, ey, hk, e4, q⟩ => ?_⟩
    subst ey
    obtain ⟨o, g, h1', h2'⟩ := dict_look (Γ := Γ) h3 e4 hk (Rp.mono p3 ry)
    refine ⟨o, g, ?_⟩
    have pp := p1.trans (p2.trans p3)
    cases e : valG gs k' with
    | none =>
      rw [h2' e]
      rw [e] at q
      exact k _ _ _ _ pp h3 rz q
    | some g' =>
      obtain ⟨v', e5, rv⟩ := h1' g' e
      rw [e5]
      rw [e] at q
      exact k _ _ _ _ pp h3 rv q
/-- d[k] = v -/
theorem d1_dput {D : DEnds} {p' : Pos} (h : DE Γ e ρ M fun z M1 => DE Γ a ρ M1 fun x M2 => DE Γ b ρ M2 fun y M3 => ∃ p gs d k, x = .op (.ref p) ∧ M3 p = some (.dK gs) ∧ y = .d d ∧ keyD d = some k ∧ gs.length < sizeLine ∧ D.nx ρ (put M3 p (.dK (putG gs k z))))
    (hs : ∀ env, swapsWith e (some (.Subscript a b p')) pos.line env = pure false := by intro _; rfl) : D1 Γ (.Assign [.Subscript a b p'] e pos) ρ M D :=
  D1.of (fun X f => ps_dput (units1 f) (pe_all f a) (pe_all f b) (pe_all f e) (hs _)) fun X f E σ H r h0 k => all_of h r h0 fun v H1 z M1 p1 r1 h1 rz d => all_of d r1 h1 fun u H2 x M2 p2 r2 h2 rx d2 => all_of d2 r2 h2 fun w H3 y M3 p3 r3 h3 ry ⟨p, gs, dd, kk, e1, e2, e3, hk, hz, q⟩ => by
    subst e1 e3
    cases rx
    have ew := keyD_v hk ry
    subst ew
    obtain ⟨vs, e4, kv⟩ := h3 _ _ e2
    have rz3 := rz.mono (p2.trans p3)
    have hl : vs.length = gs.length := Paired.length kv
    have pr : Pers H3 (upd H3 p (.dK (putK vs kk v))) := Pers.put e4 (fun _ z => nomatch z) (fun _ _ z => nomatch z)
    obtain ⟨_, h4⟩ := h3.put (o := .dK (putK vs kk v)) (m' := .dK (putG gs kk z)) e2 ⟨_, upd_same, Paired.mapP (KVG.put (k := kk) rz3 kv) fun _ _ z => ⟨z.1, z.2.mono pr⟩⟩
    exact ⟨p, _, rfl, DPut.k e4 (by omega), k.nx _ _ _ _ (p1.trans (p2.trans (p3.trans pr))) (r3.mono pr) h4 q⟩
/-- {} -/
theorem de_emptyD {Q : G → Sto → Prop} (q : ∀ p, M p = none → Q (.op (.ref p)) (put M p (.dK []))) : DE Γ (.Dict [] [] pos) ρ M Q :=
  DE.of (fun X f => pe_dnewK) fun X f σ H Qv r h0 k => fun p np => k _ _ (.op (.ref p)) _ (.new np) (h0.new (m := .dK []) np ⟨[], upd_same, .nil⟩) rfl (q p (h0.fresh np))
/-! ### {k: v for ..} for a local name -/
variable {tg iter kx vx : Expr} {ifs : List Expr} {scope : Scope} {own : List (Str × Nat)}
theorem ps_setDc {X : Cx} {i : Nat} {y : Str} {py lpos spos : Pos} {wi : TI} {g : TG} {tt : TT} {tk tv : TE} (hc : X.calm = true) (hN : X.N.Nodup) (hy : X.N[i]? = some y) (hyl : X.env.scope.names.lookup y = some .local)
    (hsw : swapsWith (.DictComp kx vx [⟨tg, iter, ifs, 0⟩] scope lpos) (some (.Name y py)) spos.line X.env = pure true) (hi : PI X tg iter wi) (ok : BlkOk X.N X.env.scope scope own)
    (hb : ∀ (s : Shared) (H : Hp) (C : Addr) (cl : List (Str × Addr)) (fp : List Addr), PG (X.blk s H scope (compEnvC scope cl C X.env) fp) tg g ∧ PTs (X.blk s H scope (compEnvC scope cl C X.env) fp) ifs tt ∧ PE (X.blk s H scope (compEnvC scope cl C X.env) fp) kx tk ∧ PE (X.blk s H scope (compEnvC scope cl C X.env) fp) vx tv)
    (hs : ∀ x, foldedSetIterable iter X.env x = pure x) : PS X (.Assign [.Name y py] (.DictComp kx vx [⟨tg, iter, ifs, 0⟩] scope lpos) spos) (tAsg (tDc wi g tt tk tv (own.map (·.2))) (gName i)) := by
  refine ⟨fun pins s σ H D I hq => ?_⟩
  rw [exec_Assign_Name_used _ _ _ _ hsw]
  refine wpAny_bind (wpAny_standAt (wpAny_bind ?_))
  show wpAny _ X.A (do let _ ← comprehension (.DictComp kx vx [⟨tg, iter, ifs, 0⟩] scope lpos) scope X.env (firstIterPos [⟨tg, iter, ifs, 0⟩] lpos) newDict false (eval iter X.env) (some (assign (.Name y py) X.env))) _ _ s
  have hq' : tDc wi g tt tk tv (own.map (·.2)) σ H (fun x H1 => gName i x σ H1 D.nx) := hq
  have core := dc_core (Qf := fun _ s' => SP X pins D .next s') (use := some (assign (.Name y py) X.env)) (pos := lpos) (pos' := firstIterPos [⟨tg, iter, ifs, 0⟩] lpos) hc hN I hi ok (fun s H C cl fp => (hb s H C cl fp).1) (fun s H C cl fp => (hb s H C cl fp).2.1) (fun s H C cl fp => (hb s H C cl fp).2.2.1) (fun s H C cl fp => (hb s H C cl fp).2.2.2) hs hq' fun L C s' m H' I' q hn fo => by
    show wpAny _ _ (assign (.Name y py) X.env (.ref L)) _ _ _
    refine wpAny_assign_Name (store_ok2 (v := V.ref L) I' hN hy (.inl hyl) rfl (fun s2 I2 ⟨a, sb, ha⟩ => ?_) (.inr hyl))
    obtain ⟨f0, f1, f2, f3, f4, f5⟩ := fo
    have ne : C ≠ a := ha.elim (fun z => by rw [z]; exact f1) fun z e => f4 y a z e.symm
    refine ⟨m, hn.sameBut sb ne, fun h3 sb3 => ?_⟩
    have J := I2.turned (t' := s2.toks) (fun b o hb e => (sb3.2 b hb).trans e) f0 f1 f3 f4 f5
    exact ⟨_, H', J, q⟩
  exact wpAny_bind (thn core fun _ s' hq => wpAny_pure (wpAny_pure hq))
theorem swd_true {gs : List Comprehension} {ps py : Pos} {y : Str} {l : Nat} {env : Env} (hk : env.scope.kind = .function) (hy : env.scope.names.lookup y = some .local) (hl : (py.line == ps.line) = true)
    (ha : (scope.names.any fun (n, k) => n == y && (k == .local || k == .cell)) = false) : swapsWith (.DictComp kx vx gs scope ps) (some (.Name y py)) l env = pure true := by
  have h1 : env.kindOf y = some .local := hy
  have h2 : env.blockKind = .function := by
    unfold Env.blockKind
    rw [hk]
    rfl
  unfold swapsWith
  simp only [h2, h1, ha, Expr.pos, hl]
  rfl
/-- name = {k: v for x in ..}, k an int or a text, the turns pure -/
theorem d1_setDc {α : Type} {D : DEnds} {spos py : Pos} {gs : List G} (own : List (Str × Nat)) (i : Nat) {y : Str} (inj : α → G) (xs : List α) (kf : α → PyData) (kk : α → Key) (vf : α → PyData) (hI : PIt Γ tg iter ρ M gs) (hx : gs = xs.map inj) (hz : xs.length < sizeLine) (hkk : ∀ x ∈ xs, keyD (kf x) = some (kk x))
    (hst : ∀ M', Ext M M' → ∀ x ∈ xs, DC (Γ.blk scope) (own.map (·.2)) tg (inj x) (wipeG ρ (own.map (·.2))) M' fun ρ2 M2 => M2 = M' ∧ PD (Γ.blk scope) kx ρ2 M' (.d (kf x)) ∧ PD (Γ.blk scope) vx ρ2 M' (.d (vf x)))
    (q : ∀ p, M p = none → D.nx (ρ.set i (some (.op (.ref p)))) (put M p (.dK (xs.foldl (fun m x => putG m (kk x) (.d (vf x))) [])))) (ok : blkC Γ.N Γ.sc scope own = true := by kernel_rfl) (hN : Γ.N[i]? = some y := by rfl) (hk : Γ.sc.kind = .function := by rfl) (hy : Γ.sc.names.lookup y = some .local := by rfl)
    (hl : (py.line == pos.line) = true := by rfl) (ha : (scope.names.any fun (n, k) => n == y && (k == .local || k == .cell)) = false := by rfl) (hs : ∀ env x, foldedSetIterable iter env x = pure x := by intro _ _; rfl) : D1 Γ (.Assign [.Name y py] (.DictComp kx vx [⟨tg, iter, [], 0⟩] scope pos) spos) ρ M D := by
  refine D1.of (fun X f => ps_setDc (i := i) (own := own) (wi := tAllI Γ tg iter) (g := tAllC (Γ.blk scope) (own.map (·.2)) tg) (tt := tYes) (tk := tAll (Γ.blk scope) kx) (tv := tAll (Γ.blk scope) vx) f.calm f.nd (by rw [f.N]; exact hN) (by rw [f.sc]; exact hy) (swd_true (by rw [f.sc]; exact hk) (by rw [f.sc]; exact hy) hl ha) (pi_all f tg iter) (by rw [f.N, f.sc]; exact blkOk_by ok)
    (fun s H C cl fp => ⟨pg_allC (f.blk scope s H C cl fp) tg, pts_nil, pe_all (f.blk scope s H C cl fp) kx, pe_all (f.blk scope s H C cl fp) vx⟩) (hs _)) fun X f E σ H r h0 k => ?_
  subst hx
  refine ⟨ρ, M, _, hI (fun gs C M1 => gs = xs.map inj ∧ M1 = M ∧ ∀ M', Ext M M' → C M') (fun C hC => ⟨rfl, rfl, hC⟩), r, h0, fun J H1 C gs M1 p1 h1 fd ⟨eg, eM, hC⟩ D' hD => ?_⟩
  subst eg eM
  have hMD := h1.fresh hD
  let acc : Nat → List (Key × G) := fun i => (xs.take i).foldl (fun m x => putG m (kk x) (.d (vf x))) []
  have lenput : ∀ (m : List (Key × G)) k g, (putG m k g).length ≤ m.length + 1 := fun m k g => by
    unfold putG
    split
    · rw [List.length_map]; omega
    · rw [List.length_append]; simp
  have hacc : ∀ (l : List α) (m : List (Key × G)), (l.foldl (fun m x => putG m (kk x) (.d (vf x))) m).length ≤ m.length + l.length := by
    intro l
    induction l with
    | nil => intro m; simp
    | cons x l ih =>
      intro m
      rw [List.foldl_cons]
      have := ih (putG m (kk x) (.d (vf x)))
      have := lenput m (kk x) (.d (vf x))
      rw [List.length_cons]
      omega
  refine ⟨fun i m H' => m = xs.length - i ∧ i ≤ xs.length ∧ Pers H1 H' ∧ Hold Γ.K H' (put M1 D' (.dK (acc i))), ⟨xs.length, by simp, Nat.zero_le _, .new hD, h1.new (m := .dK []) hD ⟨[], upd_same, .nil⟩⟩, ?_⟩
  rintro i2 m H2 ⟨rfl, hi, p2, h2⟩
  by_cases hlt : i2 < xs.length
  · have eg : (xs.map inj)[i2]? = some (inj xs[i2]) := by simp [hlt]
    obtain ⟨hgo, hyl⟩ := fd.go i2 _ H2 _ p2 h2 (hC _ (Ext.put hMD)) eg
    refine .inr ⟨hgo, fun H' => Pers H1 H' ∧ Hold Γ.K H' (put M1 D' (.dK (acc (i2 + 1)))), fun H' ⟨a, b⟩ => ⟨_, by omega, rfl, hlt, a, b⟩, fun x H3 y3 => ?_⟩
    obtain ⟨p3, h3, rx⟩ := hyl x H3 y3
    have hm : xs[i2] ∈ xs := List.getElem_mem hlt
    have rw1 : REnv Γ.K H3 (L2.wipe σ (own.map (·.2))) (wipeG ρ (own.map (·.2))) := (r.mono (p1.trans (p2.trans p3))).wiped _
    refine ⟨_, _, _, _, hst _ (Ext.put hMD) xs[i2] hm, rx, rw1, h3, fun σ4 H4 ρ4 M4 w4 p4 r4 h4 ⟨e4, dk, dv⟩ => ⟨w4.trans ?_, ?_⟩⟩
    · exact wipe_wiped
    · subst e4
      unfold tYes
      refine iteT ?_
      refine all_of dk r4 h4 fun v5 H5 g5 M5 p5 r5 h5 rg5 ⟨eg5, eM5⟩ => ?_
      subst eg5 eM5
      refine all_of dv r5 h5 fun v6 H6 g6 M6 p6 r6 h6 rg6 ⟨eg6, eM6⟩ => ?_
      subst eg6 eM6
      obtain ⟨vs, ev, kv⟩ := h6 D' _ put_same
      have hk6 := keyD_v (hkk _ hm) (Rp.mono p6 rg5)
      have hl6 : vs.length = (acc i2).length := Paired.length kv
      refine ⟨vs, kk xs[i2], hk6, ev, ?_, ?_⟩
      · have := hacc (xs.take i2) []
        rw [List.length_take] at this
        have e0 : ([] : List (Key × G)).length = 0 := rfl
        have : (acc i2).length ≤ i2 := by show ((xs.take i2).foldl _ []).length ≤ i2; omega
        omega
      · have pr : Pers H6 (upd H6 D' (.dK (putK vs (kk xs[i2]) v6))) := Pers.put ev (fun _ z => nomatch z) (fun _ _ z => nomatch z)
        obtain ⟨_, h7⟩ := h6.put (o := .dK (putK vs (kk xs[i2]) v6)) (m' := .dK (acc (i2 + 1))) put_same ⟨_, upd_same, by
          have ea : acc (i2 + 1) = putG (acc i2) (kk xs[i2]) (.d (vf xs[i2])) := by
            show (xs.take (i2 + 1)).foldl _ [] = putG ((xs.take i2).foldl _ []) _ _
            rw [List.take_add_one, List.getElem?_eq_getElem hlt, Option.toList_some, List.foldl_append]
            rfl
          rw [ea]
          exact Paired.mapP (KVG.put (k := kk xs[i2]) rg6 kv) fun _ _ z => ⟨z.1, z.2.mono pr⟩⟩
        rw [put_put] at h7
        exact ⟨p2.trans (p3.trans (p4.trans (p5.trans (p6.trans pr)))), h7⟩
  · have e : i2 = xs.length := by omega
    subst e
    refine .inl ⟨fd.stop _ H2 _ p2 h2 (hC _ (Ext.put hMD)) (by rw [List.length_map]; exact Nat.le_refl _), ?_⟩
    have hq := q D' hMD
    have ea : acc xs.length = xs.foldl (fun m x => putG m (kk x) (.d (vf x))) [] := by show (xs.take xs.length).foldl _ [] = _; rw [List.take_length]
    rw [← ea] at hq
    exact k.nx _ _ _ _ (p1.trans p2) ((r.mono (p1.trans p2)).set i (show RG Γ.K H2 (.ref D') (.op (.ref D')) from rfl)) h2 hq
end
end B
end
section
set_option maxHeartbeats 4000000
/-! D11: comprehensions for names, small forms. -/
namespace B
open PySem PySem.Spec PyProof.Rows L2
section
variable {Γ : Gam} {ρ : GEnv} {M : Sto} {tg iter elt : Expr} {ifs : List Expr} {scope : Scope} {pos p lpos : Pos} {D : DEnds}
theorem lcP_map {α : Type} {gs : List G} {vs : List Nat} {Q : G → Sto → Prop} (inj : α → G) (xs : List α) (F : α → PyData) (hI : PIt Γ tg iter ρ M gs) (hx : gs = xs.map inj) (hz : xs.length ≤ sizeLine) (hst : ∀ M', Ext M M' → ∀ x ∈ xs, MapStep Γ tg elt scope vs ρ M' (inj x) (F x)) (q : NewL (xs.map F) M Q) : LcP Γ tg iter elt [] scope vs ρ M Q :=
  lc_pure hI inj xs hx (fun _ => true) F hz (fun M' e x hx => dc_mono (hst M' e x hx) fun ρ2 M2 ⟨a, b⟩ => ⟨a, dts_nil ⟨rfl, rfl⟩, fun _ => b⟩) (by rw [show xs.filter (fun _ => true) = xs from List.filter_eq_self.mpr (fun _ _ => rfl)]; exact q)
theorem lcP_fil {α : Type} {gs : List G} {vs : List Nat} {c : Expr} {Q : G → Sto → Prop} (inj : α → G) (xs : List α) (t : α → Bool) (F : α → PyData) (hI : PIt Γ tg iter ρ M gs) (hx : gs = xs.map inj) (hz : xs.length ≤ sizeLine) (hst : ∀ M', Ext M M' → ∀ x ∈ xs, FilStep Γ tg c elt scope vs ρ M' (inj x) (t x) (F x)) (q : NewL ((xs.filter t).map F) M Q) : LcP Γ tg iter elt [c] scope vs ρ M Q :=
  lc_pure hI inj xs hx t F hz (fun M' e x hx => dc_mono (hst M' e x hx) fun ρ2 M2 ⟨a, b, d⟩ => ⟨a, dts_one b, d⟩) q
theorem d1_filc {α : Type} {gs : List G} {spos py : Pos} {y : Str} {c : Expr} (own : List (Str × Nat)) (i : Nat) (inj : α → G) (xs : List α) (t : α → Bool) (F : α → PyData) (hI : PIt Γ tg iter ρ M gs) (hx : gs = xs.map inj) (hz : xs.length ≤ sizeLine) (hst : ∀ M', Ext M M' → ∀ x ∈ xs, FilStep Γ tg c elt scope (own.map (·.2)) ρ M' (inj x) (t x) (F x))
    (q : NewL ((xs.filter t).map F) M fun g M1 => D.nx (ρ.set i (some g)) M1) (ok : blkC Γ.N Γ.sc scope own = true := by kernel_rfl) (hN : Γ.N[i]? = some y := by rfl) (hk : Γ.sc.kind = .function := by rfl) (hy : Γ.sc.names.lookup y = some .local := by rfl)
    (hl : (py.line == lpos.line) = true := by rfl) (ha : (scope.names.any fun (n, k) => n == y && (k == .local || k == .cell)) = false := by rfl) (hs : ∀ env x, foldedSetIterable iter env x = pure x := by intro _ _; rfl) : D1 Γ (.Assign [.Name y py] (.ListComp elt [⟨tg, iter, [c], 0⟩] scope lpos) spos) ρ M D :=
  d1_setLc i (lcP_fil inj xs t F hI hx hz hst q) (blkOk_by ok) hN hk hy hl ha hs
/-- an item of a tuple or a list, by a written place -/
theorem pd_at {a b : Expr} {ds : List PyData} {i : Int} {d : PyData} (ha : PD Γ a ρ M (.d (.tuple ds))) (hb : PD Γ b ρ M (.d (.int i))) (e : atI ds i = some d) (hs : PlainIx b := by intro _ _; rfl) : PD Γ (.Subscript a b pos) ρ M (.d d) := pd_ix o_ix ha hb ⟨ds, i, d, .t _, rfl, e, rfl, rfl⟩ hs
theorem pd_atL {a b : Expr} {g : G} {ds : List PyData} {i : Int} {d : PyData} (ha : PD Γ a ρ M g) (hd : DatV M g (.list ds)) (hb : PD Γ b ρ M (.d (.int i))) (e : atI ds i = some d) (hs : PlainIx b := by intro _ _; rfl) : PD Γ (.Subscript a b pos) ρ M (.d d) := pd_ix o_ix ha hb ⟨ds, i, d, .l hd, rfl, e, rfl, rfl⟩ hs
theorem atI_nat {α : Type} {xs : List α} {i : Nat} {x : α} (h : xs[i]? = some x) : atI xs (i : Nat) = some x := by
  have hl := (List.getElem?_eq_some_iff.mp h).1
  have hn : ixN xs.length (i : Nat) = some i := by
    unfold ixN
    rw [if_pos (by omega), if_pos (by omega)]
    rfl
  unfold atI
  rw [hn]
  exact h
/-- a value as it is told otherwise -/
theorem PD.to {e : Expr} {g g' : G} (h : PD Γ e ρ M g) (e' : g = g') : PD Γ e ρ M g' := e' ▸ h
theorem PB.to {e : Expr} {g g' : Bool} (h : PB Γ e ρ M g) (e' : g = g') : PB Γ e ρ M g' := e' ▸ h
theorem de_ifB {a b c : Expr} {k : Bool} {Q : G → Sto → Prop} (h : PB Γ c ρ M k) (ha : k = true → DE Γ a ρ M Q) (hb : k = false → DE Γ b ρ M Q) : DE Γ (.IfExp c a b pos) ρ M Q := de_if (PB.dt h (by
  cases k with
  | true => exact ifT rfl (ha rfl)
  | false => exact ifF rfl (hb rfl)))
theorem d1_ifB {a b : List Stmt} {c : Expr} {k : Bool} (h : PB Γ c ρ M k) (ha : k = true → DS Γ a ρ M D) (hb : k = false → DS Γ b ρ M D) : D1 Γ (.If c a b pos) ρ M D := d1_if (PB.dt h (by
  cases k with
  | true => exact ifT rfl (ha rfl)
  | false => exact ifF rfl (hb rfl)))
end
end B
end
section
set_option maxHeartbeats 4000000
/-! D12: list(range(n)); sorted lists. -/
namespace B
open PySem PySem.Spec PyProof.Rows L2
section
variable {Γ : Gam} {ρ : GEnv} {M : Sto} {Q : G → Sto → Prop} {a : Expr} {p1 p2 pos pos2 : Pos}
def rangeD (n : Nat) : List PyData := (List.range n).map fun i => .int (i : Nat)
theorem de_listRg (hl : Γ.mg "list" = none) (hr : Γ.mg "range" = none) (h : DE Γ a ρ M fun g M1 => ∃ n : Int, g = .d (.int n) ∧ 0 ≤ n ∧ n ≤ 16777216 ∧ NewL (rangeD n.toNat) M1 Q) (hg : GlD Γ "list" := by rfl) (hg2 : GlD Γ "range" := by rfl)
    (na : ∀ env, starEach [.Call (.Name "range" p2) [a] [] pos2] env = (false, eval (.Call (.Name "range" p2) [a] [] pos2) env) :: starEach [] env := by intro _; rfl) (na2 : ∀ env, starEach [a] env = (false, eval a env) :: starEach [] env := by intro _; rfl) :
    DE Γ (.Call (.Name "list" p1) [.Call (.Name "range" p2) [a] [] pos2] [] pos) ρ M Q :=
  DE.of (fun X f => pe_frz (pe_listRg f.calm (GlD.gl f hg) (by rw [f.mg]; exact hl) (prg_1 (GlD.gl f hg2) (by rw [f.mg]; exact hr) (pe_all f a) (na2 _)) (na _))) fun X f σ H Qv r h0 k => all_of h r h0 fun v H1 g M1 q1 r1 h1 rg ⟨n, e, l0, l1, q⟩ => by
    subst e
    cases rg
    refine ⟨n, rfl, .of_le (by omega) l1 (by omega) l0, fun x hx => ?_⟩
    have ev : ∀ H : Hp, RpAll Γ.K H (rgV 0 n) (rangeD n.toNat) := fun H => by
      have e1 : rgV 0 n = (((List.range n.toNat).map fun i => ((i : Nat) : Int))).map V.int := by
        unfold rgV
        rw [Int.sub_zero, List.map_map]
        exact List.map_congr_left fun i _ => by show V.int (0 + (i : Int)) = V.int (i : Int); rw [Int.zero_add]
      have e2 : rangeD n.toNat = (((List.range n.toNat).map fun i => ((i : Nat) : Int))).map PyData.int := by
        unfold rangeD
        rw [List.map_map]
        rfl
      rw [e1, e2]
      exact RpAll.of_ints _
    have h2 := h1.new (o := .lst (rgV 0 n)) (m := .lst ((rangeD n.toNat).map G.d)) hx ⟨_, upd_same, RGs.of_data (ev _)⟩
    have hM := h1.fresh hx
    rcases q with q | q
    · obtain ⟨p2, h3, rg2⟩ : Pers H1 (upd (upd H1 x (.lst (rgV 0 n))) x (.frz _ (.lst (rgV 0 n)))) ∧ Hold Γ.K _ M1 ∧ RG Γ.K _ (.ref x) (.d (.list (rangeD n.toNat))) := by
        obtain ⟨p3, h3, rg3⟩ := hold_frz (od := ⟨.none, none, .plain, #[]⟩) h2 (upd_same) (ev _)
        rw [del_put hM] at h3
        exact ⟨(Pers.new hx).trans p3, h3, rg3⟩
      refine .inr ⟨x, rgV 0 n, upd_same, fun od => ?_⟩
      obtain ⟨p3, h3, rg3⟩ := hold_frz (od := od) h2 (upd_same) (ev _)
      rw [del_put hM] at h3
      exact k _ _ _ _ (q1.trans ((Pers.new hx).trans p3)) h3 rg3 q
    · exact .inl (k _ _ (.op (.ref x)) _ (q1.trans (.new hx)) h2 rfl (q x hM))
end
/-! ### sorted data that comes from ints, from anything that is ordered -/
theorem sortD_of {α : Type} (enc : α → PyData) (le : α → α → Bool) (l l' : List α) (hle : ∀ a ∈ l, ∀ b ∈ l, leD (enc a) (enc b) = le a b) (tr : ∀ a b c, le a b = true → le b c = true → le a c = true) (to : ∀ a b, (le a b || le b a) = true) (as : ∀ a b, a ∈ l → b ∈ l → le a b = true → le b a = true → a = b) (hp : l'.Perm l) (hs : l'.Pairwise fun a b => le a b = true) : sortD (l.map enc) = l'.map enc := by
  unfold sortD
  rw [← PySem.W.sort_maps (r := le) (s := leD) enc fun a ha b hb => (hle a ha b hb).symm]
  congr 1
  exact List.Perm.eq_of_pairwise (le := fun a b => le a b = true) (fun a b ha hb h1 h2 => as a b ((List.mergeSort_perm l le).mem_iff.mp ha) (hp.mem_iff.mp hb) h1 h2) (List.pairwise_mergeSort tr to l) hs ((List.mergeSort_perm l le).trans hp.symm)
end B
end
section
set_option maxHeartbeats 4000000
/-! D13: the script: a list of ints in the store, or an object that is known for ever. -/
namespace B
open PySem PySem.Spec PyProof.Rows L2
/-- a list of ints that stands among the known objects -/
def KList (K : PySem.W.Frag) (a : Addr) (ns : List Int) : Prop := ∀ H : Hp, SqL K H a (ns.map V.int)
inductive ScrV (K : PySem.W.Frag) (M : Sto) : G → List Int → Prop
  | d {g : G} {ns : List Int} (h : DatV M g (.list (ns.map PyData.int))) : ScrV K M g ns
  | k {a : Addr} {ns : List Int} (h : KList K a ns) : ScrV K M (.op (.ref a)) ns
theorem ScrV.sql {K : PySem.W.Frag} {H : Hp} {M : Sto} {v : V} {g : G} {ns : List Int} (h : ScrV K M g ns) (hm : Hold K H M) (r : RG K H v g) : ∃ a, v = .ref a ∧ SqL K H a (ns.map V.int) := by
  cases h with
  | d h =>
    obtain ⟨a, xs, e, ha, ra⟩ := h.sql hm r
    rw [RpAll.ints ra] at ha
    exact ⟨a, e, ha⟩
  | k h =>
    cases r
    exact ⟨_, rfl, h H⟩
section
variable {Γ : Gam} {ρ : GEnv} {M : Sto} {Q : G → Sto → Prop} {a b e : Expr} {p pos : Pos}
def oLenS (K : PySem.W.Frag) : ON := fun xs M Q => ∃ g ns, xs = [g] ∧ ScrV K M g ns ∧ Q (.d (.int (ns.length : Nat))) M
theorem o_lenS : OpN Γ (.builtin "len") (oLenS Γ.K) := fun X fit => CallR.mono' call_len_seq fun vs H Qv ⟨xs, M, Q, rs, hm, ⟨g, ns, e, sv, q⟩, k⟩ => by
  subst e
  cases rs with
  | cons r t =>
    cases t
    obtain ⟨a, rfl, ha⟩ := sv.sql hm r
    rw [← fit.K] at ha
    refine ⟨a, _, rfl, .inl ha, ?_⟩
    rw [List.length_map]
    exact k.here hm (rgd (Rp.int _)) q
def oIxS (K : PySem.W.Frag) : O2 := fun x y M Q => ∃ ns i n, ScrV K M x ns ∧ y = .d (.int i) ∧ atI ns i = some n ∧ Q (.d (.int n)) M
theorem o_ixS : Ix2 Γ (oIxS Γ.K) := fun X fit => IxR.mono' ix_list fun vx vy H Qv ⟨x, y, M, Q, rx, ry, hm, ⟨ns, i, n, sv, e, ha, q⟩, k⟩ => by
  subst e
  cases ry
  obtain ⟨a, rfl, h⟩ := sv.sql hm rx
  rw [← fit.K] at h
  refine ⟨a, _, i, .int n, rfl, rfl, h, ?_, k.here hm (rgd (Rp.int _)) q⟩
  unfold atI at ha ⊢
  rw [List.length_map]
  cases e : ixN ns.length i with
  | none =>
    rw [e] at ha
    cases ha
  | some j =>
    rw [e] at ha
    have ha' : ns[j]? = some n := ha
    show (ns.map V.int)[j]? = _
    rw [List.getElem?_map, ha']
    rfl
def cutI (ns : List Int) (lo hi : Option Int) : List Int := (ns.drop (HT.sIx ns.length 0 lo)).take (HT.sIx ns.length ns.length hi - HT.sIx ns.length 0 lo)
/-- script[lo:hi] -/
theorem de_slS {lo hi : Option Expr} {l h : Option Int} {x : G} {ns : List Int} {p2 : Pos} (he : PD Γ e ρ M x) (hx : ScrV Γ.K M x ns) (hl : PPart Γ ρ M lo l) (hh : PPart Γ ρ M hi h) (q : ∀ p, M p = none → Q (.op (.ref p)) (put M p (.lst ((cutD (ns.map PyData.int) l h).map G.d)))) : DE Γ (.Subscript e (.Slice lo hi none p2) pos) ρ M Q :=
  DE.of (fun X f => pe_slice sl_list (pe_all f e) (hl.po f) (hh.po f)) fun X f σ H Qv r h0 k => all_of he r h0 fun v H1 g M1 p1 r1 h1 rg ⟨e1, e2⟩ => by
    subst e1 e2
    refine ⟨r1, h1, fun H2 p2 h2 => ⟨r1.mono p2, h2, fun H3 p3 h3 => ?_⟩⟩
    obtain ⟨a, ev, ha⟩ := hx.sql h3 (rg.mono (p2.trans p3))
    rw [← f.K] at ha
    refine ⟨a, _, ev, ha, fun x hx3 => ?_⟩
    have e1 : cutV (ns.map V.int) l h = (cutI ns l h).map V.int := by
      unfold cutV cutI
      rw [List.length_map, ← List.map_drop, ← List.map_take]
    have e2 : cutD (ns.map PyData.int) l h = (cutI ns l h).map PyData.int := by
      unfold cutD cutI
      rw [List.length_map, ← List.map_drop, ← List.map_take]
    have h4 := h3.new (o := .lst (cutV (ns.map V.int) l h)) (m := .lst ((cutD (ns.map PyData.int) l h).map G.d)) hx3 ⟨_, upd_same, by rw [e1, e2]; exact RGs.of_data (RpAll.of_ints _)⟩
    exact k _ _ (.op (.ref x)) _ (p1.trans (p2.trans (p3.trans (.new hx3)))) h4 rfl (q x (h3.fresh hx3))
end
end B
end
section
set_option maxHeartbeats 4000000
/-! D14: comprehensions whose iterator, items or tests change one list of the store. -/
namespace B
open PySem PySem.Spec PyProof.Rows L2
section
variable {Γ : Gam} {ρ : GEnv} {M : Sto} {tg iter elt : Expr} {ifs : List Expr} {scope : Scope} {pos p1 lpos : Pos} {D : DEnds} {Q : G → Sto → Prop}
theorem put_put_ne {M : Sto} {p q : Addr} {a b c : MO} (h : p ≠ q) : put (put (put M p a) q b) p c = put (put M p c) q b := by
  rw [put_comm h, put_put, put_comm (Ne.symm h)]
theorem put3 {M : Sto} {p a b : Addr} {x y z w : MO} (ha : p ≠ a) (hb : p ≠ b) : put (put (put (put M p x) a y) b z) p w = put (put (put M p w) a y) b z := by
  rw [put_comm (p := b) (q := p) (Ne.symm hb), put_put_ne ha]
theorem put_self {M : Sto} {p : Addr} {o : MO} (h : M p = some o) : put M p o = M := by
  funext b
  unfold put
  by_cases e : b = p
  · rw [if_pos e, e, h]
  · rw [if_neg e]
theorem ne_free {M : Sto} {p q : Addr} {o : MO} (h : M p = some o) (hq : M q = none) : p ≠ q := fun e => by rw [e, hq] at h; cases h
/-- a pure iterator that does not lean on the list at p -/
def PItX (Γ : Gam) (tg iter : Expr) (ρ : GEnv) (M : Sto) (p : Addr) (gs : List G) : Prop := ∀ Q : List G → (Sto → Prop) → Sto → Prop, (∀ C, (∀ M', (∀ b o, b ≠ p → M b = some o → M' b = some o) → C M') → Q gs C M) → DI Γ tg iter ρ M Q
theorem pitx_range1 {a : Expr} {q pos : Pos} {p : Addr} {j : Int} (hm : Γ.mg "range" = none) (h : PD Γ a ρ M (.d (.int j))) (hj : -(2 ^ 60) ≤ j ∧ j ≤ 2 ^ 60) (hg : GlD Γ "range" := by rfl) (hs : ∀ env, starEach [a] env = [(false, eval a env)] := by intro _; rfl) : PItX Γ tg (.Call (.Name "range" q) [a] [] pos) ρ M p (rangeG 0 j.toNat) :=
  fun Q k => di_range1 hm (PD.de h ⟨j, rfl, hj.2, hj.1, k _ fun M' e => trivial⟩) hg hs
theorem lcI_list {α : Type} {vs : List Nat} (enc : α → PyData) (F : α → PyData)
    (h : DE Γ iter ρ M fun g M1 => ∃ xs : List α, DatV M1 g (.list (xs.map enc)) ∧ xs.length ≤ sizeLine ∧ (∀ M', Ext M1 M' → ∀ x ∈ xs, MapStep Γ tg elt scope vs ρ M' (.d (enc x)) (F x)) ∧ NewL (xs.map F) M1 Q) : LcP Γ tg iter elt [] scope vs ρ M Q := by
  refine di_list (DE.mono h fun g M1 ⟨xs, hd, hz, hst, hq⟩ => ⟨xs.map enc, hd, fun D hD => ?_⟩)
  refine ⟨fun i acc M' => acc = ((xs.take i).map F).map G.d ∧ M' = put M1 D (.lst acc), ⟨by simp, rfl⟩, fun i acc M' _ ⟨_, e⟩ => by rw [e]; exact hd.ext (Ext.put hD), fun i g acc M' eg ⟨ea, e⟩ => ?_, fun acc M' ⟨ea, e⟩ => ?_⟩
  · rw [List.getElem?_map, List.getElem?_map] at eg
    cases ex : xs[i]? with
    | none => rw [ex] at eg; cases eg
    | some x =>
      rw [ex] at eg
      cases eg
      have hi : i < xs.length := (List.getElem?_eq_some_iff.mp ex).1
      have et : xs.take (i + 1) = xs.take i ++ [x] := by rw [List.take_add_one, ex]; rfl
      refine ⟨?_, dc_mono (hst M' (by rw [e]; exact Ext.put hD) x (List.mem_of_getElem? ex)) fun ρ2 M2 ⟨e2, d⟩ => dts_nil ?_⟩
      · rw [ea, List.length_map, List.length_map, List.length_take]
        omega
      · subst e2
        refine ifT rfl (PD.de d ⟨by rw [e]; exact put_same, ?_, by rw [e, put_put]⟩)
        rw [et, List.map_append, List.map_append, ← ea]
        rfl
  · rw [List.length_map, List.length_map, List.take_length] at ea
    refine ⟨by rw [e]; exact put_same, ?_⟩
    rcases hq with q | q
    · exact .inl ⟨_, ea, by rw [e, del_put hD]; exact q⟩
    · exact .inr (by rw [e, ea]; exact q D hD)
/-- the items change the list at p, whose state is told by S at a step's count -/
theorem lcP_eff {α : Type} {gs : List G} {vs : List Nat} (S : Nat → List G → Prop) (R : α → PyData → Prop) (p : Addr) (l : List G) (inj : α → G) (xs : List α) (hp : M p = some (.lst l)) (hS : S 0 l) (hI : PItX Γ tg iter ρ M p gs) (hx : gs = xs.map inj) (hz : xs.length ≤ sizeLine)
    (hst : ∀ i M' l1, i < xs.length → (∀ b o, b ≠ p → M b = some o → M' b = some o) → M' p = some (.lst l1) → S i l1 → ∀ x, xs[i]? = some x → DC (Γ.blk scope) vs tg (inj x) (wipeG ρ vs) M' fun ρ2 M2 => M2 = M' ∧ DE (Γ.blk scope) elt ρ2 M' fun y M4 => ∃ d l2, y = .d d ∧ R x d ∧ S (i + 1) l2 ∧ M4 = put M' p (.lst l2))
    (q : ∀ ds l', ds.length = xs.length → (∀ d ∈ ds, ∃ x ∈ xs, R x d) → S xs.length l' → NewL ds (put M p (.lst l')) Q) : LcP Γ tg iter elt [] scope vs ρ M Q := by
  refine hI _ fun C hC D hD => ?_
  subst hx
  have hpD := ne_free hp hD
  refine ⟨fun i acc M' => ∃ ds l1, acc = ds.map G.d ∧ ds.length = i ∧ (∀ d ∈ ds, ∃ x ∈ xs, R x d) ∧ S i l1 ∧ M' = put (put M p (.lst l1)) D (.lst acc), ⟨[], l, rfl, rfl, (fun d hd => by cases hd), hS, ?_⟩, fun i acc M' _ ⟨ds, l1, _, _, _, _, e⟩ => hC M' fun b o hb hM => ?_, fun i g acc M' eg ⟨ds, l1, ea, hl, hR, hS1, e⟩ => ?_, fun acc M' ⟨ds, l1, ea, hl, hR, hS1, e⟩ => ?_⟩
  · congr 1
    funext b
    unfold put
    by_cases hb : b = p
    · rw [if_pos hb, hb, hp]
    · rw [if_neg hb]
  · rw [e, put_ne (fun z => by rw [z, hD] at hM; cases hM), put_ne hb]
    exact hM
  · rw [List.getElem?_map] at eg
    cases ex : xs[i]? with
    | none => rw [ex] at eg; cases eg
    | some x =>
      rw [ex] at eg
      cases eg
      have hi : i < xs.length := (List.getElem?_eq_some_iff.mp ex).1
      refine ⟨?_, ?_⟩
      · rw [ea, List.length_map, hl]
        omega
      · refine dc_mono (hst i M' l1 hi (fun b o hb hM => ?_) ?_ hS1 x ex) fun ρ2 M2 ⟨e2, de⟩ => dts_nil (ifT rfl ?_)
        · rw [e, put_ne (fun z => by rw [z, hD] at hM; cases hM), put_ne hb]
          exact hM
        · rw [e, put_ne hpD, put_same]
        · subst e2
          refine DE.mono de fun y M4 ⟨d, l2, ey, hRd, hS2, e4⟩ => ?_
          subst ey e4
          refine ⟨by rw [put_ne (Ne.symm hpD), e, put_same], ds ++ [d], l2, by rw [ea, List.map_append]; rfl, by rw [List.length_append, hl]; rfl, fun d' hd' => ?_, hS2, ?_⟩
          · rcases List.mem_append.mp hd' with h | h
            · exact hR d' h
            · rw [List.mem_singleton] at h
              rw [h]
              exact ⟨x, List.mem_of_getElem? ex, hRd⟩
          · rw [e, put_put_ne hpD, put_put]
  · rw [List.length_map] at hl hS1
    refine ⟨by rw [e]; exact put_same, ?_⟩
    have hD2 : put M p (.lst l1) D = none := by rw [put_ne (Ne.symm hpD)]; exact hD
    rcases q ds l1 hl hR hS1 with q | q
    · exact .inl ⟨ds, ea, by rw [e, del_put hD2]; exact q⟩
    · exact .inr (by rw [e, ea]; exact q D hD2)
/-- the tests change the list at p -/
theorem lcP_effT {α : Type} {gs : List G} {vs : List Nat} {c : Expr} (S : Nat → List G → Prop) (F : α → PyData) (p : Addr) (l : List G) (inj : α → G) (xs : List α) (hp : M p = some (.lst l)) (hS : S 0 l) (hI : PItX Γ tg iter ρ M p gs) (hx : gs = xs.map inj) (hz : xs.length ≤ sizeLine)
    (hst : ∀ i M' l1, i < xs.length → (∀ b o, b ≠ p → M b = some o → M' b = some o) → M' p = some (.lst l1) → S i l1 → ∀ x, xs[i]? = some x → DC (Γ.blk scope) vs tg (inj x) (wipeG ρ vs) M' fun ρ2 M2 => M2 = M' ∧ DT (Γ.blk scope) c ρ2 M' fun b M3 => ∃ l2, S (i + 1) l2 ∧ M3 = put M' p (.lst l2) ∧ PD (Γ.blk scope) elt ρ2 M3 (.d (F x)))
    (q : ∀ (ys : List α) (l' : List G), ys.Sublist xs → S xs.length l' → NewL (ys.map F) (put M p (.lst l')) Q) : LcP Γ tg iter elt [c] scope vs ρ M Q := by
  refine hI _ fun C hC D hD => ?_
  subst hx
  have hpD := ne_free hp hD
  refine ⟨fun i acc M' => ∃ (ys : List α) (l1 : List G), acc = (ys.map F).map G.d ∧ ys.Sublist (xs.take i) ∧ S i l1 ∧ M' = put (put M p (.lst l1)) D (.lst acc), ⟨[], l, rfl, List.nil_sublist _, hS, ?_⟩, fun i acc M' _ ⟨ds, l1, _, _, _, e⟩ => hC M' fun b o hb hM => ?_, fun i g acc M' eg ⟨ys, l1, ea, hl, hS1, e⟩ => ?_, fun acc M' ⟨ys, l1, ea, hl, hS1, e⟩ => ?_⟩
  · congr 1
    funext b
    unfold put
    by_cases hb : b = p
    · rw [if_pos hb, hb, hp]
    · rw [if_neg hb]
  · rw [e, put_ne (fun z => by rw [z, hD] at hM; cases hM), put_ne hb]
    exact hM
  · rw [List.getElem?_map] at eg
    cases ex : xs[i]? with
    | none => rw [ex] at eg; cases eg
    | some x =>
      rw [ex] at eg
      cases eg
      have hi : i < xs.length := (List.getElem?_eq_some_iff.mp ex).1
      have et : xs.take (i + 1) = xs.take i ++ [x] := by rw [List.take_add_one, ex]; rfl
      refine ⟨?_, ?_⟩
      · rw [ea, List.length_map, List.length_map]
        have := hl.length_le
        rw [List.length_take] at this
        omega
      · refine dc_mono (hst i M' l1 hi (fun b o hb hM => ?_) ?_ hS1 x ex) fun ρ2 M2 ⟨e2, dt⟩ => dts_one ?_
        · rw [e, put_ne (fun z => by rw [z, hD] at hM; cases hM), put_ne hb]
          exact hM
        · rw [e, put_ne hpD, put_same]
        · subst e2
          refine DT.mono dt fun b M3 ⟨l2, hS2, e3, pd⟩ => ?_
          subst e3
          cases b with
          | false => exact ifF rfl ⟨ys, l2, ea, by rw [et]; exact hl.trans (List.sublist_append_left _ _), hS2, by rw [e, put_put_ne hpD]⟩
          | true =>
            refine ifT rfl (PD.de pd ⟨by rw [put_ne (Ne.symm hpD), e, put_same], ys ++ [x], l2, by rw [ea, List.map_append, List.map_append]; rfl, by rw [et]; exact hl.append (List.Sublist.refl _), hS2, ?_⟩)
            rw [e, put_put_ne hpD, put_put]
  · rw [List.length_map] at hl hS1
    rw [List.take_length] at hl
    refine ⟨by rw [e]; exact put_same, ?_⟩
    have hD2 : put M p (.lst l1) D = none := by rw [put_ne (Ne.symm hpD)]; exact hD
    rcases q ys l1 hl hS1 with q | q
    · exact .inl ⟨_, ea, by rw [e, del_put hD2]; exact q⟩
    · exact .inr (by rw [e, ea]; exact q D hD2)
end
end B
end
section
set_option maxHeartbeats 4000000
/-! D15: dict displays told as data; text. -/
namespace B
open PySem PySem.Spec PyProof.Rows L2
theorem pe_frzD {X : Cx} {e : Expr} {t : TE} (h : PE X e t) : PE X e (fun σ H Q => t σ H fun v H1 => ∃ d xs, H1 d = some (.dK xs) ∧ ∀ od, Q v (upd H1 d (.frz od (.dK xs)))) := ⟨fun pins s σ H Q I hq => by
  refine thn (h.run pins s σ H _ I hq) fun v s1 ⟨x, H1, I1, r1, d, xs, e, q1⟩ => ?_
  obtain ⟨od, I2⟩ := I1.lock e trivial
  exact ⟨x, _, I2, r1, q1 od⟩⟩
section
variable {Γ : Gam} {ρ : GEnv} {M : Sto} {Q : G → Sto → Prop} {a b e : Expr} {pos p apos cpos : Pos}
theorem dct_new {K : PySem.W.Frag} {H : Hp} {M : Sto} {q : Addr} {kis : List (L2.Key × Int)} {ds : List (PyData × PyData)} {od : Obj} (h : Hold K H M) (nq : H q = none) (hl : ds = kis.map (fun q => (kdat q.1, PyData.int q.2))) :
    Pers H (upd (upd H q (.dK (kis.map fun q => (q.1, V.int q.2)))) q (.frz od (.dK (kis.map fun q => (q.1, V.int q.2))))) ∧ Hold K (upd (upd H q (.dK (kis.map fun q => (q.1, V.int q.2)))) q (.frz od (.dK (kis.map fun q => (q.1, V.int q.2))))) M ∧ RG K (upd (upd H q (.dK (kis.map fun q => (q.1, V.int q.2)))) q (.frz od (.dK (kis.map fun q => (q.1, V.int q.2))))) (.ref q) (.d (.dict ds)) := by
  rw [upd_upd]
  exact ⟨.new nq, h.keep (new_keeps nq), Rp.dct upd_same hl⟩
theorem pd_dict0 : PD Γ (.Dict [] [] pos) ρ M (.d (.dict [])) := DE.of (fun X f => pe_frzD pe_dnewK) fun X f σ H Qv r h0 k => fun q nq => ⟨q, [], upd_same, fun od => by
  obtain ⟨p1, h1, rg⟩ := dct_new (od := od) (ds := []) h0 nq (kis := []) rfl
  exact k _ _ _ M p1 h1 rg ⟨rfl, rfl⟩⟩
end
end B
end
section
set_option maxHeartbeats 4000000
/-! D16: lambdas with parameters that capture cells: made, called. -/
namespace B
open PySem PySem.Spec PyProof.Rows L2 LamX NdefX
/-- the very object at a -/
def exO (a : Addr) (o : Obj) : HO := .ext fun h => h.get? a = some o
theorem exO_ok {P : Program} {w : World} {H : Hp} {h : Heap} {a : Addr} {o : Obj} (e : h.get? a = some o) : ObjOk P w H h a (exO a o) := ⟨e, ⟨o, e⟩, fun h1 h2 x st => st o x⟩
theorem exO_at {P : Program} {w : World} {H : Hp} {h : Heap} {a : Addr} {o : Obj} (hok : HOk P w H h) (e : H a = some (exO a o)) : h.get? a = some o := (hok a _ e).1
abbrev lamO (X : Cx) (params : Arguments) (body : Expr) (scope : Scope) (pm : Value) (c' : Addr) (ctv : Value) : Obj := PySem.W.kla_obj "<lambda>" (X.env.qual ++ "<lambda>") params body scope (cloFrom X.env.cells scope.names []) pm c' ctv
section
variable {X : Cx} {pins : List (Addr × Obj)} {σ : L2.St} {H : Hp} {s : Shared}
/-- the function object is tracked from its making on -/
theorem lam_make3 {T : List (Addr × Str)} {c P : Addr} {params : Arguments} {body : Expr} {scope : Scope} {pos : Pos} {E : Value → Shared → Prop} {Q : Value → Shared → Prop} (I : Inv X pins σ H s) (TB : TabB X.base X.mg c P) (hcode : X.env.code = .ref c)
    (hT : TabS H P (X.env.qual ++ "<lambda>")) (hdef : defaultsOf params X.env = ([], [])) (hfree : ∀ y ∈ scope.names, y.2 = .free → ∃ c, X.env.cells.lookup y.1 = some c)
    (h : ∀ (f c' : Addr) (pm ctv : Value) (H1 : Hp) (s' : Shared), Inv X pins σ H1 s' → ExtN H H1 → TabS H1 P (X.env.qual ++ "<lambda>") → (∀ b o, H b = some o → b ≠ P → H1 b = some o) → H f = none → H1 f = some (exO f (lamO X params body scope pm c' ctv)) → H1 c' = some (CodeO c' (X.env.qual ++ "<lambda>")) → Q (.ref f) s') :
    wpAny (model X.prog X.w) X.A (eval (.Lambda params body scope pos) X.env) Q E s := by
  obtain ⟨ps, hP, ht, ha⟩ := hT
  have tabP := TB.bm.keeps I.bk
  have objP : s.heap.get? P = some { cls := .none, data := .fields ps } := I.hok P _ hP
  have codeP := TB.code.keeps I.bk
  refine PySem.W.kla_eval hdef ?_
  rcases hc : codeAmong pos ps.toList with _ | cv
  · refine PySem.W.kla_makeFunction (mg := X.mg) (c := c) (P := P) (ps := ps) (closure_ok hfree) I.ok.glob (I.mod.glob.keeps I.bk) hcode codeP objP ht hc TB.gP tabP ?_
    intro c' ctv h' tk hx hge hlt hrec htb
    obtain ⟨c2, oc, vs, t, e2, hoc, hd, hv⟩ := hrec
    cases e2
    have nC : H c' = none := I.hok.fresh hge
    have J := inv_table (t' := tk) (more := #[rawInt pos.line, rawInt pos.col, .ref c']) (h' := h') I hP hx htb hge ⟨oc, vs, t, hoc, hd, hv⟩
    have hsz : s.heap.objs.size ≤ h'.objs.size := Nat.le_trans hge (Nat.le_of_lt hlt)
    have nF : H h'.objs.size = none := I.hok.fresh hsz
    have J2 := J.laid (a := h'.objs.size) (o := exO h'.objs.size (lamO X params body scope ((X.mg "__name__").getD .none) c' ctv)) (t' := tk) (h' := h'.push (lamO X params body scope ((X.mg "__name__").getD .none) c' ctv)) (fun b u e => Heap.get?_push_of_some _ e) (Nat.le_refl _) (exO_ok (Heap.get?_push_size _ rfl))
    have fc : c' ≠ h'.objs.size := Nat.ne_of_lt hlt
    have pc : P ≠ c' := ne_of_none hP nC
    have pf : P ≠ h'.objs.size := ne_of_none hP nF
    have stays : ExtN H (upd (upd (upd H P (.tbl (ps ++ #[rawInt pos.line, rawInt pos.col, .ref c']))) c' (CodeO c' (X.env.qual ++ "<lambda>"))) h'.objs.size (exO h'.objs.size (lamO X params body scope ((X.mg "__name__").getD .none) c' ctv))) := fun b o e n => by
      have hbP : b ≠ P := fun z => by
        rw [z, hP] at e
        exact n ps (Option.some.inj e).symm
      rw [upd_ne (ne_of_none e nF), upd_ne (ne_of_none e nC), upd_ne hbP]
      exact e
    refine h h'.objs.size c' ((X.mg "__name__").getD .none) ctv _ _ J2 stays ?_ ?_ nF upd_same (by rw [upd_ne fc, upd_same])
    · refine ⟨ps ++ #[rawInt pos.line, rawInt pos.col, .ref c'], by rw [upd_ne pf, upd_ne pc, upd_same], ?_, fun p' cv hcv => ?_⟩
      · rw [show (ps ++ #[rawInt pos.line, rawInt pos.col, .ref c']).toList = ps.toList ++ [rawInt pos.line, rawInt pos.col, .ref c'] by simp]
        exact PySem.TriplesOk_snoc _ _ _ _ ht
      · rw [show (ps ++ #[rawInt pos.line, rawInt pos.col, .ref c']).toList = ps.toList ++ [rawInt pos.line, rawInt pos.col, .ref c'] by simp] at hcv
        rcases among_app _ ht hcv with z | z
        · obtain ⟨c0, e1, e2⟩ := ha p' cv z
          exact ⟨c0, e1, stays _ _ e2 codeO_ne⟩
        · exact ⟨c', z, by rw [upd_ne fc, upd_same]⟩
    · intro b o e h1
      rw [upd_ne (ne_of_none e nF), upd_ne (ne_of_none e nC), upd_ne h1]
      exact e
  · obtain ⟨c', rfl, hco⟩ := ha pos cv hc
    refine PySem.W.kla_makeFunctionHit (mg := X.mg) (c := c) (P := P) (ps := ps) (closure_ok hfree) I.ok.glob (I.mod.glob.keeps I.bk) hcode codeP objP ht hc tabP ?_
    intro ctv h' tk hx hsz
    have nF : H h'.objs.size = none := I.hok.fresh hsz
    have J := I.laid (a := h'.objs.size) (o := exO h'.objs.size (lamO X params body scope ((X.mg "__name__").getD .none) c' ctv)) (t' := tk) (h' := h'.push (lamO X params body scope ((X.mg "__name__").getD .none) c' ctv)) (fun b u e => Heap.get?_push_of_some _ (hx b u e)) hsz (exO_ok (Heap.get?_push_size _ rfl))
    have keep : ∀ b o, H b = some o → upd H h'.objs.size (exO h'.objs.size (lamO X params body scope ((X.mg "__name__").getD .none) c' ctv)) b = some o := fun b o e => by
      rw [upd_ne (ne_of_none e nF)]
      exact e
    refine h h'.objs.size c' ((X.mg "__name__").getD .none) ctv _ _ J (ExtN.of keep) ((show TabS H P _ from ⟨ps, hP, ht, ha⟩).ext keep) (fun b o e _ => keep b o e) nF upd_same (keep _ _ hco)
end
/-- a lambda runs: its frame, its body -/
theorem lam_run {P : Program} {w : World} {K : PySem.W.Frag} {mg : Str → Option Value} {base : Heap} {N ps fr : List Str} {F : NF} {body : Expr} {f : Addr} {pm ctv : Value} {k : Nat} {A : Around} {outer : List Env} {s : Shared} {H : Hp} {us : List Value} {vs : List V} {ws : List (Option V)} {Q : VK} {E : XK} {t : TE}
    (S : NScope N ps fr F.scope) (hr : Room (k + 1) A) (e0 : Env0 P w K mg base A outer s H) (ho : s.heap.get? f = some (PySem.W.kla_obj F.name F.qual F.params body F.scope F.cl pm F.c ctv)) (hcd : s.heap.CodeRec (.ref F.c) F.qual)
    (hb : bindArgs (PySem.W.kla_fn F.name F.qual F.params body F.scope F.cl pm (.ref F.c) ctv) ⟨us, []⟩ = pure (ps.zip us)) (hl : vs.length = ps.length) (r : Vals vs us) (C : CellsAt F.cl fr ws s.heap H)
    (ht : PE (ncx C8.CX0 P w K mg base N F f A outer s H E).nox body t) (hq : t (startF N vs ws) H Q) : codeAny (model P w) A (.call (.ref f) ⟨us, []⟩) (CR C8.CX0 outer P w H s Q E) s := by
  have lim : s.heap.NoLimit := e0.mod.nolimit.keeps fun b o e => (e0.bs b o e).1
  refine PySem.W.kla_callFunE hr.depth ho rfl S.co S.gen rfl hcd ?_
  rw [hb]
  refine wpAny_pure (wpAny_newFunctionEnv S.nocell (fun ⟨n, _⟩ hy => S.par n (List.of_mem_zip hy).1) (fun h₁ hns hsb => ⟨lim.fresh _ hsb, ?_⟩) S.kind)
  show codeAny _ _ (.expr body (envF F f s.heap.objs.size)) _ _
  refine PySem.W.kla_codeExpr ?_
  have kp : ∀ b o, s.heap.get? b = some o → h₁.get? b = some o := fun b o e => hsb.extBut b o (Nat.ne_of_lt (Heap.lt_size e)) (Heap.get?_push_of_some _ e)
  have I : Inv (ncx C8.CX0 P w K mg base N F f A outer s H E) [] (startF N vs ws) H { s with heap := h₁, toks := s.toks + (ps.zip us).length } := inv_startN S hr.hd e0 hl r C hns kp
  refine wpAny_mono (ht.nox.run [] _ (startF N vs ws) H Q I hq) (fun u s' hs => ?_) fun e s' hs => hs
  obtain ⟨v, H', J, rv, q⟩ := hs
  exact ⟨v, H', J.os, J.bare, J.base, J.hok, rv, q⟩
end B
end
section
set_option maxHeartbeats 4000000
/-! D17: a callee that does not see some tracked things; things tracked for a call alone. -/
namespace B
open PySem PySem.Spec PyProof.Rows L2 LamX NdefX
theorem lone_stay {P : Program} {w : World} {H H' : Hp} {h h' : Heap} {a : Addr} {u : HO} (l : Lone u) (x : ObjOk P w H h a u) (k : ∀ o, h.get? a = some o → h'.get? a = some o) (ht : ∀ b xs, H b = some (.tup xs) → H' b = some (.tup xs)) : ObjOk P w H' h' a u := by
  cases u with
  | lst xs => obtain ⟨z, its, n, r, e⟩ := x; exact ⟨z, its, n, r, k _ e⟩
  | dK kvs => obtain ⟨z, y, vs, r, ob, es, ep, e, c⟩ := x; exact ⟨z, y, vs, r, ob, es, ep, k _ e, c⟩
  | dT kvs =>
    obtain ⟨z, y, xs, r, ob, es, ep, e, c⟩ := x
    exact ⟨z, y, xs, Paired.mapP r fun p q ⟨e1, e2, e3⟩ => ⟨e1, ht _ _ e2, e3⟩, ob, es, ep, k _ e, c⟩
  | set S n =>
    obtain ⟨ob, es, ep, e0, e, c⟩ := x
    exact ⟨ob, es, ep, e0, k _ e, c⟩
  | tbl ps => exact k _ x
  | ext φ =>
    obtain ⟨h1, ⟨o, h2⟩, h3⟩ := x
    exact ⟨h3 _ _ h1 k, ⟨o, k o h2⟩, h3⟩
  | _ => exact l.elim
open Classical in
noncomputable def cutH (H : Hp) (R : Addr → Prop) : Hp := fun b => if R b then none else H b
open Classical in
noncomputable def joinH (H H3 : Hp) (R : Addr → Prop) : Hp := fun b => if R b then H b else H3 b
section
variable {P : Program} {w : World} {K : PySem.W.Frag} {mg : Str → Option Value} {base : Heap} {A : Around} {outer : List Env} {s s' : Shared} {H : Hp} {R : Addr → Prop}
theorem cut_in {b : Addr} (h : R b) : cutH H R b = none := if_pos h
theorem cut_out {b : Addr} (h : ¬ R b) : cutH H R b = H b := if_neg h
theorem join_in {H3 : Hp} {b : Addr} (h : R b) : joinH H H3 R b = H b := if_pos h
theorem join_out {H3 : Hp} {b : Addr} (h : ¬ R b) : joinH H H3 R b = H3 b := if_neg h
theorem cut_some {b : Addr} {u : HO} (h : cutH H R b = some u) : ¬ R b ∧ H b = some u := by
  by_cases r : R b
  · rw [cut_in r] at h; cases h
  · rw [cut_out r] at h; exact ⟨r, h⟩
theorem hok_cut (hR : ∀ b, R b → ∃ u, H b = some u ∧ Lone u) (x : HOk P w H s.heap) : HOk P w (cutH H R) s.heap := fun a u e => by
  obtain ⟨hn, e⟩ := cut_some e
  refine (x a u e).stay (fun b v _ q => q) (fun b q => ?_) fun b xs q => ?_
  · rw [cut_out fun r => ?_]
    · exact q
    · obtain ⟨u', e', l⟩ := hR b r
      rw [q] at e'
      cases e'
      exact l
  · rw [cut_out fun r => ?_]
    · exact q
    · obtain ⟨u', e', l⟩ := hR b r
      rw [q] at e'
      cases e'
      exact l
theorem env0_cut (hR : ∀ b, R b → ∃ u, H b = some u ∧ Lone u) (e : Env0 P w K mg base A outer s H) : Env0 P w K mg base A outer s (cutH H R) := by
  refine ⟨e.frames, e.mod, fun b o q => ⟨(e.bs b o q).1, ?_⟩, e.bsz, e.funs, fun b q => ?_, hok_cut hR e.hok, e.bare⟩
  · by_cases r : R b
    · exact cut_in r
    · rw [cut_out r]; exact (e.bs b o q).2
  · by_cases r : R b
    · exact cut_in r
    · rw [cut_out r]; exact e.frf b q
theorem ce_join {Q : VK} {u : Value} (hR : ∀ b, R b → ∃ u, H b = some u ∧ Lone u) (e : Env0 P w K mg base A outer s H) (h : CE outer P w (cutH H R) s (fun v H3 => (∀ b, R b → H3 b = none) → Q v (joinH H H3 R)) u s') : CE outer P w H s Q u s' := by
  obtain ⟨v, H3, os, bare, un, hok, r, q⟩ := h
  have nR : ∀ b, H b = none → ¬ R b := fun b n r => by
    obtain ⟨u, e, _⟩ := hR b r
    rw [n] at e
    cases e
  have nRt : ∀ b z, H b = some z → ¬ Lone z → ¬ R b := fun b z e l r => by
    obtain ⟨u, e', l'⟩ := hR b r
    rw [e] at e'
    cases e'
    exact l l'
  have hkeep : ∀ b, R b → ∀ o, s.heap.get? b = some o → s'.heap.get? b = some o := fun b r o eo => by
    refine un.keep b o eo (cut_in r) (fun z => ?_) (by simp)
    have := e.frf b z
    exact nR b this r
  have hfree : ∀ b, R b → H3 b = none := fun b r => by
    obtain ⟨u, eu, l⟩ := hR b r
    have : ∃ o, s.heap.get? b = some o := by
      have x := e.hok b u eu
      cases u with
      | lst xs => obtain ⟨_, _, _, _, e⟩ := x; exact ⟨_, e⟩
      | dK kvs => obtain ⟨_, _, _, _, o, _, _, e, _⟩ := x; exact ⟨_, e⟩
      | dT kvs => obtain ⟨_, _, _, _, o, _, _, e, _⟩ := x; exact ⟨_, e⟩
      | set S n => obtain ⟨o, _, _, _, e, _⟩ := x; exact ⟨_, e⟩
      | tbl ps => exact ⟨_, show s.heap.get? b = some _ from x⟩
      | ext φ => exact x.2.1
      | _ => exact l.elim
    obtain ⟨o, eo⟩ := this
    exact un.free b o eo (cut_in r) (by simp)
  refine ⟨v, joinH H H3 R, os, bare, ⟨fun b o eo n hf hx => ?_, fun b o eo n hf hx => ?_, fun b o eo n hx => ?_, un.there, fun b xs eb => ?_, fun b o z eb => ?_, fun b ps eb => ?_⟩, fun a u' ea => ?_, r, q hfree⟩
  · exact un.keep b o eo (by rw [cut_out (nR b n)]; exact n) hf hx
  · exact un.slot b o eo (by rw [cut_out (nR b n)]; exact n) hf hx
  · rw [join_out (nR b n)]
    exact un.free b o eo (by rw [cut_out (nR b n)]; exact n) hx
  · have n := nRt b _ eb (fun l => l)
    rw [join_out n]
    exact un.tups b xs (by rw [cut_out n]; exact eb)
  · have n := nRt b _ eb (fun l => l)
    rw [join_out n]
    exact un.frzs b o z (by rw [cut_out n]; exact eb)
  · by_cases r : R b
    · exact ⟨#[], by rw [join_in r, eb]; simp⟩
    · rw [join_out r]
      exact un.tbls b ps (by rw [cut_out r]; exact eb)
  · by_cases r : R a
    · rw [join_in r] at ea
      obtain ⟨u, e', l⟩ := hR a r
      rw [ea] at e'
      cases e'
      refine lone_stay l (e.hok a _ ea) (fun o eo => hkeep a r o eo) fun b xs eb => ?_
      have n := nRt b _ eb (fun l => l)
      rw [join_out n]
      exact un.tups b xs (by rw [cut_out n]; exact eb)
    · rw [join_out r] at ea
      refine (hok a u' ea).stay (fun b v _ q => q) (fun b eb => ?_) fun b xs eb => ?_
      · rw [join_out fun r' => by rw [hfree b r'] at eb; cases eb]
        exact eb
      · rw [join_out fun r' => by rw [hfree b r'] at eb; cases eb]
        exact eb
end
end B
end
section
set_option maxHeartbeats 4000000
/-! D18: things tracked for a call alone; functions as values. -/
namespace B
open PySem PySem.Spec PyProof.Rows L2 LamX NdefX
def trkH (H : Hp) (h : Heap) (as : List Addr) : Hp := fun b => if b ∈ as then (h.get? b).map (exO b) else H b
def untH (H : Hp) (as : List Addr) : Hp := fun b => if b ∈ as then none else H b
section
variable {P : Program} {w : World} {K : PySem.W.Frag} {mg : Str → Option Value} {base : Heap} {A : Around} {outer : List Env} {s s' : Shared} {H : Hp} {as : List Addr}
/-- what stands at as: objects that nothing tracks, of no frame, not of the base -/
structure Bare (base : Heap) (outer : List Env) (h : Heap) (H : Hp) (as : List Addr) : Prop where
  there : ∀ b ∈ as, ∃ o, h.get? b = some o
  free : ∀ b ∈ as, H b = none
  nofr : ∀ b ∈ as, b ∉ frs outer
  nobase : ∀ b ∈ as, base.get? b = none
theorem trk_in {h : Heap} {b : Addr} {o : Obj} (hb : b ∈ as) (e : h.get? b = some o) : trkH H h as b = some (exO b o) := by
  unfold trkH
  rw [if_pos hb, e]
  rfl
theorem trk_out {h : Heap} {b : Addr} (hb : b ∉ as) : trkH H h as b = H b := if_neg hb
theorem unt_in {b : Addr} (hb : b ∈ as) : untH H as b = none := if_pos hb
theorem unt_out {b : Addr} (hb : b ∉ as) : untH H as b = H b := if_neg hb
theorem trk_keeps (x : Bare base outer s.heap H as) : ∀ b u, H b = some u → trkH H s.heap as b = some u := fun b u e => by
  rw [trk_out fun hb => by rw [x.free b hb] at e; cases e]
  exact e
theorem hok_trk (x : Bare base outer s.heap H as) (hok : HOk P w H s.heap) : HOk P w (trkH H s.heap as) s.heap := fun a u e => by
  by_cases ha : a ∈ as
  · obtain ⟨o, eo⟩ := x.there a ha
    rw [trk_in ha eo] at e
    cases e
    exact exO_ok eo
  · rw [trk_out ha] at e
    exact (hok a u e).stay (fun b v _ q => q) (fun b q => trk_keeps x b _ q) fun b xs q => trk_keeps x b _ q
theorem env0_trk (x : Bare base outer s.heap H as) (e : Env0 P w K mg base A outer s H) : Env0 P w K mg base A outer s (trkH H s.heap as) := by
  refine ⟨e.frames, e.mod, fun b o q => ⟨(e.bs b o q).1, ?_⟩, e.bsz, e.funs, fun b q => ?_, hok_trk x e.hok, e.bare⟩
  · rw [trk_out fun hb => by rw [x.nobase b hb] at q; cases q]
    exact (e.bs b o q).2
  · rw [trk_out fun hb => x.nofr b hb q]
    exact e.frf b q
theorem ce_untrk {Q : VK} {u : Value} (x : Bare base outer s.heap H as) (h : CE outer P w (trkH H s.heap as) s (fun v H' => (∀ b ∈ as, H' b = trkH H s.heap as b) ∧ ∀ h', HOk P w H' h' → Q v (untH H' as)) u s') : CE outer P w H s Q u s' := by
  obtain ⟨v, H', os, bare, un, hok, r, per, q⟩ := h
  have out : ∀ b z, H b = some z → b ∉ as := fun b z e hb => by rw [x.free b hb] at e; cases e
  refine ⟨v, untH H' as, os, bare, ⟨fun b o eo n hf hx => ?_, fun b o eo n hf hx => ?_, fun b o eo n hx => ?_, un.there, fun b xs eb => ?_, fun b o z eb => ?_, fun b ps eb => ?_⟩, fun a u' ea => ?_, r, q _ hok⟩
  · by_cases hb : b ∈ as
    · have e := per b hb
      rw [trk_in hb eo] at e
      exact exO_at hok e
    · exact un.keep b o eo (by rw [trk_out hb]; exact n) hf hx
  · exact un.slot b o eo (by rw [trk_out fun hb => x.nofr b hb hf]; exact n) hf hx
  · by_cases hb : b ∈ as
    · exact unt_in hb
    · rw [unt_out hb]
      exact un.free b o eo (by rw [trk_out hb]; exact n) hx
  · have hb := out b _ eb
    rw [unt_out hb]
    exact un.tups b xs (by rw [trk_out hb]; exact eb)
  · have hb := out b _ eb
    rw [unt_out hb]
    exact un.frzs b o z (by rw [trk_out hb]; exact eb)
  · have hb := out b _ eb
    rw [unt_out hb]
    exact un.tbls b ps (by rw [trk_out hb]; exact eb)
  · by_cases ha : a ∈ as
    · rw [unt_in ha] at ea; cases ea
    · rw [unt_out ha] at ea
      have ne : ∀ b z, H' b = some z → (∀ o, z ≠ exO b o) → b ∉ as := fun b z e n hb => by
        obtain ⟨o, eo⟩ := x.there b hb
        rw [per b hb, trk_in hb eo] at e
        cases e
        exact n o rfl
      refine (hok a u' ea).stay (fun b v _ q => q) (fun b e => ?_) fun b xs e => ?_
      · rw [unt_out (ne b _ e fun o z => by unfold exO at z; cases z)]
        exact e
      · rw [unt_out (ne b _ e fun o z => by unfold exO at z; cases z)]
        exact e
end
/-! ### functions as values -/
abbrev PO' := List G → (G → Prop) → Prop
/-- f(..) of these data answers as o says, whatever stands around; the store is left as it was -/
def ClOk (P : Program) (w : World) (K : PySem.W.Frag) (mg : Str → Option Value) (base : Heap) (k : Nat) (f : Addr) (o : PO') (H : Hp) : Prop :=
  ∀ H', Pers H H' → ∀ (A : Around) (outer : List Env) (s : Shared) (us : List Value) (vs : List V) (Qv : VK) (E : XK) (gs : List G) (M : Sto) (R : G → Prop), RoomG k A → Env0 P w K mg base A outer s H' → Vals vs us → RGs K H' vs gs → Hold K H' M → o gs R →
    (∀ v H2 g, Pers H' H2 → Hold K H2 M → RG K H2 v g → R g → Qv v H2) → codeAny (model P w) A (.call (.ref f) ⟨us, []⟩) (CR C8.CX0 outer P w H' s Qv E) s
/-- a function object with this promise stands at f -/
def CloG (P : Program) (w : World) (K : PySem.W.Frag) (mg : Str → Option Value) (base : Heap) (k : Nat) (f : Addr) (o : PO') : Hp → Prop := fun H => (∃ fd, H f = some (exO f { cls := .type "function", data := .func fd })) ∧ ClOk P w K mg base k f o H
theorem clo_stays {P : Program} {w : World} {K : PySem.W.Frag} {mg : Str → Option Value} {base : Heap} {k : Nat} {f : Addr} {o : PO'} : ∀ H1 H2, Pers H1 H2 → H2 f = H1 f → CloG P w K mg base k f o H1 → CloG P w K mg base k f o H2 := fun H1 H2 p e ⟨⟨fd, h1⟩, h2⟩ => ⟨⟨fd, by rw [e]; exact h1⟩, fun H' p' => h2 H' (p.trans p')⟩
section
variable {Γ : Gam} {ρ : GEnv} {M : Sto} {Q : G → Sto → Prop} {e : Expr} {pos p : Pos}
/-- f(e), f a name that holds a function as a value -/
theorem de_callV {x : Str} {k : Nat} {f : Addr} {o : PO'} (i : Nat) (hf : M f = some (.gen (CloG Γ.P Γ.w Γ.K Γ.mg Γ.base k f o))) (h : DE Γ e ρ M fun g M1 => M1 f = M f ∧ ∃ R, o [g] R ∧ ∀ g', R g' → Q g' M1) (hk : k ≤ Γ.lv := by exact Nat.le_of_ble_eq_true rfl) (hv : ρ[i]? = some (some (.op (.ref f))) := by rfl) (hN : Γ.N[i]? = some x := by rfl) (hvis : Vis Γ.sc x := by first | exact Or.inl rfl | exact Or.inr (Or.inl rfl) | exact Or.inr (Or.inr rfl))
    (hd : (x == ("__debug__" : Str)) = false := by decide) (hcd : (x == ("__classdict__" : Str)) = false := by decide) (he : ∀ env, starEach [e] env = (false, eval e env) :: starEach [] env := by intro _; rfl) (hpl : ∀ env, (backTo pos (starEach [] env)).any (·.1) = false := by intro _; rfl) : DE Γ (.Call (.Name x p) [e] [] pos) ρ M Q := by
  refine ⟨fun X fit => ⟨fun pins s σ H Qv I ⟨r, h0, kk⟩ => ?_⟩⟩
  obtain ⟨v, ev, rv⟩ := r.2 i _ hv
  cases rv
  have vis : Vis X.env.scope x := by rw [fit.sc]; exact hvis
  refine wpAny_Call_Name_kw (thn ((pe_var (pos := p) (by rw [fit.N]; exact hN) vis hd hcd).run pins s σ H (fun v H1 => v = .ref f ∧ H1 = H) I ⟨.ref f, ev, rfl, rfl⟩) fun u s1 ⟨v, H1, I1, r1, q1⟩ => ?_)
  obtain ⟨e1, e2⟩ := q1
  subst e1
  rw [e2] at I1
  obtain rfl : u = Value.ref f := r1
  obtain ⟨⟨⟨fd, hfd⟩, hcl⟩, _, _⟩ := h0 _ _ hf
  refine PySem.W.callWith_F (first := []) ⟨_, _, fd, _, exO_at I1.hok hfd⟩ (thn ((pa_all fit [e]).run pos pins s1 σ H (fun vs H1 => ∃ v g M1, vs = [v] ∧ Pers H H1 ∧ Hold Γ.K H1 M1 ∧ RG Γ.K H1 v g ∧ M1 f = M f ∧ ∃ R, o [g] R ∧ ∀ g', R g' → Q g' M1) I1 (allA_of (da_one h he) r h0 fun vs H1 gs M1 p1 r1 h1 rs ⟨g, eg, q⟩ => by
    subst eg
    cases rs with
    | cons rg t =>
      cases t
      exact ⟨_, g, M1, rfl, p1, h1, rg, q⟩)) fun us s2 ⟨vs, H2, I2, rvs, v, g, M1, evs, p1, h1, rg, eM, R, ho, hR⟩ => ?_) (he _) (hpl _)
  subst evs
  have hf1 : M1 f = some (.gen (CloG Γ.P Γ.w Γ.K Γ.mg Γ.base k f o)) := by rw [eM]; exact hf
  obtain ⟨⟨⟨fd2, hfd2⟩, hcl2⟩, _, _⟩ := h1 _ _ hf1
  refine ⟨⟨_, _, fd2, _, exO_at I2.hok hfd2⟩, ?_⟩
  show wpAny _ _ (call (.ref f) us) _ _ _
  have en : Env0 Γ.P Γ.w Γ.K Γ.mg Γ.base X.A X.stack s2 H2 := by
    have := I2.env0
    rw [fit.prog, fit.w, fit.K, fit.mg, fit.base] at this
    exact this
  have run := hcl2 H2 (.refl H2) X.A X.stack s2 us [v] Qv C8.E0 [g] M1 R (fit.room.mono hk) en rvs (.cons rg .nil) h1 ho fun v' H3 g' p3 h3 rg3 hr => kk v' H3 g' M1 (p1.trans p3) h3 rg3 (hR g' hr)
  rw [← fit.prog, ← fit.w] at run
  refine wpAny_call (codeAny_mono run fun r s' hq => ?_)
  cases r with
  | error e => exact hq.elim
  | ok fl =>
    cases fl with
    | ret u => exact I2.after hq
    | next => exact False.elim hq
    | brk => exact False.elim hq
    | cont => exact False.elim hq
end
end B
end
section
set_option maxHeartbeats 4000000
/-! D19: f(e, lambda ..: ..): a lambda handed to a def of the module. -/
namespace B
open PySem PySem.Spec PyProof.Rows L2 LamX NdefX
def PersD (H H' : Hp) : Prop := (∀ b xs, H b = some (.tup xs) → H' b = some (.tup xs)) ∧ ∀ b o u, H b = some (.frz o u) → H' b = some (.frz o u)
mutual
theorem Rp.monoD {K : PySem.W.Frag} {H H' : Hp} (p : PersD H H') : ∀ {v : V} {d : PyData}, Rp K H v d → Rp K H' v d
  | _, _, .non => .non
  | _, _, .bl b => .bl b
  | _, _, .int i => .int i
  | _, _, .str x => .str x
  | _, _, .lst h r => .lst (p.2 _ _ _ h) (RpAll.monoD p r)
  | _, _, .tup h r => .tup (p.1 _ _ h) (RpAll.monoD p r)
  | _, _, .dct h r => .dct (p.2 _ _ _ h) r
theorem RpAll.monoD {K : PySem.W.Frag} {H H' : Hp} (p : PersD H H') : ∀ {vs : List V} {ds : List PyData}, RpAll K H vs ds → RpAll K H' vs ds
  | _, _, .nil => .nil
  | _, _, .cons h t => .cons (Rp.monoD p h) (RpAll.monoD p t)
end
theorem RG.monoD {K : PySem.W.Frag} {H H' : Hp} (p : PersD H H') {v : V} {g : G} (h : RG K H v g) : RG K H' v g := by
  cases g with
  | d x => exact Rp.monoD p h
  | op w => exact h
  | pr w x =>
    obtain ⟨t, u, e, a, r⟩ := h
    exact ⟨t, u, e, p.1 _ _ a, Rp.monoD p r⟩
  | fd kvs =>
    obtain ⟨a, o, vs, e, ha, r⟩ := h
    exact ⟨a, o, vs, e, p.2 _ _ _ ha, Paired.mapP r fun x y z => ⟨z.1, Rp.monoD p z.2⟩⟩
theorem RGs.monoD {K : PySem.W.Frag} {H H' : Hp} (p : PersD H H') : ∀ {vs : List V} {gs : List G}, RGs K H vs gs → RGs K H' vs gs
  | _, _, .nil => .nil
  | _, _, .cons r t => .cons (RG.monoD p r) (RGs.monoD p t)
def slotG (ρ : GEnv) (j : Nat) : Option G := match ρ[j]? with
  | some o => o
  | none => none
/-- the environment of a lambda: its arguments, what it captured -/
def lamEnv (N : List Str) (gs : List G) (ρ : GEnv) (js : List Nat) : GEnv := gs.map some ++ (js.map (slotG ρ) ++ List.replicate (N.length - gs.length - js.length) none)
theorem renv_lam {K : PySem.W.Frag} {H H1 : Hp} {σ : L2.St} {ρ : GEnv} {N : List Str} {vs : List V} {gs : List G} {js : List Nat} (r : RGs K H vs gs) (e : REnv K H1 σ ρ) (p : PersD H1 H) : REnv K H (startF N vs (js.map (slotAt σ))) (lamEnv N gs ρ js) := by
  have hl := r.length
  refine ⟨by unfold startF lamEnv; simp [hl], fun i g q => ?_⟩
  unfold lamEnv at q
  unfold startF
  by_cases hi : i < gs.length
  · rw [List.getElem?_append_left (by simpa using hi), List.getElem?_map] at q
    rw [List.getElem?_append_left (by simp; omega), List.getElem?_map]
    cases e2 : gs[i]? with
    | none => rw [e2] at q; cases q
    | some g' =>
      rw [e2] at q
      cases q
      obtain ⟨v, e3, rv⟩ := r.get e2
      exact ⟨v, by rw [e3]; rfl, rv⟩
  · rw [List.getElem?_append_right (by simpa using hi), List.length_map] at q
    have hlv : (vs.map some).length = gs.length := by rw [List.length_map, hl]
    rw [List.getElem?_append_right (by simp; omega), hlv]
    by_cases hj : i - gs.length < js.length
    · rw [List.getElem?_append_left (by simpa using hj), List.getElem?_map] at q
      rw [List.getElem?_append_left (by simpa using hj), List.getElem?_map]
      cases ej : js[i - gs.length]? with
      | none => rw [ej] at q; cases q
      | some j =>
        rw [ej] at q
        have q' : slotG ρ j = some g := by
          have := Option.some.inj q
          exact this
        unfold slotG at q'
        cases er : ρ[j]? with
        | none => rw [er] at q'; cases q'
        | some o =>
          rw [er] at q'
          have q'' : o = some g := q'
          subst q''
          obtain ⟨v, ev, rv⟩ := e.2 j g er
          exact ⟨v, by show some (slotAt σ j) = _; rw [slotAt_of ev], rv.monoD p⟩
    · rw [List.getElem?_append_right (by simpa using hj), List.getElem?_replicate] at q
      split at q <;> cases q
/-- what runs under the calls that a lambda's body makes is not seen by it -/
def allLone (H : Hp) : Addr → Prop := fun b => ∃ u, H b = some u ∧ Lone u
theorem hold_join {K : PySem.W.Frag} {H H3 : Hp} {M : Sto} (h : Hold K H M) (p : Pers H (joinH H H3 (allLone H))) : Hold K (joinH H H3 (allLone H)) M := fun a o e => by
  have x := h a o e
  have same : ∀ u, H a = some u → Lone u → joinH H H3 (allLone H) a = H a := fun u eu l => join_in ⟨u, eu, l⟩
  cases o with
  | lst gs => obtain ⟨vs, e1, r⟩ := x; exact MOk.mono (o := .lst gs) p (same _ e1 trivial) (h a _ e)
  | dK gs => obtain ⟨vs, e1, r⟩ := x; exact MOk.mono (o := .dK gs) p (same _ e1 trivial) (h a _ e)
  | raw u =>
    refine MOk.mono (o := .raw u) p (same u x.1 ?_) (h a _ e)
    have := x.2
    cases u <;> first | trivial | exact this.elim
  | gen φ => obtain ⟨u, e1, l⟩ := x.2.1; exact MOk.mono (o := .gen φ) p (same u e1 l) (h a _ e)
  | tab q => obtain ⟨ps, e1, _⟩ := x; exact MOk.mono (o := .tab q) p (same _ e1 trivial) (h a _ e)
def NoGen (M : Sto) : Prop := ∀ b φ, M b ≠ some (.gen φ)
section
variable {Γ : Gam} {ρ : GEnv} {M : Sto} {Q : G → Sto → Prop} {pos p lpos : Pos}
/-- the promise of a lambda that was made in a frame, while its captured cells are tracked -/
theorem clo_made {P : Program} {w : World} {K : PySem.W.Frag} {mg : Str → Option Value} {base : Heap} {Nl psl fr : List Str} {F : NF} {lbody : Expr} {f : Addr} {pm ctv : Value} {kl : Nat} {Ht H1 : Hp} {h : Heap} {σ : L2.St} {js : List Nat} {as : List Addr} {po : PO'}
    (S : NScope Nl psl fr F.scope) (hf : Ht f = some (exO f (PySem.W.kla_obj F.name F.qual F.params lbody F.scope F.cl pm F.c ctv))) (hc : Ht F.c = some (CodeO F.c F.qual)) (C : CellsAt F.cl fr (js.map (slotAt σ)) h H1) (hcl : ∀ y c, F.cl.lookup y = some c → ∃ o, h.get? c = some o ∧ Ht c = some (exO c o))
    (hr : REnv K H1 σ ρ) (hp : PersD H1 Ht) (hb : ∀ us : List Value, us.length = psl.length → bindArgs (PySem.W.kla_fn F.name F.qual F.params lbody F.scope F.cl pm (.ref F.c) ctv) ⟨us, []⟩ = pure (psl.zip us))
    (hbody : ∀ gs R, po gs R → gs.length = psl.length ∧ DE ⟨P, w, K, mg, base, Nl, F.scope, kl, fun _ => false, none, fun _ => True⟩ lbody (lamEnv Nl gs ρ js) (fun _ => none) fun g _ => R g) : ClOk P w K mg base (kl + 1) f po Ht := by
  intro H' pH A outer s us vs Qv E gs M R hroom e0 rv rg hM ho hq
  have hR : ∀ b, allLone H' b → ∃ u, H' b = some u ∧ Lone u := fun b r => r
  obtain ⟨hlen, de⟩ := hbody gs R ho
  have ef : s.heap.get? f = some _ := exO_at e0.hok (pH.2.2 _ _ hf)
  have ec : s.heap.CodeRec (.ref F.c) F.qual := codeO_at e0.hok (pH.2.2 _ _ hc)
  have cellAt : ∀ y c, F.cl.lookup y = some c → ∃ o, h.get? c = some o ∧ s.heap.get? c = some o ∧ H' c = some (exO c o) := fun y c q => by
    obtain ⟨o, e1, e2⟩ := hcl y c q
    have e3 : H' c = some (exO c o) := pH.2.2 _ _ e2
    exact ⟨o, e1, exO_at e0.hok e3, e3⟩
  have C2 : CellsAt F.cl fr (js.map (slotAt σ)) s.heap (cutH H' (allLone H')) := by
    refine ⟨C.len, fun y c q => ?_, C.inj, fun i y q => ?_⟩
    · obtain ⟨o, e1, e2, e3⟩ := cellAt y c q
      refine ⟨cut_in ⟨_, e3, trivial⟩, ?_⟩
      obtain ⟨_, v, o', eo', dv⟩ := C.all y c q
      rw [e1] at eo'
      obtain rfl : o = o' := Option.some.inj eo'
      exact ⟨v, o, e2, dv⟩
    · obtain ⟨c, q2, hv⟩ := C.has i y q
      refine ⟨c, q2, fun v ev => ?_⟩
      obtain ⟨u, ru, o', eo', dv⟩ := hv v ev
      obtain ⟨o, e1, e2, e3⟩ := cellAt y c q2
      rw [e1] at eo'
      obtain rfl : o = o' := Option.some.inj eo'
      exact ⟨u, ru, o, e2, dv⟩
  have en := env0_cut (R := allLone H') hR e0
  have fit : Gam.Fit ⟨P, w, K, mg, base, Nl, F.scope, kl, fun _ => false, none, fun _ => True⟩ (ncx C8.CX0 P w K mg base Nl F f A outer s (cutH H' (allLone H')) E).nox :=
    ⟨rfl, rfl, rfl, rfl, rfl, rfl, rfl, rfl, S.nd, hroom.deeper _, (fun _ _ h => nomatch h), PassesOwn.never, (fun p h => nomatch h), fun _ _ => trivial⟩
  have pcut : PersD H' (cutH H' (allLone H')) := by
    refine ⟨fun b xs e => ?_, fun b o u e => ?_⟩
    · rw [cut_out]
      · exact e
      · rintro ⟨u, e', l⟩
        rw [e] at e'
        cases e'
        exact l
    · rw [cut_out]
      · exact e
      · rintro ⟨u', e', l⟩
        rw [e] at e'
        cases e'
        exact l
  have pd : PersD H1 (cutH H' (allLone H')) := ⟨fun b xs e => pcut.1 b xs (pH.1 b xs (hp.1 b xs e)), fun b o u e => pcut.2 b o u (pH.2.1 b o u (hp.2 b o u e))⟩
  have hvl : vs.length = psl.length := by rw [rg.length, hlen]
  have run := lam_run (Q := fun v H3 => (∀ b, allLone H' b → H3 b = none) → Qv v (joinH H' H3 (allLone H'))) (E := E) (f := f) (body := lbody) S hroom.toRoom en ef ec (hb us (by rw [← rv.length]; exact hvl)) hvl rv C2 (de.run _ fit) ⟨renv_lam (RGs.monoD pcut rg) hr pd, (fun _ _ e => nomatch e), fun v H3 g M' p3 _ rg3 hRg hfree => by
    have pj : Pers H' (joinH H' H3 (allLone H')) := by
      refine ⟨fun b xs e => ?_, fun b o u e => ?_, fun b φ e => ?_⟩
      · have n : ¬ allLone H' b := by
          rintro ⟨u', e', l⟩
          rw [e] at e'
          cases e'
          exact l
        rw [join_out n]
        exact p3.1 b xs (pcut.1 b xs e)
      · have n : ¬ allLone H' b := by
          rintro ⟨u', e', l⟩
          rw [e] at e'
          cases e'
          exact l
        rw [join_out n]
        exact p3.2.1 b o u (pcut.2 b o u e)
      · rw [join_in ⟨_, e, trivial⟩]
        exact e
    have p3j : PersD H3 (joinH H' H3 (allLone H')) := by
      refine ⟨fun b xs e => ?_, fun b o u e => ?_⟩
      · rw [join_out fun r => by rw [hfree b r] at e; cases e]
        exact e
      · rw [join_out fun r => by rw [hfree b r] at e; cases e]
        exact e
    exact hq v _ g pj (hold_join hM pj) (rg3.monoD p3j) hRg⟩
  refine codeAny_mono run fun r s' hq => ?_
  cases r with
  | error e => exact hq
  | ok fl =>
    cases fl with
    | ret u => exact ce_join hR e0 hq
    | next => exact hq
    | brk => exact hq
    | cont => exact hq
end
end B
end
section
set_option maxHeartbeats 4000000
/-! D20: the call itself. -/
namespace B
open PySem PySem.Spec PyProof.Rows L2 LamX NdefX
section
variable {Γ : Gam} {ρ : GEnv} {M : Sto} {Q : G → Sto → Prop} {pos p lpos : Pos}
theorem pers_ext {H H' : Hp} (e : ExtN H H') : Pers H H' := ⟨(fun b xs h => e b _ h fun ps z => nomatch z), (fun b o u h => e b _ h fun ps z => nomatch z), (fun b φ h => e b _ h fun ps z => nomatch z)⟩
/-- the captured cells as they stand -/
theorem bare_cells {X : Cx} {pins : List (Addr × Obj)} {σ : L2.St} {H : Hp} {s : Shared} {scope : Scope} (I : Inv X pins σ H s) (hc : ∀ y ∈ scope.names, y.2 = .free → X.env.scope.names.lookup y.1 = some .cell ∧ X.fn y.1 = true) :
    Bare X.base X.stack s.heap H ((cloFrom X.env.cells scope.names []).map (·.2)) ∧ ∀ b ∈ (cloFrom X.env.cells scope.names []).map (·.2), ∃ v, s.heap.IsCell b v := by
  have key : ∀ b ∈ (cloFrom X.env.cells scope.names []).map (·.2), ∃ n, X.env.cells.lookup n = some b ∧ X.fn n = true := fun b hb => by
    obtain ⟨⟨n, c⟩, hm, rfl⟩ := List.mem_map.mp hb
    rcases cloFrom_mem hm with h | ⟨h1, h2⟩
    · cases h
    · obtain ⟨k1, k2⟩ := hc (n, .free) h1 rfl
      obtain ⟨c0, e0⟩ := I.ok.has n (.inl k1)
      refine ⟨n, ?_, k2⟩
      rw [e0] at h2
      rw [e0, h2]
      rfl
  refine ⟨⟨fun b hb => ?_, fun b hb => ?_, fun b hb hz => ?_, fun b hb => ?_⟩, fun b hb => ?_⟩
  · obtain ⟨n, e, _⟩ := key b hb
    obtain ⟨v, o, eo, _⟩ := I.cell n b e
    exact ⟨o, eo⟩
  · obtain ⟨n, e, _⟩ := key b hb
    exact I.freeC n b e
  · obtain ⟨n, e, f⟩ := key b hb
    have above := I.ok.cab n b f e
    rcases List.mem_cons.mp (I.stkSub b hz) with z | z
    · exact I.cne n b e z
    · obtain ⟨_, o, ho, _⟩ := I.ok.funs.mem z
      exact absurd (Nat.lt_of_lt_of_le (Heap.lt_size ho) above) (Nat.lt_irrefl _)
  · obtain ⟨n, e, f⟩ := key b hb
    exact Heap.get?_none_of_le (Nat.le_trans I.ok.bsz (I.ok.cab n b f e))
  · obtain ⟨n, e, _⟩ := key b hb
    exact I.cell n b e
theorem de_callLam {x : Str} {k kl : Nat} {o : ON} {po : PO'} {e1 lbody : Expr} {params : Arguments} {lscope : Scope} {cd Pt : Addr} {q : Str} (Nl psl fr : List Str) (js : List Nat) (c : Fn Γ.P Γ.w Γ.K Γ.mg Γ.base k x o)
    (hcode : Γ.code = some (cd, q)) (TB : TabB Γ.base Γ.mg cd Pt) (hM : M Pt = some (.tab (q ++ "<lambda>"))) (hNG : NoGen M)
    (h1 : DE Γ e1 ρ M fun g M1 => M1 = M ∧ ∀ f, M f = none → o [g, .op (.ref f)] (put M f (.gen (CloG Γ.P Γ.w Γ.K Γ.mg Γ.base (kl + 1) f po))) fun g' M' => M' = put M f (.gen (CloG Γ.P Γ.w Γ.K Γ.mg Γ.base (kl + 1) f po)) ∧ Q g' M)
    (hbody : ∀ gs R, po gs R → gs.length = psl.length ∧ DE ⟨Γ.P, Γ.w, Γ.K, Γ.mg, Γ.base, Nl, lscope, kl, fun _ => false, none, fun _ => True⟩ lbody (lamEnv Nl gs ρ js) (fun _ => none) fun g _ => R g)
    (hb : ∀ (cl : List (Str × Addr)) (pm ctv : Value) (c' : Addr) (us : List Value), us.length = psl.length → bindArgs (PySem.W.kla_fn "<lambda>" (q ++ "<lambda>") params lbody lscope cl pm (.ref c') ctv) ⟨us, []⟩ = pure (psl.zip us))
    (S : nscB Nl psl fr lscope = true := by kernel_rfl) (hcell : (lscope.names.all fun y => !decide (y.2 = .free) || (decide (Γ.sc.names.lookup y.1 = some .cell) && Γ.asg y.1)) = true := by kernel_rfl) (hfr : (fr.all fun y => decide ((y, NameKind.free) ∈ lscope.names)) = true := by kernel_rfl) (hjs : js.map (fun j => Γ.N[j]?) = fr.map some := by rfl)
    (hk : k ≤ Γ.lv := by exact Nat.le_of_ble_eq_true rfl) (hg : GlD Γ x := by rfl) (hdef : ∀ env, defaultsOf params env = ([], []) := by intro _; rfl) (hdb : (x == ("__debug__" : Str)) = false := by decide)
    (he : ∀ env, starEach [e1, .Lambda params lbody lscope lpos] env = (false, eval e1 env) :: starEach [.Lambda params lbody lscope lpos] env := by intro _; rfl) (he2 : ∀ env, starEach [.Lambda params lbody lscope lpos] env = (false, eval (.Lambda params lbody lscope lpos) env) :: starEach [] env := by intro _; rfl)
    (hpl : ∀ env, (backTo pos (starEach [.Lambda params lbody lscope lpos] env)).any (·.1) = false := by intro _; rfl) : DE Γ (.Call (.Name x p) [e1, .Lambda params lbody lscope lpos] [] pos) ρ M Q := by
  refine ⟨fun X fit => ⟨fun pins s σ H Qv I ⟨r, h0, kk⟩ => ?_⟩⟩
  have c' : Fn X.prog X.w X.K X.mg X.base k x o := by rw [fit.prog, fit.w, fit.K, fit.mg, fit.base]; exact c
  obtain ⟨f0, fd, ps, F, hm, kp, bnd⟩ := c'.ex
  obtain ⟨hc1, hc2⟩ : X.env.code = .ref cd ∧ X.env.qual = q := fit.code _ hcode
  have NS := nscope_by S
  have hcell' : ∀ y ∈ lscope.names, y.2 = .free → X.env.scope.names.lookup y.1 = some .cell ∧ X.fn y.1 = true := fun y hy e => by
    have h := List.all_eq_true.mp hcell y hy
    rw [Bool.or_eq_true, Bool.not_eq_true', decide_eq_false_iff_not] at h
    rcases h with h | h
    · exact absurd e h
    · rw [Bool.and_eq_true, decide_eq_true_eq] at h
      rw [fit.sc]
      refine ⟨h.1, ?_⟩
      rcases fit.fn y.1 (.inr (by rw [fit.sc]; exact h.1)) h.2 with z | z
      · exact z
      · rw [fit.sc, h.1] at z
        cases z
  have hfr' : ∀ y ∈ fr, (y, NameKind.free) ∈ lscope.names := fun y hy => of_decide_eq_true (List.all_eq_true.mp hfr y hy)
  refine wpAny_Call_Name_kw (ld_glob I (GlD.gl fit hg) hm ?_ hdb)
  refine PySem.W.callWith_K (h₀ := X.base) I.ok.mod.kin kp ?_ (he _) (hpl _)
  rw [he]
  show wpAny _ _ (spliced ((false, eval e1 X.env) :: backTo pos (starEach [.Lambda params lbody lscope lpos] X.env))) _ _ s
  refine Calls.spliced_cons (thn ((h1.run X fit).run pins s σ H (fun v H1 => ∃ g, Pers H H1 ∧ Hold Γ.K H1 M ∧ RG Γ.K H1 v g ∧ ∀ f, M f = none → o [g, .op (.ref f)] (put M f (.gen (CloG Γ.P Γ.w Γ.K Γ.mg Γ.base (kl + 1) f po))) fun g' M' => M' = put M f (.gen (CloG Γ.P Γ.w Γ.K Γ.mg Γ.base (kl + 1) f po)) ∧ Q g' M) I
    ⟨r, h0, fun v H1 g M1 p1 hh1 rg ⟨eM, q⟩ => by subst eM; exact ⟨g, p1, hh1, rg, q⟩⟩) fun u1 s1 ⟨v1, H1, I1, rv1, g1, p1, hh1, rg1, spec⟩ => ?_)
  rw [he2]
  show wpAny _ _ (spliced ((false, eval (.Lambda params lbody lscope lpos) X.env) :: backTo pos (starEach [] X.env))) _ _ s1
  have hT1 : TabS H1 Pt (X.env.qual ++ "<lambda>") := by rw [hc2]; exact hh1 _ _ hM
  refine Calls.spliced_cons (lam_make3 (T := []) (c := cd) (P := Pt) I1 (by rw [fit.base, fit.mg]; exact TB) hc1 hT1 (hdef _) (fun y hy e => I1.ok.has _ (.inl (hcell' y hy e).1)) fun f c0 pm ctv H2 s2 I2 hE hT2 hkeep nf hf hc => ?_)
  refine Calls.spliced_nil ⟨I2.kIn, ?_⟩
  obtain ⟨bare, iscell⟩ := bare_cells I2 hcell'
  generalize has : (cloFrom X.env.cells lscope.names []).map (·.2) = as at bare iscell
  have P12 := pers_ext hE
  have hM2 : Hold Γ.K H2 M := fun a m e => by
    by_cases ha : a = Pt
    · subst ha
      rw [hM] at e
      cases e
      show TabS H2 a (q ++ "<lambda>")
      rw [← hc2]
      exact hT2
    · obtain ⟨u, eu⟩ := ok_ex (hh1 a m e)
      exact MOk.mono P12 (by rw [hkeep a u eu ha, eu]) (hh1 a m e)
  have keepT := trk_keeps bare
  have Mf : M f = none := hh1.fresh nf
  have caps := Caps.made (fr := fr) (js := js) I2.ok (fun y hy e => .inl (hcell' y hy e).1) hfr' (by rw [fit.N]; exact hjs)
  have CA := cells_of I2 caps
  have clo : ClOk Γ.P Γ.w Γ.K Γ.mg Γ.base (kl + 1) f po (trkH H2 s2.heap as) := by
    refine clo_made (as := as) (F := ⟨"<lambda>", q ++ "<lambda>", params, [], lscope, cloFrom X.env.cells lscope.names [], c0⟩) (h := s2.heap) (H1 := H2) (pm := pm) (ctv := ctv) NS ?_ ?_ CA ?_ (r.mono (p1.trans P12)) ⟨fun b xs e => keepT b _ e, fun b o u e => keepT b _ e⟩ (fun us hl => hb _ pm ctv c0 us hl) hbody
    · have := keepT _ _ hf
      rw [this]
      show some (exO f (PySem.W.kla_obj "<lambda>" (X.env.qual ++ "<lambda>") params lbody lscope _ pm c0 ctv)) = _
      rw [hc2]
    · have := keepT _ _ hc
      rw [hc2] at this
      exact this
    · intro y cc ec
      have hmem : cc ∈ as := by
        rw [← has]
        exact List.mem_map.mpr ⟨(y, cc), PySem.mem_of_lookup ec, rfl⟩
      obtain ⟨oo, eo⟩ := bare.there cc hmem
      exact ⟨oo, eo, trk_in hmem eo⟩
  have holdT : Hold Γ.K (trkH H2 s2.heap as) (put M f (.gen (CloG Γ.P Γ.w Γ.K Γ.mg Γ.base (kl + 1) f po))) := fun a m e => by
    by_cases ha : a = f
    · subst ha
      rw [put_same] at e
      cases e
      have hfT := keepT _ _ hf
      exact ⟨⟨⟨_, hfT⟩, clo⟩, ⟨_, hfT, trivial⟩, clo_stays⟩
    · rw [put_ne ha] at e
      exact (hM2.keep keepT) a m e
  have PT : Pers H2 (trkH H2 s2.heap as) := .of keepT
  have spec2 : upN Γ.K o [v1, .ref f] (trkH H2 s2.heap as) (fun v H' => (∀ b ∈ as, H' b = trkH H2 s2.heap as b) ∧ ∀ h', HOk X.prog X.w H' h' → Qv v (untH H' as)) := by
    refine ⟨[g1, .op (.ref f)], _, _, .cons (rg1.mono (P12.trans PT)) (.cons rfl .nil), holdT, spec f Mf, fun v H' g' M' pH hM' rg' ⟨eM, q⟩ => ?_⟩
    subst eM
    have per : ∀ b ∈ as, H' b = trkH H2 s2.heap as b := fun b hb => by
      obtain ⟨oo, eo⟩ := bare.there b hb
      rw [trk_in hb eo]
      exact pH.2.2 b _ (trk_in hb eo)
    refine ⟨per, fun h' hok => ?_⟩
    have out : ∀ b z, H2 b = some z → b ∉ as := fun b z e hb => by rw [bare.free b hb] at e; cases e
    have P2 : Pers H2 (untH H' as) := by
      refine ⟨fun b xs e => ?_, fun b o u e => ?_, fun b φ e => ?_⟩
      · rw [unt_out (out b _ e)]; exact pH.1 b xs (keepT b _ e)
      · rw [unt_out (out b _ e)]; exact pH.2.1 b o u (keepT b _ e)
      · rw [unt_out (out b _ e)]; exact pH.2.2 b φ (keepT b _ e)
    have PD' : PersD H' (untH H' as) := by
      have ne : ∀ b z, H' b = some z → (∀ o, z ≠ exO b o) → b ∉ as := fun b z e n hb => by
        obtain ⟨oo, eo⟩ := bare.there b hb
        rw [per b hb, trk_in hb eo] at e
        cases e
        exact n oo rfl
      exact ⟨fun b xs e => by rw [unt_out (ne b _ e fun o z => by unfold exO at z; cases z)]; exact e, fun b o u e => by rw [unt_out (ne b _ e fun o z => by unfold exO at z; cases z)]; exact e⟩
    have hMu : Hold Γ.K (untH H' as) M := fun a m e => by
      have x := hM' a m (by rw [put_ne (fun z => by rw [z, Mf] at e; cases e)]; exact e)
      obtain ⟨u2, eu2⟩ := ok_ex (hM2 a m e)
      have hna := out a _ eu2
      cases m with
      | lst gs => obtain ⟨vs, e1, rr⟩ := x; exact ⟨vs, by rw [unt_out hna]; exact e1, RGs.monoD PD' rr⟩
      | dK gs => obtain ⟨vs, e1, rr⟩ := x; exact ⟨vs, by rw [unt_out hna]; exact e1, Paired.mapP rr fun _ _ z => ⟨z.1, z.2.monoD PD'⟩⟩
      | raw u => exact ⟨by rw [unt_out hna]; exact x.1, x.2⟩
      | gen φ => exact absurd e (hNG a φ)
      | tab q' =>
        obtain ⟨ps', t1, t2, t3⟩ := x
        refine ⟨ps', by rw [unt_out hna]; exact t1, t2, fun pos' cv hcv => ?_⟩
        obtain ⟨cc, ec1, ec2⟩ := t3 pos' cv hcv
        refine ⟨cc, ec1, ?_⟩
        rw [unt_out fun hb => ?_]
        · exact ec2
        · obtain ⟨oo, eo⟩ := bare.there cc hb
          have e5 := per cc hb
          rw [trk_in hb eo] at e5
          have a1 := exO_at hok e5
          obtain ⟨⟨oc, vs, t, a2, a3, _⟩, _⟩ := hok cc _ ec2
          rw [a1] at a2
          cases a2
          obtain ⟨vv, o2, b1, b2⟩ := iscell cc hb
          rw [eo] at b1
          cases b1
          rw [a3] at b2
          cases b2
    exact kk v _ g' M ((p1.trans P12).trans P2) hMu (rg'.monoD PD') q
  have hl : (([u1, Value.ref f] : List Value) ++ ([] : List Value)).length = ps.length := by
    obtain ⟨gs', M', Q', rs', _, q', _⟩ := spec2
    rw [List.append_nil, ← F.len _ _ _ q', ← rs'.length]
    rfl
  have en := env0_trk bare I2.env0
  have run := F.run X.A X.stack s2 _ ⟨[u1, .ref f], []⟩ [u1, .ref f] [v1, .ref f] _ (fit.room.mono hk) en (bnd s2 [u1, .ref f] I2.kIn hl) (.cons rv1 (.cons rfl .nil)) (by rw [fit.K]; exact spec2)
  show wpAny _ _ (call (.ref f0) [u1, .ref f]) _ _ _
  refine wpAny_call (codeAny_mono run fun r s' hq => ?_)
  cases r with
  | error e => exact hq.elim
  | ok fl =>
    cases fl with
    | ret u => exact I2.after (ce_untrk bare hq)
    | next => exact False.elim hq
    | brk => exact False.elim hq
    | cont => exact False.elim hq
end
end B
end
section
set_option maxHeartbeats 4000000
/-! D21: comprehensions whose tests answer as they like. -/
namespace B
open PySem PySem.Spec PyProof.Rows L2
section
variable {Γ : Gam} {ρ : GEnv} {M : Sto} {tg iter elt : Expr} {scope : Scope} {Q : G → Sto → Prop}
theorem lcP_nd {α : Type} {gs : List G} {vs : List Nat} {c : Expr} (T : α → Bool → Prop) (inj : α → G) (xs : List α) (F : α → PyData) (hI : PIt Γ tg iter ρ M gs) (hx : gs = xs.map inj) (hz : xs.length ≤ sizeLine)
    (hst : ∀ M', Ext M M' → ∀ x ∈ xs, DC (Γ.blk scope) vs tg (inj x) (wipeG ρ vs) M' fun ρ2 M2 => M2 = M' ∧ DT (Γ.blk scope) c ρ2 M' fun b M3 => M3 = M' ∧ T x b ∧ PD (Γ.blk scope) elt ρ2 M' (.d (F x)))
    (q : ∀ ys : List α, ys.Sublist xs → (∀ x ∈ xs, ¬ T x false → x ∈ ys) → (∀ y ∈ ys, T y true) → NewL (ys.map F) M Q) : LcP Γ tg iter elt [c] scope vs ρ M Q := by
  refine hI _ fun C hC D hD => ?_
  subst hx
  refine ⟨fun i acc M' => ∃ ys : List α, acc = (ys.map F).map G.d ∧ ys.Sublist (xs.take i) ∧ (∀ x ∈ xs.take i, ¬ T x false → x ∈ ys) ∧ (∀ y ∈ ys, T y true) ∧ M' = put M D (.lst acc), ⟨[], rfl, List.nil_sublist _, (fun x hx => by simp at hx), (fun x hx => by cases hx), rfl⟩, fun i acc M' _ ⟨_, _, _, _, _, e⟩ => by rw [e]; exact hC _ (Ext.put hD), fun i g acc M' eg ⟨ys, ea, hl, hT, hY, e⟩ => ?_, fun acc M' ⟨ys, ea, hl, hT, hY, e⟩ => ?_⟩
  · rw [List.getElem?_map] at eg
    cases ex : xs[i]? with
    | none => rw [ex] at eg; cases eg
    | some x =>
      rw [ex] at eg
      cases eg
      have hi : i < xs.length := (List.getElem?_eq_some_iff.mp ex).1
      have et : xs.take (i + 1) = xs.take i ++ [x] := by rw [List.take_add_one, ex]; rfl
      refine ⟨?_, dc_mono (hst M' (by rw [e]; exact Ext.put hD) x (List.mem_of_getElem? ex)) fun ρ2 M2 ⟨e2, dt⟩ => dts_one ?_⟩
      · rw [ea, List.length_map, List.length_map]
        have := hl.length_le
        rw [List.length_take] at this
        omega
      · subst e2
        refine DT.mono dt fun b M3 ⟨e3, hTb, pd⟩ => ?_
        subst e3
        cases b with
        | false =>
          refine ifF rfl ⟨ys, ea, by rw [et]; exact hl.trans (List.sublist_append_left _ _), fun y hy hn => ?_, hY, e⟩
          rw [et, List.mem_append] at hy
          rcases hy with h | h
          · exact hT y h hn
          · rw [List.mem_singleton] at h
            rw [h] at hn
            exact absurd hTb hn
        | true =>
          refine ifT rfl (PD.de pd ⟨by rw [e]; exact put_same, ys ++ [x], by rw [ea, List.map_append, List.map_append]; rfl, by rw [et]; exact hl.append (List.Sublist.refl _), fun y hy hn => ?_, (fun y hy => by
            rcases List.mem_append.mp hy with h | h
            · exact hY y h
            · rw [List.mem_singleton.mp h]; exact hTb), by rw [e, put_put]⟩)
          rw [et, List.mem_append] at hy
          rw [List.mem_append]
          rcases hy with h | h
          · exact .inl (hT y h hn)
          · exact .inr h
  · rw [List.length_map, List.take_length] at hl hT
    refine ⟨by rw [e]; exact put_same, ?_⟩
    rcases q ys hl hT hY with q | q
    · exact .inl ⟨_, ea, by rw [e, del_put hD]; exact q⟩
    · exact .inr (by rw [e, ea]; exact q D hD)
end
end B
end
section
set_option maxHeartbeats 4000000
/-! D22: tuples of anything taken apart at once; a list told as data from here on. -/
namespace B
open PySem PySem.Spec PyProof.Rows L2
section
variable {Γ : Gam} {ρ : GEnv} {M : Sto} {D : DEnds} {pos p1 p2 : Pos}
/-- t1, .. = e1, .. (no swapped stores) -/
theorem d1_asgT {ts es : List Expr} {k x1 : Nat} {n : Nat} (h : DA Γ es ρ M fun gs M1 => gs.length = n ∧ n ≤ sizeLine ∧ DGs Γ ts gs ρ M1 D.nx) (hn : ∀ env, (assignEach ts env).length = n := by intro _; rfl) (hst : ∀ env, (assignEach ts env).findIdx? (·.1) = none := by intro _; rfl)
    (hs : ∀ env, swapsWithSole [.Tuple ts k p1] (.Tuple es x1 p2) pos.line env = pure false := by intro _; rfl) (hw : ∀ env : Env, swappedStores [.Tuple ts k p1] (.Tuple es x1 p2) { env with scope := Γ.sc } = pure none := by intro _; rfl)
    (h1 : ∀ env, (assignEach [.Tuple ts k p1] env).map (·.2) = [assign (.Tuple ts k p1) env] := by intro _; rfl) : D1 Γ (.Assign [.Tuple ts k p1] (.Tuple es x1 p2) pos) ρ M D :=
  D1.of (fun X f => ps_asg (pe_tup (pa_all f es)) (pg_tup (n := n) f.calm (pgs_all f ts) (hn _) (hst _)) (hs _) (env_sc (P := fun env => swappedStores [.Tuple ts k p1] (.Tuple es x1 p2) env = pure none) hw _ f.sc) (h1 _)) fun X f E σ H r h0 kk => allA_of h r h0 fun vs H1 gs M1 q1 r1 h1 rs ⟨hl, hz, d⟩ => by
    have hv := rs.length
    refine ⟨by rw [hv, hl]; exact hz, fun q nq => ?_⟩
    have pn : Pers H1 (upd H1 q (.tup vs)) := .new nq
    exact ⟨q, vs, rfl, .inl (.inl upd_same), by rw [hv, hl], gs, ρ, M1, _, d, RGs.mono pn rs, r1.mono pn, h1.keep (new_keeps nq), fun σ' H' ρ' M' p r' h' qn => kk.nx σ' H' ρ' M' (q1.trans (pn.trans p)) r' h' qn⟩
theorem pss_lock {X : Cx} {sts : List Stmt} {t : TS} (h : PSs X sts t) : PSs X sts (fun E σ H => ∃ d xs, H d = some (.lst xs) ∧ ∀ od, t E σ (upd H d (.frz od (.lst xs)))) := ⟨fun pins s σ H E I ⟨d, xs, e, hq⟩ => by
  obtain ⟨od, I2⟩ := I.lock e trivial
  exact h.run pins s σ _ E I2 (hq od)⟩
/-- the list of data in slot i is told as data from here on -/
theorem ds_frz {sts : List Stmt} {a : Addr} {ds : List PyData} (i : Nat) (ha : M a = some (.lst (ds.map G.d))) (hi : ρ[i]? = some (some (.op (.ref a)))) (h : DS Γ sts (ρ.set i (some (.d (.list ds)))) (del M a) D) : DS Γ sts ρ M D :=
  ⟨fun X f => PSs.mono' (pss_lock (h.run X f)) fun E σ H ⟨r, h0, k⟩ => by
    obtain ⟨xs, e1, rs⟩ := h0 _ _ ha
    refine ⟨a, xs, e1, fun od => ?_⟩
    obtain ⟨p, h2, rg⟩ := hold_frz (od := od) h0 e1 (RGs.data rs)
    refine ⟨?_, h2, k.later p⟩
    obtain ⟨v, ev, rv⟩ := r.2 i _ hi
    cases rv
    have r2 := (r.mono p).set i rg
    have es : σ.set i (some (V.ref a)) = σ := by
      refine List.ext_getElem? fun j => ?_
      by_cases hj : i = j
      · subst hj
        have hl := (List.getElem?_eq_some_iff.mp ev).1
        rw [List.getElem?_set_self hl, ev]
      · rw [List.getElem?_set_ne hj]
    rw [es] at r2
    exact r2⟩
end
end B
end
section
set_option maxHeartbeats 4000000
/-! D23: sets of tuples of ints, and such a set sorted. -/
namespace B
open PySem PySem.Spec PyProof.Rows L2
abbrev tupI (l : List Int) : PyData := .tuple (l.map PyData.int)
theorem perm_map_of {α β : Type} {f : α → β} {out M : List β} (h : out.Perm M) : ∀ {L : List α}, M = L.map f → ∃ L' : List α, L'.Perm L ∧ out = L'.map f := by
  induction h with
  | nil => exact fun {L} e => ⟨L, .refl _, e⟩
  | cons x h ih =>
    intro L e
    cases L with
    | nil => cases e
    | cons a L =>
      injection e with e1 e2
      obtain ⟨L', p, e3⟩ := ih e2
      exact ⟨a :: L', p.cons a, by rw [List.map_cons, e1, e3]⟩
  | swap x y l =>
    intro L e
    match L, e with
    | a :: b :: L, e =>
      injection e with e1 e2
      injection e2 with e2 e3
      exact ⟨b :: a :: L, .swap a b L, by rw [List.map_cons, List.map_cons, e1, e2, e3]⟩
  | trans h1 h2 ih1 ih2 =>
    intro L e
    obtain ⟨L1, p1, e1⟩ := ih2 e
    obtain ⟨L2, p2, e2⟩ := ih1 e1
    exact ⟨L2, p2.trans p1, e2⟩
end B
end
section
set_option maxHeartbeats 4000000
/-! D24: a comprehension whose iterator changes the store, too; a statement cut off by what holds behind it. -/
namespace B
open PySem PySem.Spec PyProof.Rows L2
section
variable {Γ : Gam} {ρ : GEnv} {M : Sto} {D : DEnds} {tg iter elt : Expr} {scope : Scope}
theorem DI.mono {Q Q' : List G → (Sto → Prop) → Sto → Prop} (h : DI Γ tg iter ρ M Q) (k : ∀ gs C M, Q gs C M → Q' gs C M) : DI Γ tg iter ρ M Q' := ⟨fun X f => PI.mono' (h.run X f) fun σ H R ⟨a, b, c⟩ => ⟨a, b, fun J H' C gs M' p h' fd q => c J H' C gs M' p h' fd (k _ _ _ q)⟩⟩
theorem D1.mono {D' : DEnds} {st : Stmt} (h : D1 Γ st ρ M D) (n : ∀ ρ M, D.nx ρ M → D'.nx ρ M) (r : ∀ g M, D.rt g M → D'.rt g M) (b : ∀ ρ M, D.bk ρ M → D'.bk ρ M) (c : ∀ ρ M, D.ct ρ M → D'.ct ρ M) : D1 Γ st ρ M D' :=
  ⟨fun X f => PS.mono' (h.run X f) fun E σ H ⟨x, y, k⟩ => ⟨x, y, ⟨fun a1 a2 a3 a4 p r' h' q => k.nx a1 a2 a3 a4 p r' h' (n _ _ q), fun a1 a2 a3 a4 p h' rg q => k.rt a1 a2 a3 a4 p h' rg (r _ _ q), fun a1 a2 a3 a4 p r' h' q => k.bk a1 a2 a3 a4 p r' h' (b _ _ q), fun a1 a2 a3 a4 p r' h' q => k.ct a1 a2 a3 a4 p r' h' (c _ _ q)⟩⟩⟩
/-- behind the statement I holds -/
theorem ds_cut {st : Stmt} {sts : List Stmt} (I : GEnv → Sto → Prop) (h : D1 Γ st ρ M { D with nx := I }) (k : ∀ ρ M, I ρ M → DS Γ sts ρ M D) : DS Γ (st :: sts) ρ M D :=
  ds_cons (D1.mono h k (fun _ _ q => q) (fun _ _ q => q) (fun _ _ q => q))
end
end B
end
section
set_option maxHeartbeats 4000000
/-! D25: dict(xs), xs a list of pairs (tuple of ints, True). -/
namespace B
open PySem PySem.Spec PyProof.Rows L2
def keyI (l : List Int) : List L2.Key := l.map Sum.inl
theorem kv_int (l : List Int) : (keyI l).map kV = l.map V.int := by unfold keyI; rw [List.map_map]; rfl
def dictT (acc : List (List L2.Key × V)) (ls : List (List Int)) : List (List L2.Key × V) := ls.foldl (fun kvs l => putK kvs (keyI l) (.bl true)) acc
section
variable {Γ : Gam}
theorem keyI_inj : ∀ {a b : List Int}, keyI a = keyI b → a = b
  | [], [], _ => rfl
  | [], _ :: _, h => by cases h
  | _ :: _, [], h => by cases h
  | x :: a, y :: b, h => by
    have h1 : (Sum.inl x :: keyI a : List L2.Key) = Sum.inl y :: keyI b := h
    injection h1 with h1 h2
    injection h1 with h1
    rw [h1, keyI_inj h2]
theorem putK_any (kvs : List (List L2.Key × V)) (k k' : List L2.Key) (v : V) : ((putK kvs k v).any fun kv => decide (kv.1 = k')) = ((kvs.any fun kv => decide (kv.1 = k')) || decide (k = k')) := by
  unfold putK
  split
  · rename_i hk
    rw [List.any_map]
    have e : (kvs.any ((fun kv => decide (kv.1 = k')) ∘ fun kv => if kv.1 = k then (kv.1, v) else kv)) = kvs.any fun kv => decide (kv.1 = k') := by
      congr 1
      funext kv
      show decide ((if kv.1 = k then (kv.1, v) else kv).1 = k') = _
      split <;> rfl
    rw [e]
    by_cases h : k = k'
    · subst h
      rw [hk]
      rfl
    · rw [decide_eq_false h, Bool.or_false]
  · rw [List.any_append]
    simp
theorem dictT_any : ∀ (ls : List (List Int)) (acc : List (List L2.Key × V)) (l : List Int), ((dictT acc ls).any fun kv => decide (kv.1 = keyI l)) = ((acc.any fun kv => decide (kv.1 = keyI l)) || ls.contains l)
  | [], acc, l => by rw [List.contains_nil, Bool.or_false]; rfl
  | a :: ls, acc, l => by
    show ((dictT (putK acc (keyI a) (.bl true)) ls).any fun kv => decide (kv.1 = keyI l)) = _
    rw [dictT_any ls, putK_any, List.contains_cons, Bool.or_assoc]
    congr 2
    by_cases h : a = l
    · subst h
      simp
    · rw [decide_eq_false fun z => h (keyI_inj z)]
      symm
      simp
      exact fun z => h z.symm
variable {a b : Expr} {pos : Pos} {ρ : GEnv} {M : Sto}
end
end B
end
section
set_option maxHeartbeats 4000000
/-! D26: sorted(range(n), key=lambda one: (-weights[one], one)). -/
namespace B
open PySem PySem.Spec PyProof.Rows L2 LamX NdefX
end B
end
section
set_option maxHeartbeats 4000000
/-! D27: dict displays of one pair; tuples turned about; texts. -/
namespace B
open PySem PySem.Spec PyProof.Rows L2
section
variable {P : Program} {w : World} {A : Around} {s : Shared}
theorem back_pick (xs : Array Value) : ((List.range xs.size).filterMap fun (m : Nat) => xs[(((xs.size : Int) - 1) + (m : Int) * (-1)).toNat]?).toArray = xs.toList.reverse.toArray := by
  have e1 : ((List.range xs.size).filterMap fun (m : Nat) => xs[(((xs.size : Int) - 1) + (m : Int) * (-1)).toNat]?) = ((List.range xs.size).map fun k => xs.size - 1 - k).filterMap (xs[·]?) := by
    rw [List.filterMap_map]
    have gen : ∀ (l : List Nat), (∀ m ∈ l, m < xs.size) → l.filterMap (fun (m : Nat) => xs[(((xs.size : Int) - 1) + (m : Int) * (-1)).toNat]?) = l.filterMap ((xs[·]?) ∘ fun k => xs.size - 1 - k) := by
      intro l
      induction l with
      | nil => intro _; rfl
      | cons m l ih =>
        intro hl
        have hm := hl m List.mem_cons_self
        have e : (((xs.size : Int) - 1) + (m : Int) * (-1)).toNat = xs.size - 1 - m := by omega
        rw [List.filterMap_cons, List.filterMap_cons, ih fun x hx => hl x (List.mem_cons_of_mem _ hx), e]
        rfl
    exact gen _ fun m hm => List.mem_range.mp hm
  rw [e1, PySem.W.krv_range, List.filterMap_reverse, PySem.W.krv_all]
theorem tup_back {t sl : Addr} {items : Array Value} {vs : Value} {Q : Value → Shared → Prop} {E : Value → Shared → Prop} (ht : IsTup s.heap t items) (hs : s.heap.IsSliceOf sl .none .none vs) (ps : IsPart vs (some (-1)))
    (h : Q (.ref s.heap.objs.size) { s with heap := s.heap.push { cls := .type "tuple", data := .seq items.toList.reverse.toArray } }) (hsz : items.size ≤ sizeLine) : wpAny (model P w) A (getItem (.ref t) (.ref sl)) Q E s := by
  obtain ⟨os, hos, hcs, hds⟩ := id hs
  have hTs : s.TypeIs (.ref sl) "slice" := ⟨os, hos, hcs⟩
  have hok : sizeOk (.seq items.toList.reverse.toArray) := by
    show items.toList.reverse.toArray.size ≤ sizeLine
    rw [List.size_toArray, List.length_reverse, Array.length_toList]
    exact hsz
  unfold getItem
  try with_reducible refine wpAny_holding ?_
  first | refine wpAny_bind (wpAny_pure ?_) | skip
  refine wpAny_bind (wpAny_sequenceKey (T := "tuple") ht.typeIs (by decide) ?_)
  refine wpAny_bind (wpAny_callSpecial?_slot (name := Str.ofString "__getitem__") ht.typeIs slot_tuple_getitem (wpAny_call_entry slot_tuple_getitem ht.typeIs entry_tuple_getitem ?_ (args_tuple_getitem _ _)))
  show wpAny _ _ (Builtin.Tuple.tupleItemsOf (.ref t) >>= fun x => _) _ _ s
  refine wpAny_bind (tupleItemsOf_ ht (wpAny_bind (wpAny_typeOf hTs ?_)))
  rw [if_pos (by decide)]
  have applied : ∀ {Q' : Int × Int × Nat → Shared → Prop} {A' : Around} {E' : Value → Shared → Prop}, Q' ((items.size : Int) - 1, -1, items.size) s → wpAny (model P w) A' (Builtin.Slice.sliceApplied (.ref sl) (pure (items.size : Int))) Q' E' s := fun {Q' A' E'} q => by
    unfold Builtin.Slice.sliceApplied Builtin.Slice.sliceFields
    refine wpAny_bind (wpAny_bind (wpAny_field hos hds (x := .none) rfl (wpAny_bind (wpAny_field hos hds (x := .none) rfl (wpAny_bind (wpAny_field hos hds (x := vs) rfl (wpAny_pure ?_)))))))
    cases ps with
    | int i t =>
      refine wpAny_bind (slicePart_int ?_)
      show wpAny _ _ (if ((-1 : Int) == 0) = true then _ else _) _ _ s
      rw [if_neg (by decide)]
      refine wpAny_bind (slicePart_none (wpAny_bind (slicePart_none (wpAny_bind (wpAny_pure ?_)))))
      have e1 : Builtin.Slice.sliceAdjust none none (-1) (items.size : Int) = ((items.size : Int) - 1, -1) := rfl
      have e2 : Builtin.Slice.slicePlaces ((items.size : Int) - 1) (-1) (-1) = items.size := by
        unfold Builtin.Slice.slicePlaces
        have h1 : ¬ ((-1 : Int) > 0) := by omega
        simp only [h1, if_false, Int.neg_neg, Int.ediv_one]
        split <;> omega
      show wpAny _ _ (match Builtin.Slice.sliceAdjust none none (-1) (items.size : Int) with | (lo, hi) => pure (lo, (-1 : Int), Builtin.Slice.slicePlaces lo hi (-1))) _ _ s
      rw [e1]
      show wpAny _ _ (pure ((items.size : Int) - 1, (-1 : Int), Builtin.Slice.slicePlaces ((items.size : Int) - 1) (-1) (-1))) _ _ s
      rw [e2]
      exact wpAny_pure q
  refine wpAny_bind (applied ?_)
  show wpAny _ _ (if ((((items.size : Int) - 1) == 0 && (-1 : Int) == 1) && items.size == items.size) = true then _ else _) _ _ s
  rw [if_neg (by simp), back_pick]
  first
    | exact wpAny_bind (m := Builtin.Tuple.tupleExact _) (wpAny_newObj_type (wpAny_pure ⟨_, rfl, wpAny_pure h⟩) hok)
    | exact wpAny_bind (m := Builtin.Tuple.tupleExact _) (wpAny_newObj_type (wpAny_bind (wpAny_pure (wpAny_pure ⟨_, rfl, wpAny_pure h⟩))) hok)
    | exact wpAny_bind (wpAny_bind (m := Builtin.Tuple.tupleExact _) (wpAny_newObj_type (wpAny_pure (wpAny_pure ⟨_, rfl, wpAny_pure h⟩)) hok))
    | exact wpAny_bind (wpAny_bind (m := Builtin.Tuple.tupleExact _) (wpAny_newObj_type (wpAny_pure ⟨_, rfl, wpAny_pure h⟩) hok))
end
section
variable {Γ : Gam} {ρ : GEnv} {M : Sto} {Q : G → Sto → Prop} {a b e : Expr} {pos p apos cpos p1 p2 : Pos} {j1 j2 : Nat}
theorem pd_dict1 {x : Str} {n : Int} : PD Γ (.Dict [some (.Constant (.str x) j1 p1)] [.Constant (.int n) j2 p2] pos) ρ M (.d (.dict [(.str x, .int n)])) :=
  DE.of (fun X f => pe_frzD (pe_disp (pps_cons pe_str pe_int pps_nil) rfl rfl (fun z => nomatch z) (by show 1 ≤ 15; omega))) fun X f σ H Qv r h0 k => fun q nq => by
    refine ⟨upd_same, [(.inr x, .int n)], rfl, by show 1 ≤ 15; omega, q, [(.inr x, .int n)], upd_same, fun od => ?_⟩
    rw [upd_upd, upd_upd]
    exact k _ _ (.d (.dict [(.str x, .int n)])) M (.new nq) (h0.keep (new_keeps nq)) (Rp.dct (kis := [(.inr x, n)]) upd_same rfl) ⟨rfl, rfl⟩
theorem pd_revT {ds : List PyData} {k : Nat} {q1 q2 q3 : Pos} (he : PD Γ e ρ M (.d (.tuple ds))) : PD Γ (.Subscript e (.Slice none none (some (.UnaryOp .USub (.Constant (.int 1) k q1) q2)) q3) pos) ρ M (.d (.tuple ds.reverse)) := by
  refine ⟨fun X fit => ⟨fun pins s σ H Qv I ⟨r, h0, kk⟩ => ?_⟩⟩
  refine Subscript_ (thn ((he.run X fit).run pins s σ H (fun v H1 => ∃ a xs, v = .ref a ∧ H1 a = some (.tup xs) ∧ RpAll Γ.K H1 xs ds ∧ Pers H H1 ∧ Hold Γ.K H1 M) I ⟨r, h0, fun v H1 g M1 pp hh rg ⟨e1, e2⟩ => by
    subst e1 e2
    obtain ⟨a, xs, rfl, ha, ra⟩ := Rp.sqt rg
    exact ⟨a, xs, rfl, ha, ra, pp, hh⟩⟩) fun v s1 ⟨x, H1, I1, r1, a, xs, ex, ha, ra, pp, hh⟩ => ?_)
  subst ex
  cases r1
  have hst : PO X (some (.UnaryOp .USub (.Constant (.int 1) k q1) q2)) (tPart (tUn (rU fun i => .int (-i)) (tC (.int 1)))) := po_some (pe_un un_neg pe_int)
  refine wpAny_Slice (thn (po_none.run pins s1 σ H1 (fun o H2 => o = none ∧ H2 = H1) I1 ⟨rfl, rfl⟩) fun vl s2 ⟨l, H2, I2, pl, el, e2⟩ => ?_)
  subst el e2
  refine thn (po_none.run pins s2 σ H2 (fun o H3 => o = none ∧ H3 = H2) I2 ⟨rfl, rfl⟩) fun vu s3 ⟨u, H3, I3, pu, eu, e3⟩ => ?_
  subst eu e3
  refine thn (hst.run pins s3 σ H3 (fun o H4 => o = some (-1) ∧ H4 = H3) I3 ⟨1, rfl, -1, rfl, rfl, rfl⟩) fun vs s4 ⟨o, H4, I4, ps, eo, e4⟩ => ?_
  subst eo e4
  cases pl
  cases pu
  have I5 : Inv X pins σ H4 { s4 with heap := s4.heap.push { cls := .type "slice", data := .fields #[.none, .none, vs] } } := I4.kept (t' := s4.toks) fun b ob q => Heap.get?_push_of_some _ q
  obtain ⟨its, rv, ht, hz⟩ := I5.tuple (.inl (.inl ha))
  have hlen := rv.length
  refine tail_any (ops := [.ref a, .ref s4.heap.objs.size]) ht.typeIs slot_tuple_getitem.lookup ?_ (by with_unfolding_all rfl)
  refine tup_back ht (Heap.IsSliceOf.new _ .none .none vs) ps ?_ (by rw [List.size_toArray]; omega)
  have np : H4 (s4.heap.push { cls := .type "slice", data := .fields #[.none, .none, vs] }).objs.size = none := I5.hok.fresh (Nat.le_refl _)
  refine ⟨.ref _, _, I5.laid (t' := s4.toks) (o := .tup xs.reverse) (fun b ob q => Heap.get?_push_of_some _ q) (Nat.le_refl _) ?_, rfl, ?_⟩
  · exact ⟨by rw [List.length_reverse]; exact hz, its.reverse, rv.reverse, IsTup.new _ _⟩
  · exact kk _ _ (.d (.tuple ds.reverse)) M (pp.trans (.new np)) (hh.keep (new_keeps np)) (Rp.tup upd_same ((RpAll.reverse ra).mono (.new np))) ⟨rfl, rfl⟩
end
end B
end
section
set_option maxHeartbeats 4000000
/-! D28: texts as data: joined, cut, in capitals. -/
namespace B
open PySem PySem.Spec PyProof.Rows L2
section
variable {Γ : Gam} {ρ : GEnv} {M : Sto} {Q : G → Sto → Prop} {a b e : Expr} {pos p apos cpos p1 p2 : Pos}
def oCatS : O2 := fun x y M Q => ∃ u v, x = .d (.str u) ∧ y = .d (.str v) ∧ u.length + v.length ≤ sizeLine ∧ Q (.d (.str (u ++ v))) M
theorem o_catS : Op2 Γ (binaryOp .Add) oCatS := fun X fit => OpR.mono' op_add_str fun vx vy H Qv ⟨x, y, M, Q, rx, ry, hm, ⟨u, v, e1, e2, z, q⟩, k⟩ => by
  subst e1 e2
  cases rx
  cases ry
  exact ⟨u, v, rfl, rfl, z, k.here hm (rgd (Rp.str _)) q⟩
theorem pd_slS {lo hi : Option Expr} {l h : Option Int} {z : Str} {p3 : Pos} (he : PD Γ e ρ M (.d (.str z))) (hl : PPart Γ ρ M lo l) (hh : PPart Γ ρ M hi h) (hz : z.length ≤ sizeLine) : PD Γ (.Subscript e (.Slice lo hi none p3) pos) ρ M (.d (.str (cutS z l h))) :=
  DE.of (fun X f => pe_slice sl_str (pe_all f e) (hl.po f) (hh.po f)) fun X f σ H Qv r h0 k => all_of he r h0 fun v H1 g M1 p1 r1 h1 rg ⟨e1, e2⟩ => by
    subst e1 e2
    cases rg
    exact ⟨r1, h1, fun H2 p2 h2 => ⟨r1.mono p2, h2, fun H3 p3 h3 => ⟨z, rfl, hz, k _ H3 (.d (.str (cutS z l h))) M1 (p1.trans (p2.trans p3)) h3 (rgd (Rp.str _)) ⟨rfl, rfl⟩⟩⟩⟩
theorem pd_upper {z : Str} (he : PD Γ e ρ M (.d (.str z))) (hz : z.length ≤ 5592405) (hbase : ∀ env, attributeBase e "upper" env (eval e env) = eval e env := by intro _; rfl) (hline : (apos.endLine == cpos.line) = true := by rfl) :
    PD Γ (.Call (.Attribute e "upper" apos) [] [] cpos) ρ M (.d (.str (Txt.upper z))) :=
  DE.of (fun X f => pe_upper (pe_all f e) (hbase _) hline) fun X f σ H Qv r h0 k => all_of he r h0 fun v H1 g M1 p1 r1 h1 rg ⟨e1, e2⟩ => by
    subst e1 e2
    cases rg
    exact ⟨⟨z, rfl⟩, z, rfl, rfl, hz, k _ H1 (.d (.str (Txt.upper z))) M1 p1 h1 (rgd (Rp.str _)) ⟨rfl, rfl⟩⟩
end
end B
end
section
set_option maxHeartbeats 4000000
/-! D29: calls with keywords; repr of data. -/
namespace B
open PySem PySem.Spec PyProof.Rows L2
/-- a def called with n positional values and the keywords ks, in the parameters' order -/
structure FnK (P : Program) (w : World) (K : PySem.W.Frag) (mg : Str → Option Value) (base : Heap) (k : Nat) (x : Str) (n : Nat) (ks : List Str) (o : ON) : Prop where
  ex : ∃ f fd ps, FnG P w K mg base k f fd ps o ∧ mg x = some (.ref f) ∧ PySem.W.keepIn K (.ref f) = true ∧ ∀ (s : Shared) (us ws : List Value), us.length = n → ws.length = ks.length → BindsTo s fd ⟨us, ks.zip ws⟩ (ps.zip (us ++ ws))
section
variable {Γ : Gam} {ρ : GEnv} {M : Sto} {Q : G → Sto → Prop} {e e1 : Expr} {pos p kpos : Pos}
theorem FnK.fit {X : Cx} (f : Γ.Fit X) {k n : Nat} {x : Str} {ks : List Str} {o : ON} (c : FnK Γ.P Γ.w Γ.K Γ.mg Γ.base k x n ks o) : FnK X.prog X.w X.K X.mg X.base k x n ks o := by
  rw [f.prog, f.w, f.K, f.mg, f.base]
  exact c
end
end B
end
section
set_option maxHeartbeats 4000000
/-! D30: the end, for promises that hold while no repr is under way. -/
namespace B
open PySem PySem.Spec PyProof.Rows L2 LamX
def tabO : Obj := { cls := .none, data := .fields #[] }
def lstO (vs : List Value) : Obj := { cls := .type "list", data := .seq vs.toArray }
/-- what is tracked at the law's entry: its tables, its script where it is not the module's own -/
noncomputable def entryH (K : PySem.W.Frag) (T : List Addr) (a : Addr) (vs : List Value) (ns : List Int) : Hp := fun b =>
  if b ∈ T then some (.tbl #[]) else if b = a ∧ K.lookup a = none then some (.frz (lstO vs) (.lst (ns.map V.int))) else none
section
variable {P : Program} {w : World} {K : PySem.W.Frag} {mg mb : Str → Option Value} {k : Nat} {fa a : Addr} {cs : List (Addr × Addr)} {fd : FuncData} {x : Str} {o : ON} {s₁ : Shared} {vs : List Value} {ns : List Int} {T : List Addr}
theorem entry_tab {b : Addr} (h : b ∈ T) : entryH K T a vs ns b = some (.tbl #[]) := if_pos h
theorem entry_out {b : Addr} (h : b ∉ T) (h2 : b ≠ a) : entryH K T a vs ns b = none := by
  unfold entryH
  rw [if_neg h, if_neg fun z => h2 z.1]
theorem entry_known {b : Addr} (h : b ∉ T) (hk : K.lookup a ≠ none) : entryH K T a vs ns b = none := by
  unfold entryH
  rw [if_neg h, if_neg fun z => hk z.2]
theorem entry_script (h : a ∉ T) (hk : K.lookup a = none) : entryH K T a vs ns a = some (.frz (lstO vs) (.lst (ns.map V.int))) := by
  unfold entryH
  rw [if_neg h, if_pos ⟨rfl, hk⟩]
theorem law_end (KX : K.In s₁.heap) (hns : s₁.heap.Ns mainGlobals mg) (hb : s₁.heap.Ns builtinsNs mb) (hbb : ∀ x : Str, x ≠ "__name__" → mb x = bootBuiltins x) (hlim : s₁.heap.NoLimit) (hg : s₁.gens = #[])
    (hT : ∀ p ∈ cs, s₁.heap.get? p.2 = some tabO) (nT : ∀ p ∈ cs, K.lookup p.2 = none) (C : ∀ p ∈ cs, PySem.W.CodeHd s₁.heap p.1 p.2)
    (hbm : ∃ (bm : Addr) (ob : Obj), mg "__builtins__" = some (.ref bm) ∧ bm ≠ builtinsNs ∧ s₁.heap.get? bm = some ob ∧ ob.cls = .type "module" ∧ ob.dict = some builtinsNs ∧ ob.data = .plain)
    (ha : s₁.heap.get? a = some (lstO vs)) (hi : IntsAre vs ns) (hl : ns.length ≤ sizeLine) (hr : RoomG k callerA)
    (F : ∀ base : Heap, K.In base → base.Ns mainGlobals mg → (∀ p ∈ cs, TabB base mg p.1 p.2) → FnG P w K mg base k fa fd [x] o) (hbind : ∀ (s : Shared) (u : Value), BindsTo s fd ⟨[u], []⟩ [(x, u)])
    (hsp : ∀ H : Hp, (∀ p ∈ cs, H p.2 = some (.tbl #[])) → SqL K H a (ns.map V.int) → upN K o [.ref a] H fun v _ => v = .bl true) :
    codeAny (model P w) callerA (.call (.ref fa) ⟨[.ref a], []⟩) (fun r s' => r = .ok (.ret (.bool true)) ∧ OldK s₁.heap s'.heap ∧ s'.os = s₁.os ∧ AllBare s'.gens) s₁ := by
  have rv := vals_ints hi
  have atT : ∀ b : Addr, b ∈ cs.map (·.2) → ∃ p ∈ cs, p.2 = b := fun b z => by
    obtain ⟨p, h1, h2⟩ := List.mem_map.mp z
    exact ⟨p, h1, h2⟩
  have inT : ∀ p ∈ cs, p.2 ∈ cs.map (·.2) := fun p hp => List.mem_map_of_mem hp
  have isTab : ∀ b : Addr, b ∈ cs.map (·.2) → s₁.heap.get? b = some tabO := fun b z => by
    obtain ⟨p, hp, e⟩ := atT b z
    rw [← e]
    exact hT p hp
  have aT : a ∉ cs.map (·.2) := fun z => by
    have e := isTab a z
    rw [ha] at e
    cases congrArg Obj.data (Option.some.inj e)
  generalize hTT : cs.map (·.2) = T at atT inT isTab aT
  obtain ⟨H, hH⟩ : ∃ H, H = entryH K T a vs ns := ⟨_, rfl⟩
  have hS : SqL K H a (ns.map V.int) := by
    cases q : K.lookup a with
    | none => exact .inl (.inr ⟨lstO vs, by rw [hH]; exact entry_script aT q⟩)
    | some ob =>
      have e := KX a ob q
      rw [ha] at e
      cases e
      exact .inr ⟨_, vs.toArray, _, q, rfl, rfl, rfl, by rw [List.size_toArray, hi.length]; exact hl, by simpa using rv⟩
  have hHt : ∀ p ∈ cs, H p.2 = some (.tbl #[]) := fun p hp => by rw [hH]; exact entry_tab (inT p hp)
  have hok : HOk P w H s₁.heap := fun b u e => by
    rw [hH] at e
    by_cases z : b ∈ T
    · rw [entry_tab z] at e
      cases e
      exact isTab b z
    · by_cases za : b = a
      · subst za
        by_cases q : K.lookup b = none
        · rw [entry_script z q] at e
          cases e
          exact ⟨ha, by rw [List.length_map]; exact hl, vs, _, rv, ha⟩
        · rw [entry_known z q] at e
          cases e
      · rw [entry_out z za] at e
        cases e
  -- what is neither a table nor the script is not tracked
  have out : ∀ {b : Addr} {ob : Obj}, s₁.heap.get? b = some ob → ob ≠ tabO → b ≠ a → H b = none := fun {b ob} e h1 h2 => by
    rw [hH]
    exact entry_out (fun z => h1 (by rw [isTab b z] at e; exact (Option.some.inj e).symm)) h2
  have dictOut : ∀ {b : Addr} {ob : Obj} {es : Array DictEntry} {ep : Nat}, s₁.heap.get? b = some ob → ob.data = .dict es ep → H b = none := fun {b ob es ep} e d => out e (fun z => by rw [z] at d; cases d) fun z => by
    rw [z, ha] at e
    cases e
    cases d
  have nsB : ∀ {b : Addr} {m : Str → Option Value}, s₁.heap.Ns b m → (hidT s₁.heap H).Ns b m := fun {b m} ⟨ob, es, ep, e, d, r⟩ => ⟨ob, es, ep, hidT_get e (dictOut e d), d, r⟩
  have inB : K.In (hidT s₁.heap H) := fun b ob e => hidT_get (KX b ob e) (by
    rw [hH]
    have zT : b ∉ T := fun z => by
      obtain ⟨p, hp, ep⟩ := atT b z
      rw [← ep, nT p hp] at e
      cases e
    by_cases za : b = a
    · rw [za] at e ⊢
      exact entry_known aT (by rw [e]; exact fun z => nomatch z)
    · exact entry_out zT za)
  have modB : L2.Mod K mg (hidT s₁.heap H) := ⟨inB, nsB hns, ⟨mb, nsB hb, hbb⟩, let ⟨mc, h1, h2⟩ := hlim; ⟨mc, nsB h1, h2⟩⟩
  have TB : ∀ p ∈ cs, TabB (hidT s₁.heap H) mg p.1 p.2 := fun p hp => by
    have hTp := hT p hp
    have glob : ∀ {b : Addr} {ob : Obj}, s₁.heap.get? b = some ob → ob.data = .plain → H b = none := fun {b ob} e d => out e (fun z => by rw [z] at d; cases d) fun z => by
      rw [z, ha] at e
      cases e
      cases d
    refine ⟨?_, ?_, fun z => ?_⟩
    · obtain ⟨ob, us, file, tf, flags, tg, inF, text, tt, e1, r1, r2, r3, r4, r5, r6, r7, r8, hne⟩ := C p hp
      refine ⟨ob, us, file, tf, flags, tg, inF, text, tt, hidT_get e1 (out e1 (fun z => ?_) fun z => ?_), r1, r2, r3, r4, r5, r6, r7, r8, hne⟩
      · rw [z] at r2
        cases r2
        simp at r3
      · rw [z, ha] at e1
        cases e1
        cases r2
    · obtain ⟨bm, ob, b1, b2, b3, b4, b5, b6⟩ := hbm
      refine ⟨bm, ob, b1, b2, fun q => ?_, fun q => ?_, hidT_get b3 (glob b3 b6), b4, b5, b6⟩
      · obtain ⟨oo, es, ep, e, hd, _⟩ := hns
        rw [q, e] at b3
        cases b3
        rw [hd] at b6
        cases b6
      · rw [q, hTp] at b3
        cases b3
        cases b6
    · obtain ⟨oo, es, ep, e, hd, _⟩ := hns
      rw [z, hTp] at e
      cases e
      cases hd
  have e0 : Env0 P w K mg (hidT s₁.heap H) callerA [] s₁ H := ⟨rfl, modB, fun b ob e => of_hidT e, Nat.le_of_eq (hidT_size _ _), trivial, fun b hb => absurd (show b ∈ ([] : List Addr) from hb) (by simp), hok, .of_eq hg⟩
  refine codeAny_mono ((F _ inB (nsB hns) TB).run callerA [] s₁ H ⟨[.ref a], []⟩ [.ref a] [.ref a] _ hr e0 (hbind s₁ (.ref a)) (.cons rfl .nil) (hsp H hHt hS)) fun r s' h => ?_
  cases r with
  | error e => exact h.elim
  | ok fl =>
    cases fl with
    | next => exact False.elim h
    | brk => exact False.elim h
    | cont => exact False.elim h
    | ret u =>
      obtain ⟨v, H', os, bare, un, hok', r', q⟩ := h
      have q' : v = .bl true := q
      subst q'
      obtain rfl : u = Value.bool true := r'
      have same : ∀ b ob, b ∉ T → s₁.heap.get? b = some ob → s'.heap.get? b = some ob := fun b ob nb e => by
        by_cases za : b = a ∧ K.lookup a = none
        · have hf : H a = some (.frz (lstO vs) (.lst (ns.map V.int))) := by rw [hH]; exact entry_script aT za.2
          obtain ⟨e2, _⟩ := hok' a _ (un.frzs a _ _ hf)
          rw [za.1, ha] at e
          rw [za.1, e2]
          exact e
        · have hn : H b = none := by
            rw [hH]
            unfold entryH
            rw [if_neg nb, if_neg za]
          exact un.keep b ob e hn (fun z => nomatch z) (fun z => nomatch z)
      have grown : ∀ b ∈ T, ∃ more : Array Value, s'.heap.get? b = some { cls := .none, data := .fields more } := fun b hb => by
        obtain ⟨more, z⟩ := un.tbls b #[] (by rw [hH]; exact entry_tab hb)
        exact ⟨_, hok' b _ z⟩
      refine ⟨rfl, ⟨fun b ob e => ?_, fun b ob e => ?_⟩, os, bare⟩
      · by_cases z : b ∈ T
        · obtain ⟨p, hp, ep⟩ := atT b z
          obtain ⟨more, hm⟩ := grown b z
          rw [isTab b z] at e
          cases e
          subst ep
          exact .inr (.inl ⟨((C p hp).tab (hT p hp)).isCodeTable, rfl, #[], more, rfl, by rw [Array.empty_append]; exact hm⟩)
        · exact .inl (same b ob z e)
      · by_cases z : b ∈ T
        · obtain ⟨more, hm⟩ := grown b z
          exact ⟨_, hm⟩
        · exact ⟨ob, same b ob z e⟩
end
/-- what is known of the law's promise at the head's heap h -/
def LawG (l : PySem.W.OpenLaw) (w : World) (K : PySem.W.Frag) (k n : Nat) (x : Str) (mg : Str → Option Value) (fa : Addr) (h : Heap) : Prop :=
  ∃ (fd : FuncData) (cs : List (Addr × Addr)) (o : ON), (∀ p ∈ cs, h.get? p.2 = some tabO) ∧ (∀ p ∈ cs, K.lookup p.2 = none) ∧ (∀ p ∈ cs, PySem.W.CodeHd h p.1 p.2) ∧ (∀ (s : Shared) (u : Value), BindsTo s fd ⟨[u], []⟩ [(x, u)]) ∧
    (∀ (H : Hp) (a : Addr) (ns : List Int), ns.length ≤ n → (∀ z ∈ ns, Builtin.Int.intBits z ≤ 1048576) → (∀ p ∈ cs, H p.2 = some (.tbl #[])) → SqL K H a (ns.map V.int) → upN K o [.ref a] H fun v _ => v = .bl true) ∧
    ∀ base : Heap, K.In base → base.Ns mainGlobals mg → (∀ p ∈ cs, TabB base mg p.1 p.2) → FnG l.prog w K mg base k fa fd [x] o
theorem walk_G {l : PySem.W.OpenLaw} {n k : Nat} {q : Program} {loose : List Str} {XP : (Str → Option Value) → Heap → Prop} {YP : World → Heap → Prop} {d : DefRec} {x : Str} (hn : l.most = some n) (hn2 : n ≤ sizeLine) (hdf : d.params.defaults = []) (hr : RoomG k callerA)
    (F : ∀ (w : World) (mg : Str → Option Value) (fa : Addr) (h : Heap), YP w h → h.Ns mainGlobals mg → mg d.name = some (.ref fa) → ∃ K : PySem.W.Frag, K.In h ∧ LawG l w K k n x mg fa h) :
    PySem.W.WalkO q loose XP YP l.row.toRowW d [] (fun f vs => PySem.call f vs) := by
  refine Att.attach_callB hn hdf fun w s₀ s₁ mg mb fa ol pm cd doc a vs ns G Y ho hd hcd hmg hobj hints hlen hbits hg => ?_
  obtain ⟨K, KX, fd, cs, o, hT, nT, C, hb, hsp, hF⟩ := F w mg fa _ Y G.T.g hmg
  exact law_end KX G.T.g G.T.b G.T.builtins G.T.nolimit hg hT nT C G.T.bmain hobj hints (Nat.le_trans hlen hn2) hr hF hb fun H hH hS => hsp H a ns hlen hbits hH hS
end B
end
section
set_option maxHeartbeats 4000000
/-! D31: stars in lists. -/
namespace B
open PySem PySem.Spec PyProof.Rows L2
end B
end
section
set_option maxHeartbeats 8000000
/-! D32: sets of hw of a list, and such a set sorted. -/
namespace B
open PySem PySem.Spec PyProof.Rows L2
section
variable {P : Program} {w : World} {A : Around} {E : Value → Shared → Prop} {s : Shared}
/-- an empty set, newly made -/
abbrev bareSet (w : World) : Obj := { cls := .type "set", data := .set #[] 0 (.fresh 0 0 (!w.params.followText "set-order")), dict := none }
/-- the set at b takes in the hw of the list at l -/
theorem fill_set {b l : Addr} {vs : Array Value} (ns : List Int) {F1 : Fin → Shared → Prop} (calm : A.in1.handled = none) (atB : s.heap.get? b = some (bareSet w)) (bl : b ≠ l) (atL : s.heap.IsList l vs) (hw : IntsAre vs.toList ns) (few : ns.length + 1 < scanBound)
    (go : ∀ s' c, (∀ a o, a ≠ b → s.heap.get? a = some o → s'.heap.get? a = some o) → s'.gens = s.gens ∧ s'.drawn = s.drawn ∧ s'.os = s.os → SetR w s'.heap b (fun j => decide (j ∈ ns)) c → c ≤ ns.length → F1 (.done (.ret .none)) s') :
    wpAny (model P w) A (Builtin.«set.__init__» ⟨[.ref b, .ref l], []⟩) F1 E s := by
  obtain ⟨⟨cl, dc, da, sl⟩, gotL, e1, nn, e2⟩ := atL
  cases e1
  cases e2
  have asL : s.heap.IsList l vs := ⟨_, gotL, rfl, nn, rfl⟩
  have many : vs.size = ns.length := (Array.length_toList (xs := vs)).symm.trans hw.length
  have isB : s.TypeIs (.ref b) "set" := ⟨_, atB, rfl⟩
  have n1 := F.sub_list_set
  have n2 := F.sub_list_frozenset
  have n3 : (Value.type "list" == Value.type "dict") = false := by decide
  unfold Builtin.«set.__init__» noKeywords Builtin.Frozenset.updateFrom
  generalize eI : pyIter = it
  wp_walk
  subst eI
  refine wpAny_pyIter_list asL (wpAny_bind (wpAny_runValue ?_))
  have lB := Heap.lt_size atB
  have lL := Heap.lt_size gotL
  refine set_update_ints ((Walks.list (by simpa using calm) _ l (Nat.ne_of_lt lL) vs).toS) b (fun z => ?_) ns many few (fun i v hv => ?_) (vs.size - 0) 0 _ (by omega) (Nat.zero_le _) ⟨⟨_, Heap.get?_push_size _ rfl, rfl, rfl⟩, asL.push _⟩ ⟨0, Nat.le_refl 0, setR_new_at (Heap.get?_push_of_some _ atB)⟩ fun s' c mv hc R => ?_
  · rcases List.mem_cons.mp z with z | z
    · exact Nat.ne_of_lt lB z
    · exact bl (List.mem_singleton.mp z)
  · have hi : i < ns.length := many ▸ (Array.getElem?_eq_some_iff.mp hv).1
    obtain ⟨t, e⟩ := hw.int_at i v ((Array.getElem?_toList ..).trans hv)
    refine ⟨_, t, List.getElem?_eq_getElem hi, e.trans ?_⟩
    rw [List.getD_eq_getElem?_getD, List.getElem?_eq_getElem hi]
    rfl
  · rw [many] at hc
    have q := go s' c (fun a o ab ea => mv.heap a o (fun z => ?_) (Heap.get?_push_of_some _ ea)) ⟨mv.gens, mv.drawn, mv.os⟩ R hc
    · show wpAny _ _ _ _ _ _
      exact wpAny_pure (wpAny_pure q)
    · have la := Heap.lt_size ea
      rcases List.mem_cons.mp z with z | z
      · exact ab z
      · exact Nat.ne_of_lt la (List.mem_singleton.mp z)
/-- set(l), l a list of hw -/
theorem set_listI {l : Addr} {vs : Array Value} (ns : List Int) {Q : Value → Shared → Prop} (calm : A.handled = none) (atL : s.heap.IsList l vs) (hw : IntsAre vs.toList ns) (few : ns.length + 1 < scanBound)
    (go : ∀ (h' : Heap) (tk c : Nat), SetR w h' s.heap.objs.size (fun j => decide (j ∈ ns)) c → c ≤ ns.length → (∀ b o, s.heap.get? b = some o → h'.get? b = some o) → Q (.ref s.heap.objs.size) { s with heap := h', toks := tk }) :
    wpAny (model P w) A (call (.type "set") [.ref l]) Q E s := by
  obtain ⟨_, _, t1⟩ := F.called_set.mro
  have t2 := F.called_set.made; have t3 := F.called_set.sub; have t4 := F.called_set.notType; have t5 := F.called_set.canCreate; have t6 := F.typeCall_set_1 (.ref l)
  refine wpAny_call (codeAny_of_tree ?_); show wpAny _ _ (callAny (.type "set") _) _ _ _
  refine wpAny_pure ⟨Code.quiet_builtin _ (by decide +kernel), codeAny_builtin F.entry_type_call ?_⟩; rw [Around.under_plain (weight_type_call_type "set" [.ref l] []) rfl]
  repeat any_goals (first | assumption | wp_step)
  refine codeAny_mono (code_set_led1 (.ref l) (E := E) (Q₁ := fun v s1 => v = .ref s.heap.objs.size ∧ s1 = { s with heap := s.heap.push (bareSet w) }) ⟨rfl, rfl⟩) fun r s1 hr => ?_
  rcases r with e | fl
  · exact hr
  cases fl with
  | ret v =>
    obtain ⟨rfl, rfl⟩ := hr
    have got : (s.heap.push (bareSet w)).get? s.heap.objs.size = some (bareSet w) := Heap.get?_push_size _ rfl
    have isS : Shared.TypeIs { s with heap := s.heap.push (bareSet w) } (.ref s.heap.objs.size) "set" := ⟨_, got, rfl⟩
    have u1 := F.called_set.init.lookup; have u2 := F.called_set.init.bind (.ref s.heap.objs.size)
    repeat any_goals (first | assumption | wp_step)
    have atL2 : (s.heap.push (bareSet w)).IsList l vs := atL.push _
    have ll : l < s.heap.objs.size := by
      obtain ⟨o, ho, _⟩ := atL
      exact Heap.lt_size ho
    refine codeAny_mono (codeAny_call_builtin (R := wants (fun r s2 => r = .none ∧ ∃ h2 tk c, s2 = { s with heap := h2, toks := tk } ∧ SetR w h2 s.heap.objs.size (fun j => decide (j ∈ ns)) c ∧ c ≤ ns.length ∧ ∀ b o, s.heap.get? b = some o → h2.get? b = some o) E)
      F.called_set.init.plain F.entry_set_init (check_set_init_1 isS (fill_set ns calm got (Nat.ne_of_gt ll) atL2 hw few fun s2 c kp ⟨g1, g2, g3⟩ R hc => ?_))) fun r2 s2 hr2 => ?_
    · obtain ⟨h2, gg, dd, tk, oo⟩ := s2
      cases g1
      cases g2
      cases g3
      exact ⟨rfl, h2, tk, c, rfl, R, hc, fun b o e => kp b o (Nat.ne_of_lt (Heap.lt_size e)) (Heap.get?_push_of_some _ e)⟩
    · rcases r2 with e | fl
      · exact hr2
      cases fl with
      | ret v =>
        obtain ⟨rfl, h2, tk, c, rfl, R, hc, kp⟩ := hr2
        repeat any_goals (first | assumption | wp_step)
        exact go _ _ _ R hc kp
      | _ => exact hr2.elim
  | _ => exact hr.elim
end
section
variable {Γ : Gam}
/-- a set of hw stands at p: those of ns -/
def SetI (w : World) (p : Addr) (ns : List Int) : Hp → Prop := fun H => ∃ S n, H p = some (SetO w p S n) ∧ (∀ k, S k = true ↔ k ∈ ns) ∧ n < 64
theorem setI_stays {w : World} {p : Addr} {ns : List Int} : ∀ H1 H2, Pers H1 H2 → H2 p = H1 p → SetI w p ns H1 → SetI w p ns H2 := fun H1 H2 pr e ⟨S, n, h1, h2, h3⟩ => ⟨S, n, by rw [e]; exact h1, h2, h3⟩
def oSetI (w : World) : ON := fun xs M Q => ∃ g ns, xs = [g] ∧ DatV M g (.list (ns.map PyData.int)) ∧ ns.length < 64 ∧ ∀ p, M p = none → Q (.op (.ref p)) (put M p (.gen (SetI w p ns)))
theorem o_setI : OpN Γ (.type "set") (oSetI Γ.w) := fun X fit pins s σ H vs us Qv I rv ⟨xs, M, Q, rs, hm, ⟨g, ns, e, sv, hz, q⟩, k⟩ => by
  subst e
  obtain ⟨v, rfl⟩ : ∃ v, vs = [v] := by
    cases rs with
    | cons r t => cases t; exact ⟨_, rfl⟩
  have r : RG Γ.K H v g := by
    cases rs with
    | cons r t => exact r
  obtain ⟨a, ys, rfl, ha, ra⟩ := sv.sql hm r
  rw [RpAll.ints ra] at ha
  rw [Vals.ref1 rv]
  obtain ⟨its, rv', pl, hz'⟩ := I.list (by rw [fit.K]; exact ha)
  have hn : H s.heap.objs.size = none := I.hok.fresh (Nat.le_refl _)
  refine set_listI (w := X.w) ns (I.ok.hd fit.calm) pl.isList rv'.ints (by unfold scanBound; omega) fun h' tk c R hc kp => ?_
  refine ⟨.ref s.heap.objs.size, upd H s.heap.objs.size (SetO X.w s.heap.objs.size (fun j => decide (j ∈ ns)) c), I.laid (t' := tk) kp (Nat.le_refl _) (setO_new R), rfl, ?_⟩
  have pn : Pers H (upd H s.heap.objs.size (SetO X.w s.heap.objs.size (fun j => decide (j ∈ ns)) c)) := .new hn
  refine k (.ref _) _ (.op (.ref _)) _ pn (hm.new (m := .gen (SetI Γ.w s.heap.objs.size ns)) hn ⟨⟨fun j => decide (j ∈ ns), c, ?_, fun j => decide_eq_true_iff, by omega⟩, ⟨_, upd_same, trivial⟩, setI_stays⟩) rfl (q _ (hm.fresh hn))
  rw [upd_same, fit.w]
def oSortI (w : World) : ON := fun xs M Q => ∃ p ns, xs = [.op (.ref p)] ∧ M p = some (.gen (SetI w p ns)) ∧ ∀ ns' : List Int, ns'.Pairwise (· < ·) → (∀ k, k ∈ ns' ↔ k ∈ ns) → ∀ b, M b = none → Q (.op (.ref b)) (put M b (.lst ((ns'.map PyData.int).map G.d)))
theorem o_sortI : OpN Γ (.builtin "sorted") (oSortI Γ.w) := fun X fit => CallR.mono' (cr_sortedSet fit.calm) fun vs H Qv ⟨xs, M, Q, rs, hm, ⟨p, ns, e, eM, q⟩, k⟩ => by
  subst e
  cases rs with
  | cons r t =>
    cases t
    cases r
    obtain ⟨⟨S, n, h1, h2, h3⟩, _, _⟩ := hm _ _ eM
    refine ⟨p, S, n, rfl, by rw [fit.w]; exact h1, h3, fun ns' b hs hm2 hl nb => ?_⟩
    exact k (.ref b) _ (.op (.ref b)) _ (.new nb) (hm.new (m := .lst ((ns'.map PyData.int).map G.d)) nb ⟨_, upd_same, RGs.of_data (RpAll.of_ints _)⟩) rfl (q ns' hs (fun j => (hm2 j).trans (h2 j)) b (hm.fresh nb))
end
end B
end
section
set_option maxHeartbeats 4000000
/-! D33: tests that leave new objects behind. -/
namespace B
open PySem PySem.Spec PyProof.Rows L2
end B
end
section
set_option maxHeartbeats 4000000
/-! D34: min of data, repr(None), calls with two keywords the other way about. -/
namespace B
open PySem PySem.Spec PyProof.Rows L2
/-- a def of two parameters, called with both as keywords, the second first -/
structure FnR2 (P : Program) (w : World) (K : PySem.W.Frag) (mg : Str → Option Value) (base : Heap) (k : Nat) (x a b : Str) (o : ON) : Prop where
  ex : ∃ f fd, FnG P w K mg base k f fd [a, b] o ∧ mg x = some (.ref f) ∧ PySem.W.keepIn K (.ref f) = true ∧ ∀ (s : Shared) (u v : Value), BindsTo s fd ⟨[], [(b, v), (a, u)]⟩ [(a, u), (b, v)]
section
variable {P : Program} {w : World} {K : PySem.W.Frag} {mg : Str → Option Value} {base : Heap}
theorem fn_okR2 {x qual a b : Str} {params : Arguments} {body : List Stmt} {scope : Scope} {f : Addr} {fd : FuncData} {N : List Str} {k : Nat} {o : ON} (F : FunD K x qual params body scope [] [] f fd) (hm : mg x = some (.ref f))
    (hb : ∀ (kV doc pm : Value) (an : Option Addr) (cdv ct : Value) (u v : Value), bindArgs (PySem.W.fnOf x qual params body scope .none kV doc pm an cdv ct) ⟨[], [(b, v), (a, u)]⟩ = pure [(a, u), (b, v)]) (S : FnScope N [a, b] scope) (len : ∀ gs M Q, o gs M Q → gs.length = 2)
    (h : ∀ gs M Q, o gs M Q → DS ⟨P, w, K, mg, base, N, scope, k, fun _ => true, none, fun _ => True⟩ body (startG N gs) M (dRet Q)) : FnR2 P w K mg base (k + 1) x a b o := by
  have kp := F.kp
  obtain ⟨oc, od, dV, kV, doc, pm, an, cdv, ct, osl, rfl, lk, hcd, h1, h2⟩ := F.ex
  rcases h1 with ⟨_, rfl⟩ | ⟨e, _⟩
  · exact ⟨f, _, fnG_of (cd := none) lk hcd S len (fun p z => nomatch z) h, hm, kp, fun s u v => .of_eq (hb kV doc pm an cdv ct u v)⟩
  · exact absurd rfl e
end
section
variable {Γ : Gam} {ρ : GEnv} {M : Sto} {Q : G → Sto → Prop} {e1 e2 : Expr} {pos p kp1 kp2 : Pos}
theorem FnR2.fit {X : Cx} (f : Γ.Fit X) {k : Nat} {x a b : Str} {o : ON} (c : FnR2 Γ.P Γ.w Γ.K Γ.mg Γ.base k x a b o) : FnR2 X.prog X.w X.K X.mg X.base k x a b o := by
  rw [f.prog, f.w, f.K, f.mg, f.base]
  exact c
/-- f(b = e1, a = e2) -/
theorem de_callR2 {o : ON} {x a b : Str} {k : Nat} (c : FnR2 Γ.P Γ.w Γ.K Γ.mg Γ.base k x a b o) (h : DE Γ e1 ρ M fun g1 M1 => DE Γ e2 ρ M1 fun g2 M2 => o [g2, g1] M2 Q) (hk : k ≤ Γ.lv := by exact Nat.le_of_ble_eq_true rfl) (hg : GlD Γ x := by rfl) (hdb : (x == ("__debug__" : Str)) = false := by decide)
    (hall : ∀ env, (backToKw pos (keywordEach [⟨some b, e1, kp1⟩, ⟨some a, e2, kp2⟩] env)).all (·.1.isSome) = true := by intro _; rfl) (hks : ∀ env, (backToKw pos (keywordEach [⟨some b, e1, kp1⟩, ⟨some a, e2, kp2⟩] env)).filterMap (·.1) = [b, a] := by intro _; rfl)
    (hpl : ∀ env, ((backTo pos (starEach [] env)).any (·.1) || (backToKw pos (keywordEach [⟨some b, e1, kp1⟩, ⟨some a, e2, kp2⟩] env)).any (·.1.isNone)) = false := by intro _; rfl) :
    DE Γ (.Call (.Name x p) [] [⟨some b, e1, kp1⟩, ⟨some a, e2, kp2⟩] pos) ρ M Q := by
  refine ⟨fun X fit => ⟨fun pins s σ H Qv I ⟨r, h0, kk⟩ => ?_⟩⟩
  obtain ⟨f, fd, F, hm, kp, bnd⟩ := (c.fit fit).ex
  refine wpAny_Call_Name_kw (ld_glob I (GlD.gl fit hg) hm ?_ hdb)
  refine PySem.W.callWith_KW0 (h₀ := X.base) I.ok.mod.kin kp (hall _) ?_ (hpl _)
  refine thn ((pk_cons (nm := some b) (kpos := kp1) (pe_all fit e1) (pk_cons (nm := some a) (kpos := kp2) (pe_all fit e2) pk_nil)).run pos pins s σ H (fun vs H1 => ∃ v1 v2, vs = [v1, v2] ∧ upN X.K o [v2, v1] H1 Qv) I
    (all_of h r h0 fun v1 H1 g1 M1 p1 r1 h1 rg1 d => all_of d r1 h1 fun v2 H2 g2 M2 p2 r2 h2 rg2 q => ⟨v1, v2, rfl, [g2, g1], M2, Q, by rw [fit.K]; exact .cons rg2 (.cons (rg1.mono p2) .nil), by rw [fit.K]; exact h2, q, by rw [fit.K]; exact KOk.later (p1.trans p2) kk⟩)) fun ws s1 ⟨zs, H1, I1, rz, v1, v2, ez, q⟩ => ⟨I1.kIn, ?_⟩
  subst ez
  rw [hks]
  obtain ⟨u1, u2, rfl, ra, rb⟩ : ∃ u1 u2, ws = [u1, u2] ∧ RelV v1 u1 ∧ RelV v2 u2 := by
    cases rz with
    | cons a t =>
      cases t with
      | cons b t =>
        cases t
        exact ⟨_, _, rfl, a, b⟩
  exact F.call (args := ⟨[], [(b, u1), (a, u2)]⟩) (us := [u2, u1]) (fit.room.mono hk) I1 (bnd s1 u2 u1) (.cons rb (.cons ra .nil)) q
end
end B
end
section
set_option maxHeartbeats 4000000
/-! D40: an error of the package is made: its __init__ by its base, with super(). -/
namespace B
open PySem PySem.Spec PyProof.Rows L2
end B
end
section
set_option maxHeartbeats 4000000
/-! D41: what always raises an error of the package. -/
namespace B
open PySem PySem.Spec PyProof.Rows L2
/-- the dict of an error: its value is g -/
def ExD (K : PySem.W.Frag) (dx : Addr) (g : G) (H : Hp) : Prop := ∃ v, H dx = some (exd dx [("value", v)]) ∧ RG K H v g
theorem ExD.mono {K : PySem.W.Frag} {H H' : Hp} {dx : Addr} {g : G} (p : Pers H H') (h : ExD K dx g H) : ExD K dx g H' := by
  obtain ⟨v, a, r⟩ := h
  exact ⟨v, p.2.2 _ _ a, r.mono p⟩
/-- the error in the air: of the class C, its value g -/
def upX (K : PySem.W.Frag) (H0 : Hp) (C : Addr) (g : G) (Mf : Sto) : Value → Option Addr → Hp → Prop := fun cls d H => ∃ dx, cls = .ref C ∧ d = some dx ∧ Pers H0 H ∧ Hold K H Mf ∧ ExD K dx g H
theorem upX.later {K : PySem.W.Frag} {H0 H1 H : Hp} {C : Addr} {g : G} {Mf : Sto} {cls : Value} {d : Option Addr} (p : Pers H0 H1) (h : upX K H1 C g Mf cls d H) : upX K H0 C g Mf cls d H := by
  obtain ⟨dx, a, b, c, e⟩ := h
  exact ⟨dx, a, b, p.trans c, e⟩
def tX (X : Cx) (K : PySem.W.Frag) (ρ : GEnv) (M : Sto) (C : Addr) (g : G) (Mf : Sto) (σ : L2.St) (H : Hp) : Prop := REnv K H σ ρ ∧ Hold K H M ∧ Takes X fun cls d _ H' => upX K H C g Mf cls d H'
structure XS (Γ : Gam) (sts : List Stmt) (ρ : GEnv) (M : Sto) (C : Addr) (g : G) (Mf : Sto) : Prop where
  run : ∀ X, Γ.Fit X → PSs X sts fun _ σ H => tX X Γ.K ρ M C g Mf σ H
/-- .. the names as they stand -/
def tXP (X : Cx) (K : PySem.W.Frag) (ρ : GEnv) (M : Sto) (C : Addr) (g : G) (Mf : Sto) (σ : L2.St) (H : Hp) : Prop := REnv K H σ ρ ∧ Hold K H M ∧ Takes X fun cls d σ' H' => upX K H C g Mf cls d H' ∧ REnv K H' σ' ρ
structure XP (Γ : Gam) (e : Expr) (ρ : GEnv) (M : Sto) (C : Addr) (g : G) (Mf : Sto) : Prop where
  run : ∀ X, Γ.Fit X → PE X e fun σ H _ => tXP X Γ.K ρ M C g Mf σ H
section
variable {Γ : Gam} {ρ : GEnv} {M Mf : Sto} {C : Addr} {g : G} {pos p p2 : Pos}
theorem XS.weak {sts : List Stmt} {M' : Sto} (d : XS Γ sts ρ M' C g Mf) (k : ∀ p o, M' p = some o → M p = some o) : XS Γ sts ρ M C g Mf :=
  ⟨fun X f => PSs.mono' (d.run X f) fun E σ H ⟨a, b, c⟩ => ⟨a, b.weak k, c⟩⟩
/-! ### defs that raise -/
abbrev OX := List G → Sto → Addr → G → Prop
structure FnGX (P : Program) (w : World) (K : PySem.W.Frag) (mg : Str → Option Value) (base : Heap) (k : Nat) (f : Addr) (fd : FuncData) (ps : List Str) (o : OX) : Prop where
  len : ∀ gs M C g, o gs M C g → gs.length = ps.length
  run : ∀ (A : Around) (outer : List Env) (s : Shared) (H : Hp) (args : Args) (us : List Value) (vs : List V) (gs : List G) (M : Sto) (C : Addr) (g : G), RoomG k A → Env0 P w K mg base A outer s H → BindsTo s fd args (ps.zip us) → Vals vs us → RGs K H vs gs → Hold K H M → o gs M C g →
    codeAny (model P w) A (.call (.ref f) args) (CR (L2.CX P w) outer P w H s (fun _ _ => False) (upX K H C g M)) s
structure FnX (P : Program) (w : World) (K : PySem.W.Frag) (mg : Str → Option Value) (base : Heap) (k : Nat) (x : Str) (o : OX) : Prop where
  ex : ∃ f fd ps, FnGX P w K mg base k f fd ps o ∧ mg x = some (.ref f) ∧ PySem.W.keepIn K (.ref f) = true ∧ Binds K fd ps []
theorem FnX.fit {X : Cx} (f : Γ.Fit X) {k : Nat} {x : Str} {o : OX} (c : FnX Γ.P Γ.w Γ.K Γ.mg Γ.base k x o) : FnX X.prog X.w X.K X.mg X.base k x o := by
  rw [f.prog, f.w, f.K, f.mg, f.base]
  exact c
variable {P : Program} {w : World} {K : PySem.W.Frag} {mg : Str → Option Value} {base : Heap}
end
end B
end
section
set_option maxHeartbeats 4000000
/-! D42: an error that is caught; lambdas that raise. -/
namespace B
open PySem PySem.Spec PyProof.Rows L2 LamX NdefX
end B
end
section
set_option maxHeartbeats 4000000
/-! D43: lambdas that raise. -/
namespace B
open PySem PySem.Spec PyProof.Rows L2 LamX NdefX
theorem Pers.d {H H' : Hp} (p : Pers H H') : PersD H H' := ⟨p.1, p.2.1⟩
end B
end
section
set_option maxHeartbeats 4000000
/-! D44: heard(lambda: what raises). -/
namespace B
open PySem PySem.Spec PyProof.Rows L2 LamX NdefX
/-- what is told by predicates are objects that never change -/
def ExtG (M : Sto) : Prop := ∀ b φ, M b = some (.gen φ) → ∀ H, φ H → ∃ ψ, H b = some (.ext ψ)
theorem ExtG.put {M : Sto} (h : ExtG M) {a : Addr} {o : MO} (k : ∀ φ, o = .gen φ → ∀ H, φ H → ∃ ψ, H a = some (.ext ψ)) : ExtG (put M a o) := fun b φ e H q => by
  by_cases hb : b = a
  · subst hb
    rw [put_same] at e
    exact k φ (Option.some.inj e) H q
  · rw [put_ne hb] at e
    exact h b φ e H q
theorem ExtG.lst {M : Sto} (h : ExtG M) {a : Addr} {gs : List G} : ExtG (B.put M a (.lst gs)) := h.put fun φ e => nomatch e
end B
end
section
set_option maxHeartbeats 4000000
/-! D45: what is looked at of a caught error; repr of any data. -/
namespace B
open PySem PySem.Spec PyProof.Rows L2
/-- data whose repr is told -/
structure ShA (d : PyData) : Prop where
  sh : d.showable = true
  sz : d.shown.length ≤ sizeLine
  dp : d.depth ≤ 100
  pl : d.plain = true ∨ ∃ ds, d = .dict ds
/-! ### what is asked of an error -/
end B
end
section
set_option maxHeartbeats 4000000
/-! D46: what the head tells of the errors' classes. -/
namespace B
open PySem PySem.Spec PyProof.Rows L2
abbrev FnC : Type := Option (Str × Str × Arguments × FuncBody × Scope × Addr × List Str × Addr)
/-- a function that may close over names -/
def fnC (K : PySem.W.Frag) (p : Str × Option Str) : FnC := match K.lookup (He.fAd K p) with
  | some ⟨_, _, .func fd, _⟩ => some (fd.name, fd.qualname, fd.params, fd.body, fd.scope, fd.globals, fd.closure.map (·.1), fd.builtins)
  | _ => none
def isNone : Value → Bool
  | .none => true
  | _ => false
def codeFile (K : PySem.W.Frag) (file : Str) : Value → Bool
  | .ref c => (match K.lookup c with
    | some ⟨_, _, .fields vs, _⟩ => (match (vs[2]? : Option Value) with
      | some (.str f _) => (file == f)
      | _ => false)
    | _ => false)
  | _ => false
def cellB (K : PySem.W.Frag) (D : Addr) : List (Str × Addr) → Bool
  | [(_, cc)] => (match K.lookup cc with
    | some ⟨_, _, .cell (some (.ref D')), _⟩ => decide (D' = D)
    | _ => false)
  | _ => false
def initB (K : PySem.W.Frag) (file : Str) (p : Str × Option Str) (q : Str) (D : Addr) : Bool := match K.lookup (He.fAd K p) with
  | some ⟨_, _, .func fd, _⟩ => PySem.W.codeIn K fd.code q && (isNone fd.defaults && (codeFile K file fd.code && cellB K D fd.closure))
  | _ => false
def oexB (K : PySem.W.Frag) (C : Addr) : Bool := match K.lookup C with
  | some ⟨.type t, _, .cls cd, sl⟩ => (match cd.mro, sl.toList with
    | .ref C' :: bm, [_, _, _, _, some (.builtin n), _] => decide (t = "type") && (decide (C' = C) && (decide (n = "ValueError.__new__") && (!cd.hasDel && (cd.hasDict && PySem.HandSPX.refsVE bm))))
    | _, _ => false)
  | _ => false
def eqV (a : Option Bool) (b : Bool) : Bool := decide (a = some b)
def clsB (K : PySem.W.Frag) (D fI C : Addr) : Bool :=
  oexB K C && (He.eqO (PySem.W.findIn K (.ref C) "__setattr__") (some (some (.builtin "object.__setattr__"))) && (eqV (PySem.W.subIn K (.ref C) (.type "BaseException")) true && (decide (PySem.W.typeIn K (.ref C) = some (.type "type")) && (PySem.W.keepIn K (.ref C) &&
  (He.eqO (PySem.W.findIn K (.ref C) "__init__") (some (some (.ref fI))) && (decide (PySem.W.typeIn K (.ref fI) = some (.type "function")) && (He.eqO (PySem.W.ks_superIn K C D "__init__") (some (some (.builtin "ValueError.__init__"))) && (eqV (PySem.W.subIn K (.ref C) (.type "ValueError")) true && (eqV (PySem.W.mroIn K C (.ref D)) true &&
  (He.eqO (PySem.W.findIn K (.ref C) "value") (some none) && (He.eqO (PySem.W.findIn K (.ref C) "__getattribute__") (some (some (.builtin "BaseException.__getattribute__"))) && (He.eqO (PySem.W.findIn K (.ref C) "__getattr__") (some none) && (He.eqO (PySem.W.findIn K (.ref C) "__class__") (some (some (.builtin "object.__class__"))) &&
  (He.eqO (PySem.W.specialIn K (.builtin "object.__class__") "__get__") (some (some (.builtin "getset_descriptor.__get__"))) && (eqV (PySem.W.takesIn K (.builtin "object.__class__")) true && (eqV (PySem.W.mroIn K C (.type "object")) true && eqV (PySem.W.exmOne K (.ref C) (.ref D)) true))))))))))))))))
/-- the errors' names, their base's -/
structure ErrN where
  base : Str
  names : List Str
  file : Str
def errB (e : ErrN) (K : PySem.W.Frag) : Bool :=
  initB K e.file (e.base, some "__init__") (e.base ++ ".__init__") (He.ga K e.base) && ((PySem.W.clsIn K (He.ga K e.base)).isSome && (He.eqO (PySem.W.nsIn K cStatics "thirdparty.any") (some none) && (He.eqO (PySem.W.nsIn K mainGlobals e.base) (some (some (.ref (He.ga K e.base)))) &&
  ((e.names.all fun x => He.eqO (PySem.W.nsIn K mainGlobals x) (some (some (.ref (He.ga K x)))) && clsB K (He.ga K e.base) (He.fAd K (e.base, some "__init__")) (He.ga K x)) &&
   e.names.all fun x => e.names.all fun y => eqV (PySem.W.kitOne K (.ref (He.ga K x)) (.ref (He.ga K y))) (x == y)))))
def asY (g : Addr → Option Obj) (n : Nat) : List Addr := cStatics :: He.asD g n
structure SaysY (fa : List He.Fa) (fn : List He.DefD) (ts : List He.Tab) (tf : List He.Defn) (ex : PySem.W.Frag → Bool) (iv : FnC) (e : ErrN) (w : World) (h : Heap) (K : PySem.W.Frag) : Prop where
  x : He.SaysX fa fn ts tf ex w h K
  i : fnC K (e.base, some "__init__") = iv
  b : errB e K = true
abbrev AlY : Type := He.AlX × FnC × Bool
def obsY (n : Nat) (fa : List He.Fa) (fn : List He.DefD) (ts : List He.Tab) (tf : List He.Defn) (ex : PySem.W.Frag → Bool) (e : ErrN) (g : Addr → Option Obj) : AlY :=
  ((He.obsT fa fn ts (He.frT g (asY g n)), ex (He.frT g (asY g n)) && He.tabsB g tf (He.frT g (asY g n))), fnC (He.frT g (asY g n)) (e.base, some "__init__"), errB e (He.frT g (asY g n)))
theorem saysY_of {n : Nat} {fa : List He.Fa} {fn : List He.DefD} {ts : List He.Tab} {tf : List He.Defn} {ex : PySem.W.Frag → Bool} {iv : FnC} {e : ErrN} {w : World} {h : Heap} (q : obsY n fa fn ts tf ex e h.get? = (He.valX fn ts w, iv, true)) : SaysY fa fn ts tf ex iv e w h (He.frT h.get? (asY h.get? n)) := by
  have e0 := congrArg (fun z : AlY => z.1) q
  have e1 : He.obsT fa fn ts (He.frT h.get? (asY h.get? n)) = He.valT fn ts w := congrArg (fun z : He.AlX => z.1) e0
  have e2 : (ex (He.frT h.get? (asY h.get? n)) && He.tabsB h.get? tf (He.frT h.get? (asY h.get? n))) = true := congrArg (fun z : He.AlX => z.2) e0
  have e3 : fnC (He.frT h.get? (asY h.get? n)) (e.base, some "__init__") = iv := congrArg (fun z : AlY => z.2.1) q
  have e4 : errB e (He.frT h.get? (asY h.get? n)) = true := congrArg (fun z : AlY => z.2.2) q
  obtain ⟨h1, h2⟩ := He.ba e2
  have key : ∀ p ∈ tf, PySem.W.codeHdIn (He.frT h.get? (asY h.get? n)) (He.cT (He.frT h.get? (asY h.get? n)) p).1 (He.cT (He.frT h.get? (asY h.get? n)) p).2 = true ∧ ∃ o, h.get? (He.cT (He.frT h.get? (asY h.get? n)) p).2 = some o ∧ He.emptyTab o = true := fun p hp => by
    obtain ⟨h3, h4⟩ := He.ba (List.all_eq_true.mp h2 p hp)
    refine ⟨h3, ?_⟩
    cases q : h.get? (He.cT (He.frT h.get? (asY h.get? n)) p).2 with
    | none =>
      rw [q] at h4
      cases h4
    | some o =>
      rw [q] at h4
      exact ⟨o, rfl, h4⟩
  exact ⟨⟨e1, h1, fun p hp => (key p hp).1, fun p hp => by
    obtain ⟨_, o, q, z⟩ := key p hp
    exact He.frT_none q z, fun p hp => by
    obtain ⟨_, o, q, z⟩ := key p hp
    rw [q, He.emptyTab_eq z]⟩, e3, e4⟩
def hookY (n : Nat) (fa : List He.Fa) (fn : List He.DefD) (ts : List He.Tab) (tf : List He.Defn) (ex : PySem.W.Frag → Bool) (iv : FnC) (e : ErrN) : PySem.W.Hook where
  α := AlY
  obs := fun s => obsY n fa fn ts tf ex e s.heap.get?
  val := fun w => (He.valX fn ts w, iv, true)
  says := fun w h => ∃ K : PySem.W.Frag, K.In h ∧ SaysY fa fn ts tf ex iv e w h K
  of := fun _ _ e => ⟨_, He.frT_in, saysY_of e⟩
  keeps := fun _ _ _ ⟨K, hK, c⟩ k => ⟨K, PySem.W.Frag.In.keeps hK k, ⟨⟨c.x.t, c.x.more, c.x.hd, c.x.out, fun p hp => k _ _ (c.x.empty p hp)⟩, c.i, c.b⟩⟩
theorem obsY_eq {n : Nat} {fa : List He.Fa} {fn : List He.DefD} {ts : List He.Tab} {tf : List He.Defn} {ex : PySem.W.Frag → Bool} {iv : FnC} {e : ErrN} {g : Addr → Option Obj} {s : Shared} (h : ∀ a, g a = s.heap.get? a) : obsY n fa fn ts tf ex e g = (hookY n fa fn ts tf ex iv e).obs s := by
  have e : g = s.heap.get? := funext h
  rw [e] <;> rfl
/-- a class's statement: its i-th def -/
def clsSt (st : Stmt) (i : Nat) : Stmt := match st with
  | .ClassDef _ _ _ body _ _ _ _ _ _ _ => body.getD i (.Pass ⟨0, 0, 0, 0⟩)
  | _ => .Pass ⟨0, 0, 0, 0⟩
end B
end
section
set_option maxHeartbeats 4000000
/-! D47: small forms: lists of anything walked, tables among the store. -/
namespace B
open PySem PySem.Spec PyProof.Rows L2
/-- tables of code objects among the store -/
def TabsIn (T : List (Addr × Str)) (M : Sto) : Prop := ∀ p ∈ T, M p.1 = some (.tab p.2)
def NoTab (o : Option MO) : Prop := ∀ q, o ≠ some (.tab q)
theorem TabsIn.put {T : List (Addr × Str)} {M : Sto} {a : Addr} {o : MO} (h : TabsIn T M) (k : NoTab (M a)) : TabsIn T (put M a o) := fun p hp => by
  rw [put_ne (fun z => k p.2 (by rw [← z]; exact h p hp))]
  exact h p hp
theorem TabsIn.new {T : List (Addr × Str)} {M : Sto} {a : Addr} {o : MO} (h : TabsIn T M) (k : M a = none) : TabsIn T (B.put M a o) := h.put fun q e => by rw [k] at e; cases e
theorem TabsIn.at {T : List (Addr × Str)} {M : Sto} {a : Addr} {q : Str} (h : TabsIn T M) (m : (a, q) ∈ T) : M a = some (.tab q) := h _ m
theorem noTab_lst {M : Sto} {a : Addr} {gs : List G} (h : M a = some (.lst gs)) : NoTab (M a) := fun q e => by rw [h] at e; cases e
end B
end
section
set_option maxHeartbeats 4000000
/-! D51: the law's promise with any number of tables; its start. -/
namespace B
open PySem PySem.Spec PyProof.Rows L2 LamX
theorem look_mem {T : List (Addr × Str)} {b : Addr} {q : Str} (h : T.lookup b = some q) : (b, q) ∈ T := by
  induction T with
  | nil => cases h
  | cons p T ih =>
    obtain ⟨c, r⟩ := p
    rw [List.lookup_cons] at h
    by_cases e : b = c
    · subst e
      rw [beq_self_eq_true] at h
      cases h
      exact List.mem_cons_self
    · rw [beq_eq_false_iff_ne.mpr e] at h
      exact List.mem_cons_of_mem _ (ih h)
theorem look_of {T : List (Addr × Str)} {b : Addr} {q : Str} (nd : (T.map (·.1)).Nodup) (h : (b, q) ∈ T) : T.lookup b = some q := by
  induction T with
  | nil => cases h
  | cons p T ih =>
    obtain ⟨c, r⟩ := p
    rw [List.map_cons, List.nodup_cons] at nd
    rw [List.lookup_cons]
    rcases List.mem_cons.mp h with e | h
    · cases e
      rw [beq_self_eq_true]
    · have : b ≠ c := fun e => nd.1 (by rw [← e]; exact List.mem_map_of_mem (f := (·.1)) h)
      rw [beq_eq_false_iff_ne.mpr this]
      exact ih nd.2 h
def stT (T : List (Addr × Str)) (a : Addr) (o : Option MO) : Sto := fun b => match T.lookup b with
  | some q => some (.tab q)
  | none => if b = a then o else none
theorem stT_tab {T : List (Addr × Str)} {a : Addr} {o : Option MO} (nd : (T.map (·.1)).Nodup) : TabsIn T (stT T a o) := fun p hp => by
  unfold stT
  rw [look_of nd (show (p.1, p.2) ∈ T from hp)]
theorem stT_ng {T : List (Addr × Str)} {a : Addr} {o : Option MO} (h : ∀ φ, o ≠ some (.gen φ)) : NoGen (stT T a o) := fun b φ e => by
  unfold stT at e
  split at e
  · cases e
  · split at e
    · exact h φ e
    · cases e
def oLawT (K : PySem.W.Frag) (T : List (Addr × Str)) : ON := fun gs M Q => ∃ (g : G) (ns : List Int), gs = [g] ∧ (∀ M', Ext M M' → ScrV K M' g ns) ∧ TabsIn T M ∧ NoGen M ∧ Q (.d (.bool true)) M
theorem tab_none (q : Str) {H : Hp} {p : Addr} (e : H p = some (.tbl #[])) : LamX.TabS H p q :=
  ⟨#[], e, trivial, fun pos cv hc => nomatch (show (none : Option Value) = some cv from hc)⟩
theorem law_startT {K : PySem.W.Frag} {H : Hp} {a : Addr} {ns : List Int} {T : List (Addr × Str)} (nd : (T.map (·.1)).Nodup) (h : ∀ p ∈ T, H p.1 = some (.tbl #[])) (hS : SqL K H a (ns.map V.int)) :
    upN K (oLawT K T) [.ref a] H fun v _ => v = .bl true := by
  have fin : ∀ (g : G) (M : Sto), RG K H (.ref a) g → Hold K H M → (∀ M', Ext M M' → ScrV K M' g ns) → TabsIn T M → NoGen M → upN K (oLawT K T) [.ref a] H fun v _ => v = .bl true := fun g M rg hM hs hT hN =>
    ⟨[g], M, fun g' _ => g' = .d (.bool true), .cons rg .nil, hM, ⟨g, ns, rfl, hs, hT, hN, rfl⟩, fun v H' g' M' p hh r e => by
      subst e
      cases r
      rfl⟩
  have hold : ∀ o : Option MO, (∀ m, o = some m → MOk K H a m) → Hold K H (stT T a o) := fun o ho b m e => by
    unfold stT at e
    split at e
    · rename_i q hq
      cases e
      exact tab_none _ (h _ (look_mem hq))
    · split at e
      · rename_i _ b3
        rw [b3]
        exact ho m e
      · cases e
  rcases hS with (hS | ⟨od, hS⟩) | hS
  · refine fin (.op (.ref a)) (stT T a (some (.lst ((ns.map PyData.int).map G.d)))) rfl (hold _ fun m e => ?_) (fun M' hE => .d (.l (hE a _ ?_))) (stT_tab nd) (stT_ng fun φ z => nomatch z)
    · cases e
      exact ⟨_, hS, RGs.of_data (RpAll.of_ints ns)⟩
    · unfold stT
      cases hl : T.lookup a with
      | some q =>
        have := h _ (look_mem hl)
        rw [hS] at this
        cases this
      | none => exact if_pos rfl
  · exact fin (.d (.list (ns.map PyData.int))) (stT T a none) (rgd (Rp.lst hS (RpAll.of_ints ns))) (hold _ fun m e => nomatch e) (fun M' hE => .d (.d _)) (stT_tab nd) (stT_ng fun φ z => nomatch z)
  · exact fin (.op (.ref a)) (stT T a none) rfl (hold _ fun m e => nomatch e) (fun M' hE => .k fun H' => .inr hS) (stT_tab nd) (stT_ng fun φ z => nomatch z)
end B
end
section
set_option maxHeartbeats 4000000
/-! D48: statements of a def's own frame: try. -/
namespace B
open PySem PySem.Spec PyProof.Rows L2
end B
end
section
set_option maxHeartbeats 4000000
/-! D49: lists of errors that were heard. -/
namespace B
open PySem PySem.Spec PyProof.Rows L2 LamX NdefX
end B
end
section
set_option maxHeartbeats 4000000
/-! D50: tuple * int, list * int. -/
namespace B
open PySem PySem.Spec PyProof.Rows L2
theorem tup_mul1 (l : Addr) (items : Array Value) (n : Nat) (dd : Option Addr) (sl : Array (Option Value)) (u : Tok) :
    Meets (Builtin.«tuple.__mul__» ⟨[.ref l, .int 1 u], []⟩) (fun _ R s => s.heap.get? l = some { cls := .type "tuple", dict := dd, data := .seq items n, slots := sl } ∧ R (.ok (.ret (Value.ref l))) s) :=
  .of_wp fun prog w A R s h => by
    obtain ⟨hp, g, d, tk, os⟩ := s
    obtain ⟨hl, h⟩ := h
    have f1 := AutoSeq1.idx_int
    wp_walk using wpAny_loadPart' hl
    exact ⟨_, rfl, h⟩
theorem tup_mul0 (l : Addr) (items : Array Value) (n : Nat) (dd : Option Addr) (sl : Array (Option Value)) (u : Tok) (hne : items.isEmpty = false) :
    Meets (Builtin.«tuple.__mul__» ⟨[.ref l, .int 0 u], []⟩) (fun _ R s => s.heap.get? l = some { cls := .type "tuple", dict := dd, data := .seq items n, slots := sl } ∧ R (.ok (.ret (Value.ref s.heap.objs.size))) { s with heap := s.heap.push { cls := Value.type "tuple", data := Data.seq #[] }, toks := s.toks }) :=
  .of_wp fun prog w A R s h => by
    obtain ⟨hp, g, d, tk, os⟩ := s
    obtain ⟨hl, h⟩ := h
    have f1 := AutoSeq1.idx_int
    have c1 : (items.isEmpty || (0 : Int) == 1) = false := by rw [hne]; rfl
    wp_walk using wpAny_loadPart' hl
    repeat (first
      | (refine wpAny_ite_false (decide_eq_false (by rw [c1]; exact Bool.false_ne_true)) ?_; wp_walk using wpAny_loadPart' hl))
    exact ⟨_, rfl, h⟩
/-- a tuple times an int -/
def oRepT : O2 := fun x y M Q => ∃ (ds : List PyData) (k : Nat), x = .d (.tuple ds) ∧ y = .d (.int ((k : Nat) : Int)) ∧ ds ≠ [] ∧ k ≤ 1000 ∧ ds.length ≤ 1000 ∧ Q (.d (.tuple (List.replicate k ds).flatten)) M
theorem rep_flat {K : PySem.W.Frag} {H : Hp} {vs : List V} {ds : List PyData} (r : RpAll K H vs ds) : ∀ k : Nat, RpAll K H (List.replicate k vs).flatten (List.replicate k ds).flatten
  | 0 => .nil
  | k + 1 => by
    rw [List.replicate_succ, List.replicate_succ, List.flatten_cons, List.flatten_cons]
    exact r.append (rep_flat r k)
section
variable {Γ : Gam}
theorem o_repT : Op2 Γ (binaryOp .Mult) oRepT := fun X fit pins s σ H vx vy u1 u2 Qv I rx ry ⟨x, y, M, Q, r1, r2, hm, ⟨ds, k, e1, e2, hne, hk, hz, q⟩, kk⟩ => by
  subst e1 e2
  obtain ⟨l, xs, rfl, hT, ra⟩ := Rp.sqt r1
  cases r2
  have hx0 : xs ≠ [] := fun z => by
    subst z
    cases ra
    exact hne rfl
  have hxl : xs.length ≤ 1000 := by rw [ra.length]; exact hz
  by_cases h2 : 2 ≤ k
  · refine op_repT pins s σ H _ _ _ _ Qv I rx ry ⟨l, _, xs, rfl, rfl, .inl (.inl hT), hx0, by omega, by omega, hxl, fun p np => ?_⟩
    have pn : Pers H (upd H p (.tup (List.replicate ((k : Nat) : Int).toNat xs).flatten)) := .new np
    exact kk _ _ _ M pn (hm.keep (new_keeps np)) (rgd (Rp.tup upd_same ((rep_flat ra k).mono pn))) q
  · cases rx
    obtain ⟨t, rfl⟩ := ry
    obtain ⟨its, r, ⟨⟨cls, dd, data, sl⟩, ho, hc, n, hd⟩, hs⟩ := I.tuple (.inl (.inl hT))
    simp only at hc hd
    subst hc hd
    have hi : its.toArray.isEmpty = false := by
      cases its with
      | nil =>
        cases r
        exact absurd rfl hx0
      | cons a b => rfl
    have hk2 : k = 0 ∨ k = 1 := by omega
    clear h2
    rcases hk2 with rfl | rfl
    · 
      refine wpAny_binaryOp_repeat_ref (T := "tuple") (U := "int") (by decide) ⟨_, ho, rfl⟩ (fun s' => typeIs_int s' 0 t) noFill_tuple_mul F.fills_int_mul F.slot_int_rmul repeat_tuple F.slot_int_index.lookup
        (call_meets F.slot_int_rmul (typeIs_int s 0 t) F.entry_int_rmul (F.args_int_rmul_2 _ _) (int_rmul_tuple 0 t l its.toArray n dd sl)
          ⟨ho, rfl, ⟨_, ho, rfl⟩, call_meets F.slot_tuple_mul ⟨_, ho, rfl⟩ F.entry_tuple_mul (F.args_tuple_mul_2 _ _) (tup_mul0 l its.toArray n dd sl t hi) ⟨ho, ?_⟩⟩)
      have np := I.hok.fresh (Nat.le_refl s.heap.objs.size)
      have pn : Pers H (upd H s.heap.objs.size (.tup [])) := .new np
      refine ⟨.ref s.heap.objs.size, _, I.laid (t' := s.toks) (o := .tup []) (fun b ob q => Heap.get?_push_of_some _ q) (Nat.le_refl _) ⟨Nat.zero_le _, [], .nil, IsTup.new _ _⟩, rfl, kk _ _ _ M pn (hm.keep (new_keeps np)) (rgd (Rp.tup upd_same .nil)) q⟩
    · 
      refine wpAny_binaryOp_repeat_ref (T := "tuple") (U := "int") (by decide) ⟨_, ho, rfl⟩ (fun s' => typeIs_int s' 1 t) noFill_tuple_mul F.fills_int_mul F.slot_int_rmul repeat_tuple F.slot_int_index.lookup
        (call_meets F.slot_int_rmul (typeIs_int s 1 t) F.entry_int_rmul (F.args_int_rmul_2 _ _) (int_rmul_tuple 1 t l its.toArray n dd sl)
          ⟨ho, rfl, ⟨_, ho, rfl⟩, call_meets F.slot_tuple_mul ⟨_, ho, rfl⟩ F.entry_tuple_mul (F.args_tuple_mul_2 _ _) (tup_mul1 l its.toArray n dd sl t) ⟨ho, ?_⟩⟩)
      have e : (List.replicate 1 ds).flatten = ds := by simp
      rw [e] at q
      exact ⟨.ref l, H, I, rfl, kk.here hm (rgd (Rp.tup hT ra)) q⟩
end
end B
end
section
set_option maxHeartbeats 4000000
/-! D52: heard(lambda: what returns); what is forgotten of the store. -/
namespace B
open PySem PySem.Spec PyProof.Rows L2 LamX NdefX
theorem Hold.less {K : PySem.W.Frag} {H : Hp} {M M0 : Sto} (h : Hold K H M) (e : Ext M0 M) : Hold K H M0 := fun p o q => h p o (e p o q)
/-- what is known of more is forgotten -/
theorem ds_drop {Γ : Gam} {ρ : GEnv} {M M0 : Sto} {D : DEnds} {sts : List Stmt} (e : Ext M0 M) (h : DS Γ sts ρ M0 D) : DS Γ sts ρ M D :=
  ⟨fun X f => PSs.mono' (h.run X f) fun E σ H ⟨a, b, c⟩ => ⟨a, b.less e, c⟩⟩
end B
end
section
set_option maxHeartbeats 4000000
/-! D60: instances with slots, once they are made. -/
namespace B
open PySem PySem.Spec PyProof.Rows L2
section
variable {X : Cx} {pins : List (Addr × Obj)} {σ : L2.St} {H : Hp} {s : Shared} {a C dx p : Addr} {vs : List (Option V)} {f m : Str} {i : Nat} {v : V} {A : Around} {E : Value → Shared → Prop}
/-- a tracked object is told otherwise -/
theorem inv_as {u u' : HO} (I : Inv X pins σ H s) (e : H a = some u) (n1 : ∀ xs, u ≠ .tup xs) (n2 : ∀ o x, u ≠ .frz o x) (n3 : ∀ ps, u ≠ .tbl ps) (n4 : ∀ y, u ≠ .own y) (new : ObjOk X.prog X.w (upd H a u') s.heap a u') : Inv X pins σ (upd H a u') s := by
  have nn : ∀ b, H b = none → b ≠ a := fun b z => Ne.symm (ne_of_none e z)
  have same : ∀ b w, H b = some w → w ≠ u → upd H a u' b = some w := fun b w q z => by
    rw [upd_ne (fun y => by rw [y, e] at q; exact z (Option.some.inj q).symm)]
    exact q
  have J : Inv X pins σ (upd H a u') { s with heap := s.heap, toks := s.toks } := by
    refine I.step (g' := s.gens) (d' := s.drawn) (ch := []) (fun _ z => nomatch z) (fun b o hb _ _ q z => q) (fun b o hb _ _ q z => ⟨o.slots, q⟩)
      (fun b o _ _ z => by rw [upd_ne (nn b z)]; exact z) (fun b o _ q => ⟨o, q⟩) (fun b xs q => same b _ q (fun z => n1 xs z.symm)) (fun b o w q => same b _ q (fun z => n2 o w z.symm))
      (fun b ps q => ⟨#[], by rw [same b _ q (fun z => n3 ps z.symm)]; simp⟩) (fun m z => z) (fun b w q => ?_) I.bare
    by_cases hb : b = a
    · subst hb
      rw [upd_same] at q
      cases q
      exact new
    · rw [upd_ne hb] at q
      exact (I.hok b w q).stay (fun c v _ r => r) (fun c r => same c _ r (fun z => n4 b z.symm)) fun c xs r => same c _ r (fun z => n1 xs z.symm)
  exact J
/-- the dict of such an instance: empty, and nobody writes it -/
def XdO (dx : Addr) : HO := .ext fun h => ∃ mA, h.Ns1 dx mA ∧ ∀ f, mA f = none
theorem xdO_ok {P : Program} {w : World} {H : Hp} {h : Heap} {dx : Addr} (x : ∃ mA, h.Ns1 dx mA ∧ ∀ f, mA f = none) : ObjOk P w H h dx (XdO dx) :=
  ⟨x, (by obtain ⟨mA, ⟨od, es, ep, e, c⟩, r⟩ := x; exact ⟨od, e⟩), fun h1 h2 ⟨mA, ⟨od, es, ep, e, c⟩, r⟩ k => ⟨mA, ⟨od, es, ep, k _ e, c⟩, r⟩⟩
/-- an instance of C at a, its slots -/
structure FI (H : Hp) (a C dx : Addr) (vs : List (Option V)) : Prop where
  o : H a = some (SlX.SlO a C dx vs)
  d : H dx = some (XdO dx)
  ne : dx ≠ a
theorem FI.keep {H H' : Hp} {a C dx : Addr} {vs : List (Option V)} (h : FI H a C dx vs) (p : Pers H H') : FI H' a C dx vs := ⟨p.2.2 _ _ h.o, p.2.2 _ _ h.d, h.ne⟩
/-- behind a store, and at the start -/
theorem fi_of (I : Inv X pins σ H s) (h : SlX.Slt H a C dx vs) (hx : H dx = some (.xd [])) (ho : H a = some (SlX.SlO a C dx vs)) : Inv X pins σ (upd H dx (XdO dx)) s ∧ FI (upd H dx (XdO dx)) a C dx vs := by
  obtain ⟨ne, sl, mA, e, r, n, q⟩ := SlX.slt_at I h
  refine ⟨inv_as I hx (fun _ z => nomatch z) (fun _ _ z => nomatch z) (fun _ z => nomatch z) (fun _ z => nomatch z) (xdO_ok ⟨mA, n, q⟩), ?_, upd_same, ne⟩
  rw [upd_ne (Ne.symm ne)]
  exact ho
theorem fi_inst (I : Inv X pins σ H s) (h : FI H a C dx vs) : ∃ (sl : Array (Option Value)) (od : Obj), SlX.SlR vs sl ∧ PySem.W.InstAt s.heap a { PySem.W.instObj C dx with slots := sl } C (some od) ∧ ∀ f, PySem.W.lookIn f od = some none := by
  obtain ⟨⟨sl, e, r⟩, _, _⟩ := I.hok a _ h.o
  obtain ⟨⟨mA, n, q⟩, _, _⟩ := I.hok dx _ h.d
  obtain ⟨od, ho, hl⟩ := lookIn_ns n
  exact ⟨sl, od, r, ⟨e, rfl, rfl, ho⟩, fun f => by rw [hl f, q f]⟩
theorem fi_get {b : Bool} {Q : Value → Shared → Prop} (I : Inv X pins σ H s) (h : FI H a C dx vs) (c : SlX.SCls X.K C) (t : SlX.Slot1 X.K C f p i) (l : vs[i]? = some (some v)) (q : ∀ u s', Inv X pins σ H s' → RelV v u → Q u s') :
    wpAny (model X.prog X.w) A (getAttr (.ref a) f b) Q E s := by
  obtain ⟨sl, od, r, J, _⟩ := fi_inst I h
  obtain ⟨u, eu, ru⟩ := r i v l
  obtain ⟨m, F⟩ := I.fr
  refine PySem.W.get_slot F I.mod.kin J (c.get f) c.ic t.at_ t.get t.tk t.ix (v := u) ?_ (handed_of ru) (q u _ (I.tok _) ru)
  show (sl[i]?).join = some u
  rw [eu]
  rfl
theorem fi_meth {g : Addr} {pl : Sem Bool} {Q : Value × List Value → Shared → Prop} (I : Inv X pins σ H s) (h : FI H a C dx vs) (c : SlX.SCls X.K C) (k : Meth X.K C m g) (q : Q (.ref g, [.ref a]) s) :
    wpAny (model X.prog X.w) A (getMethod (.ref a) m pl) Q E s := by
  obtain ⟨sl, od, r, J, hl⟩ := fi_inst I h
  refine PySem.W.method_fn I.kIn J (PySem.W.plainGet_of (c.get m)).1 (PySem.W.plainGet_of (c.get m)).2 k.at_ (beq_iff_eq.mp k.fn) ?_ q
  show (PySem.W.lookIn m od).map (·.isSome) = some false
  rw [hl m]
  rfl
/-- a store: the instance is told anew -/
theorem fi_set {y : V} {u : Value} {Q : Unit → Shared → Prop} (I : Inv X pins σ H s) (h : FI H a C dx vs) (c : SlX.SCls X.K C) (t : SlX.Slot1 X.K C f p i) (ry : RelV y u) (q : ∀ s', Inv X pins σ (upd H a (SlX.SlO a C dx (SlX.putS i y vs))) s' → FI (upd H a (SlX.SlO a C dx (SlX.putS i y vs))) a C dx (SlX.putS i y vs) → Q () s') :
    wpAny (model X.prog X.w) A (setAttr (.ref a) f u) Q E s := by
  obtain ⟨⟨mA, n, qn⟩, _, _⟩ := I.hok dx _ h.d
  have J : Inv X pins σ (upd H dx (.xd [])) s := inv_as I h.d (fun _ z => by unfold XdO at z; cases z) (fun _ _ z => by unfold XdO at z; cases z) (fun _ z => by unfold XdO at z; cases z) (fun _ z => by unfold XdO at z; cases z) ⟨mA, n, fun f => by rw [qn f]; exact True.intro⟩
  have hs : SlX.Slt (upd H dx (.xd [])) a C dx vs := .inr ⟨by rw [upd_ne (Ne.symm h.ne)]; exact h.o, upd_same⟩
  refine SlX.setslot_ok J hs c t ry fun s' I' => ?_
  have e1 : SlX.slH (upd H dx (.xd [])) a C dx (SlX.putS i y vs) dx = some (.xd []) := by
    unfold SlX.slH
    rw [upd_ne h.ne, upd_same]
  have e2 : SlX.slH (upd H dx (.xd [])) a C dx (SlX.putS i y vs) a = some (SlX.SlO a C dx (SlX.putS i y vs)) := by
    unfold SlX.slH
    exact upd_same
  obtain ⟨J2, F2⟩ := fi_of I' (.inr ⟨e2, e1⟩) e1 e2
  have eH : upd (SlX.slH (upd H dx (.xd [])) a C dx (SlX.putS i y vs)) dx (XdO dx) = upd H a (SlX.SlO a C dx (SlX.putS i y vs)) := by
    funext b
    by_cases h1 : b = dx
    · rw [h1, upd_same, upd_ne h.ne, h.d]
    · rw [upd_ne h1]
      unfold SlX.slH
      by_cases h2 : b = a
      · rw [h2, upd_same, upd_same]
      · rw [upd_ne h2, upd_ne h1, upd_ne h1, upd_ne h2]
  rw [eH] at J2 F2
  exact q s' J2 F2
/-- an instance that was just made -/
theorem fi_new (I : Inv X pins σ H s) (h1 : H a = some (.ins C dx [])) : Inv X pins σ (upd (upd H a (SlX.SlO a C dx [])) dx (XdO dx)) s ∧ FI (upd (upd H a (SlX.SlO a C dx [])) dx (XdO dx)) a C dx [] := by
  obtain ⟨ne, sl, mA, e, r, n, q⟩ := SlX.slt_at I (.inl ⟨h1, rfl⟩)
  have J : Inv X pins σ (SlX.slH H a C dx []) { s with heap := s.heap, toks := s.toks } := SlX.inv_slot (vs' := []) I (.inl ⟨h1, rfl⟩) (fun b o _ _ q => q) (fun m z => z) e (SlX.SlR.nil _)
  have e1 : SlX.slH H a C dx [] dx = some (.xd []) := by
    unfold SlX.slH
    rw [upd_ne ne, upd_same]
  have e2 : SlX.slH H a C dx [] a = some (SlX.SlO a C dx []) := by
    unfold SlX.slH
    exact upd_same
  obtain ⟨J2, F2⟩ := fi_of J (.inr ⟨e2, e1⟩) e1 e2
  have eH : upd (SlX.slH H a C dx []) dx (XdO dx) = upd (upd H a (SlX.SlO a C dx [])) dx (XdO dx) := by
    funext b
    by_cases h1 : b = dx
    · rw [h1, upd_same, upd_same]
    · rw [upd_ne h1, upd_ne h1]
      unfold SlX.slH
      by_cases h2 : b = a
      · rw [h2, upd_same, upd_same]
      · rw [upd_ne h2, upd_ne h1, upd_ne h2]
  rw [eH] at J2 F2
  exact ⟨J2, F2⟩
end
end B
end
section
set_option maxHeartbeats 4000000
/-! D61: instances with slots: read, their defs called. -/
namespace B
open PySem PySem.Spec PyProof.Rows L2
/-- the slots, as they are told -/
def SR (K : PySem.W.Frag) (H : Hp) (ws : List (Option V)) (gs : List (Option G)) : Prop := ∀ (i : Nat) (g : G), gs[i]? = some (some g) → ∃ v, ws[i]? = some (some v) ∧ RG K H v g
theorem SR.mono {K : PySem.W.Frag} {H H' : Hp} {ws : List (Option V)} {gs : List (Option G)} (p : Pers H H') (h : SR K H ws gs) : SR K H' ws gs := fun i g e => by
  obtain ⟨v, e1, r⟩ := h i g e
  exact ⟨v, e1, r.mono p⟩
theorem SR.monoD {K : PySem.W.Frag} {H H' : Hp} {ws : List (Option V)} {gs : List (Option G)} (p : PersD H H') (h : SR K H ws gs) : SR K H' ws gs := fun i g e => by
  obtain ⟨v, e1, r⟩ := h i g e
  exact ⟨v, e1, r.monoD p⟩
theorem SR.put {K : PySem.W.Frag} {H : Hp} {ws : List (Option V)} {gs : List (Option G)} {v : V} {g : G} (h : SR K H ws gs) (i : Nat) (r : RG K H v g) : SR K H (SlX.putS i v ws) (gs.set i (some g)) := fun j g' e => by
  by_cases hj : i = j
  · subst hj
    have hl : i < gs.length := by
      have := (List.getElem?_eq_some_iff.mp e).1
      rw [List.length_set] at this
      exact this
    rw [List.getElem?_set_self hl] at e
    cases e
    exact ⟨v, SlX.putS_get i v ws, r⟩
  · rw [List.getElem?_set_ne hj] at e
    obtain ⟨v', e1, r'⟩ := h j g' e
    exact ⟨v', (SlX.putS_ne (Ne.symm hj)).mpr e1, r'⟩
/-- an instance of C stands at a -/
def InsG (K : PySem.W.Frag) (a C : Addr) (gs : List (Option G)) : Hp → Prop := fun H => ∃ dx ws, FI H a C dx ws ∧ SR K H ws gs
theorem insG_mok {K : PySem.W.Frag} {H : Hp} {a C dx : Addr} {ws : List (Option V)} {gs : List (Option G)} (h : FI H a C dx ws) (r : SR K H ws gs) : MOk K H a (.gen (InsG K a C gs)) :=
  ⟨⟨dx, ws, h, r⟩, ⟨_, h.o, trivial⟩, fun H1 H2 p e ⟨d, w, a1, a2⟩ => ⟨d, w, a1.keep p, a2.mono p⟩⟩
section
variable {X : Cx} {o e : Expr} {f : Str} {pos pos' : Pos} {ta : TE}
theorem pe_fi (he : PE X e ta) (hb : attributeBase e f X.env (eval e X.env) = eval e X.env) : PE X (.Attribute e f pos) (fun σ H Q => ta σ H fun x H1 => ∃ a C dx p vs i v, x = .ref a ∧ FI H1 a C dx vs ∧ SlX.SCls X.K C ∧ SlX.Slot1 X.K C f p i ∧ vs[i]? = some (some v) ∧ Q v H1) := by
  refine ⟨fun pins s σ H Q I h => ?_⟩
  refine attr_of hb (thn (he.run pins s σ H _ I h) fun u s1 ⟨x, H1, I1, rx, a, C, dx, p, vs, i, v, ex, hs, c, t, l, q⟩ => ?_)
  subst ex
  obtain rfl : u = Value.ref a := rx
  exact fi_get I1 hs c t l fun u' s2 I2 ru => ⟨v, H1, I2, ru, q⟩
end
/-- a def of a class -/
structure FnM (P : Program) (w : World) (K : PySem.W.Frag) (mg : Str → Option Value) (base : Heap) (k : Nat) (C : Addr) (m : Str) (o : ON) : Prop where
  ex : ∃ f fd ps, FnG P w K mg base k f fd ps o ∧ Meth K C m f ∧ Binds K fd ps []
section
variable {Γ : Gam} {ρ : GEnv} {M : Sto} {Q : G → Sto → Prop} {pos apos : Pos} {e : Expr} {a C p : Addr} {gs : List (Option G)} {g : G} {f m : Str} {i : Nat}
theorem FnM.fit {X : Cx} (fit : Γ.Fit X) {k : Nat} {o : ON} (c : FnM Γ.P Γ.w Γ.K Γ.mg Γ.base k C m o) : FnM X.prog X.w X.K X.mg X.base k C m o := by
  rw [fit.prog, fit.w, fit.K, fit.mg, fit.base]
  exact c
/-- e.f -/
theorem pd_sl (h : PD Γ e ρ M (.op (.ref a))) (hM : M a = some (.gen (InsG Γ.K a C gs))) (c : SlX.SCls Γ.K C) (t : SlX.Slot1 Γ.K C f p i) (hi : gs[i]? = some (some g)) (hb : ∀ env, attributeBase e f env (eval e env) = eval e env := by intro _; rfl) : PD Γ (.Attribute e f pos) ρ M g :=
  DE.of (fun X fit => pe_fi (pe_all fit e) (hb _)) fun X fit σ H Qv r h0 k => all_of h r h0 fun v H1 g' M1 p1 r1 h1 rg ⟨e1, e2⟩ => by
    subst e1 e2
    cases rg
    obtain ⟨⟨dx, ws, hf, hs⟩, _, _⟩ := h1 _ _ hM
    obtain ⟨v, ev, rv⟩ := hs i g hi
    exact ⟨a, C, dx, p, ws, i, v, rfl, hf, by rw [fit.K]; exact c, by rw [fit.K]; exact t, ev, k v H1 g _ p1 h1 rv ⟨rfl, rfl⟩⟩
/-- e.m(e1, ..) -/
theorem de_meth {o : ON} {k : Nat} {e1 : Expr} {es : List Expr} {pl : Env → Sem Bool} (c : FnM Γ.P Γ.w Γ.K Γ.mg Γ.base k C m o) (hc : SlX.SCls Γ.K C) (he : PD Γ e ρ M (.op (.ref a))) (hM : M a = some (.gen (InsG Γ.K a C gs))) (h : DA Γ (e1 :: es) ρ M fun xs M1 => o (.op (.ref a) :: xs) M1 Q)
    (hk : k ≤ Γ.lv := by exact Nat.le_of_ble_eq_true rfl) (hst : ∀ env, starEach (e1 :: es) env = (false, eval e1 env) :: starEach es env := by intro _; rfl) (hpl : ∀ env, (backTo pos (starEach es env)).any (·.1) = false := by intro _; rfl)
    (ht : ∀ env, eval (.Call (.Attribute e m apos) (e1 :: es) [] pos) env = (do
      let ov ← eval e env
      standAt apos.atName
      let (f, first) ← holding [ov] (getMethod ov m (pl env))
      callWith pos f first (backTo pos (starEach (e1 :: es) env)) (backToKw pos (keywordEach [] env))) := by intro _; rfl) : DE Γ (.Call (.Attribute e m apos) (e1 :: es) [] pos) ρ M Q := by
  refine ⟨fun X fit => ⟨fun pins s σ H Qv I ⟨r, h0, kk⟩ => ?_⟩⟩
  obtain ⟨f, fd, ps, F, hm, bnd⟩ := (c.fit fit).ex
  refine PySem.W.methodCall_KW (pl := pl X.env) (thn ((he.run X fit).run pins s σ H (fun v H1 => v = .ref a ∧ Pers H H1 ∧ Hold Γ.K H1 M) I ⟨r, h0, fun v H1 g M1 p1 h1 rg ⟨e1, e2⟩ => by subst e1 e2; cases rg; exact ⟨rfl, p1, h1⟩⟩) fun u s1 ⟨v, H1, I1, rv, ev, p1, h1⟩ => ?_) (ht _)
  subst ev
  obtain rfl : u = Value.ref a := rv
  obtain ⟨⟨dx, ws, hf, hs⟩, _, _⟩ := h1 _ _ hM
  refine fi_meth I1 hf (by rw [fit.K]; exact hc) hm ?_
  refine PySem.W.callWith_K (first := [.ref a]) (h₀ := X.base) I1.ok.mod.kin hm.kp (thn ((h.run X fit).run pos pins s1 σ H1 (fun vs H2 => upN X.K o (.ref a :: vs) H2 Qv) I1 ⟨r.mono p1, h1, fun vs H2 gs M2 p2 h2 rs q => ⟨.op (.ref a) :: gs, M2, Q, by rw [fit.K]; exact .cons rfl rs, by rw [fit.K]; exact h2, q, by rw [fit.K]; exact KOk.later (p1.trans p2) kk⟩⟩) fun us s2 ⟨vs, H2, I2, rvs, q⟩ => ⟨I2.kIn, ?_⟩) (hst _) (hpl _)
  obtain ⟨gs2, M2, Q2, rs, h2, q2, k2⟩ := q
  have hl : ((Value.ref a :: us) ++ ([] : List Value)).length = ps.length := by
    have e0 := F.len _ _ _ q2
    have e1 : (V.ref a :: vs).length = (Value.ref a :: us).length := Paired.length (Paired.cons (show RelV (V.ref a) (Value.ref a) from rfl) rvs)
    rw [List.append_nil, ← e1, rs.length]
    exact e0
  have b := bnd s2 (.ref a :: us) I2.kIn hl
  rw [List.append_nil] at b
  exact F.call (args := ⟨.ref a :: us, []⟩) (fit.room.mono hk) I2 b (.cons (show RelV (V.ref a) (Value.ref a) from rfl) rvs) ⟨gs2, M2, Q2, rs, h2, q2, k2⟩
end
end B
end
section
set_option maxHeartbeats 4000000
/-! D62: instances with slots made. -/
namespace B
open PySem PySem.Spec PyProof.Rows L2 LamX
theorem REnv.monoD {K : PySem.W.Frag} {H H' : Hp} {σ : L2.St} {ρ : GEnv} (p : PersD H H') (h : REnv K H σ ρ) : REnv K H' σ ρ := ⟨h.1, fun i g e => by
  obtain ⟨v, e1, r⟩ := h.2 i g e
  exact ⟨v, e1, r.monoD p⟩⟩
/-- one thing of the heap is told otherwise -/
theorem persD_upd {H : Hp} {a : Addr} {φ : Heap → Prop} {o : HO} (e : H a = some (.ext φ)) : PersD H (upd H a o) :=
  ⟨fun b xs h => by rw [upd_ne (fun z => by rw [z, e] at h; cases h)]; exact h, fun b o' u h => by rw [upd_ne (fun z => by rw [z, e] at h; cases h)]; exact h⟩
theorem hold_fi {K : PySem.W.Frag} {H : Hp} {M : Sto} {a : Addr} {φ : Heap → Prop} {o : HO} (h : Hold K H M) (ng : NoGen M) (e : H a = some (.ext φ)) (nc : ∀ c q, H c = some (CodeO c q) → c ≠ a) : Hold K (upd H a o) M := fun p m em => by
  have pd : PersD H (upd H a o) := persD_upd e
  have x := h p m em
  cases m with
  | lst gs =>
    obtain ⟨vs, e1, r⟩ := x
    have : p ≠ a := fun z => by rw [z, e] at e1; cases e1
    exact ⟨vs, by rw [upd_ne this]; exact e1, r.monoD pd⟩
  | dK gs =>
    obtain ⟨vs, e1, r⟩ := x
    have : p ≠ a := fun z => by rw [z, e] at e1; cases e1
    exact ⟨vs, by rw [upd_ne this]; exact e1, Paired.mapP r fun _ _ z => ⟨z.1, z.2.monoD pd⟩⟩
  | raw u =>
    have : p ≠ a := fun z => by
      have e1 := x.1
      have e2 := x.2
      rw [z, e] at e1
      cases e1
      exact e2
    exact ⟨by rw [upd_ne this]; exact x.1, x.2⟩
  | gen φ => exact absurd em (ng p φ)
  | tab q =>
    obtain ⟨ps, e1, e2, e3⟩ := x
    have : p ≠ a := fun z => by rw [z, e] at e1; cases e1
    refine ⟨ps, by rw [upd_ne this]; exact e1, e2, fun pos cv hc => ?_⟩
    obtain ⟨c, c1, c2⟩ := e3 pos cv hc
    exact ⟨c, c1, by rw [upd_ne (nc c _ c2)]; exact c2⟩
/-- an instance of the class C at a is being made -/
structure Ini (K : PySem.W.Frag) (a C : Addr) (ρ : GEnv) (M : Sto) (gs : List (Option G)) (H0 H : Hp) (σ : L2.St) : Prop where
  pers : Pers H0 H
  env : REnv K H σ ρ
  hold : Hold K H M
  fi : ∃ dx ws, FI H a C dx ws ∧ SR K H ws gs
  n0 : ∀ u, H0 a = some u → (∀ xs, u ≠ .tup xs) ∧ (∀ o z, u ≠ .frz o z) ∧ ∀ φ, u ≠ .ext φ
  ng : NoGen M
theorem Ini.put {K : PySem.W.Frag} {a C dx : Addr} {ρ : GEnv} {M : Sto} {gs : List (Option G)} {H0 H : Hp} {σ : L2.St} {ws : List (Option V)} {v : V} {g : G} (p : Pers H0 H) (r : REnv K H σ ρ) (h : Hold K H M) (hf : FI H a C dx ws) (hs : SR K H ws gs) (n0 : ∀ u, H0 a = some u → (∀ xs, u ≠ .tup xs) ∧ (∀ o z, u ≠ .frz o z) ∧ ∀ φ, u ≠ .ext φ) (ng : NoGen M) (i : Nat) (rg : RG K H v g) (nc : ∀ c q, H c = some (CodeO c q) → c ≠ a) :
    Ini K a C ρ M (gs.set i (some g)) H0 (upd H a (SlX.SlO a C dx (SlX.putS i v ws))) σ := by
  have pd : PersD H (upd H a (SlX.SlO a C dx (SlX.putS i v ws))) := persD_upd hf.o
  have ne : ∀ b u, H0 b = some u → ((∃ xs, u = .tup xs) ∨ (∃ o z, u = .frz o z) ∨ ∃ φ, u = .ext φ) → b ≠ a := fun b u e k z => by
    rw [z] at e
    obtain ⟨k1, k2, k3⟩ := n0 u e
    rcases k with ⟨xs, k⟩ | ⟨o, z, k⟩ | ⟨φ, k⟩
    · exact k1 _ k
    · exact k2 _ _ k
    · exact k3 _ k
  refine ⟨⟨fun b xs e => ?_, fun b o u e => ?_, fun b φ e => ?_⟩, r.monoD pd, hold_fi h ng hf.o nc, ⟨dx, _, ⟨upd_same, by rw [upd_ne hf.ne]; exact hf.d, hf.ne⟩, (hs.monoD pd).put i (rg.monoD pd)⟩, n0, ng⟩
  · rw [upd_ne (ne b _ e (.inl ⟨_, rfl⟩))]; exact p.1 _ _ e
  · rw [upd_ne (ne b _ e (.inr (.inl ⟨_, _, rfl⟩)))]; exact p.2.1 _ _ _ e
  · rw [upd_ne (ne b _ e (.inr (.inr ⟨_, rfl⟩)))]; exact p.2.2 _ _ e
section
variable {X : Cx} {o e : Expr} {f : Str} {pos pos' : Pos} {ta : TE}
/-- .. with what the heap tells of code objects -/
theorem pg_fiC (ha : PE X o ta) : PG X (.Attribute o f pos') (fun v σ H Q => ta σ H fun x H2 => ∃ a C dx p vs i, x = .ref a ∧ FI H2 a C dx vs ∧ SlX.SCls X.K C ∧ SlX.Slot1 X.K C f p i ∧ ((∀ c q, H2 c = some (CodeO c q) → c ≠ a) → Q σ (upd H2 a (SlX.SlO a C dx (SlX.putS i v vs))))) := by
  refine ⟨fun pins s σ H v u Q I rv h => fun Γ p hΓ => ?_⟩
  have main : wpAny (model X.prog X.w) X.A (eval o X.env) (fun ov s2 => wpAny (model X.prog X.w) X.A (setAttr ov f u) (fun _ s' => ∃ σ' H', Inv X pins σ' H' s' ∧ Q σ' H') X.xe s2) X.xe s := thn (ha.run pins s σ H _ I h) fun ov s2 ⟨x, H2, I2, rx, a, C, dx, p, vs, i, ex, hsl, c, t, q2⟩ => by
    subst ex
    obtain rfl : ov = Value.ref a := rx
    refine fi_set I2 hsl c t rv fun s3 I3 _ => ⟨σ, _, I3, q2 fun c q ec z => ?_⟩
    obtain ⟨⟨oc, vs', t', h1, h2, h3⟩, _, _⟩ := I2.hok c _ ec
    obtain ⟨⟨sl, e, r⟩, _, _⟩ := I2.hok a _ hsl.o
    rw [z, e] at h1
    cases h1
    cases h2
  simp only [assign_Attribute, Sem.wp_bind', Sem.wp_holding, Sem.wp_cmd_standAt, Sem.wp_release, Sem.wp_pure']
  exact Sem.wp_mono _ Γ _ (fun ov _ s₂ h₂ => h₂ Γ _ hΓ) (fun _ _ _ h' => h') _ _ (main Γ _ hΓ)
end
/-- statements of an __init__ -/
structure DSI (Γ : Gam) (sts : List Stmt) (a C : Addr) (ρ : GEnv) (M : Sto) (gs : List (Option G)) (R : Sto → List (Option G) → Prop) : Prop where
  run : ∀ X, Γ.Fit X → PSs X sts fun E σ H => ∃ H0, Ini Γ.K a C ρ M gs H0 H σ ∧ ∀ σ' H' ρ' M' gs', Ini Γ.K a C ρ' M' gs' H0 H' σ' → R M' gs' → E.nx σ' H'
section
variable {Γ : Gam} {ρ : GEnv} {M : Sto} {a C p p2 : Addr} {gs : List (Option G)} {R : Sto → List (Option G) → Prop} {f f2 x y : Str} {i i2 j j2 : Nat} {sts : List Stmt} {pos px pa py pb pt pt2 : Pos} {e e2 : Expr}
theorem pss_allI {X : Cx} (fit : Γ.Fit X) (sts : List Stmt) : PSs X sts (fun E σ H => ∃ a C ρ M gs R, DSI Γ sts a C ρ M gs R ∧ ∃ H0, Ini Γ.K a C ρ M gs H0 H σ ∧ ∀ σ' H' ρ' M' gs', Ini Γ.K a C ρ' M' gs' H0 H' σ' → R M' gs' → E.nx σ' H') := ⟨fun pins s σ H E I h => by
  obtain ⟨a, C, ρ, M, gs, R, d, h⟩ := h
  exact (d.run X fit).run pins s σ H E I h⟩
theorem dsi_nil (q : R M gs) : DSI Γ [] a C ρ M gs R := ⟨fun X fit => PSs.mono' pss_nil fun E σ H ⟨H0, J, k⟩ => k σ H ρ M gs J q⟩
/-- self.f = e -/
theorem dsi_set (j : Nat) (h : DE Γ e ρ M fun g M1 => NoGen M1 ∧ DSI Γ sts a C ρ M1 (gs.set i (some g)) R) (c : SlX.SCls Γ.K C) (t : SlX.Slot1 Γ.K C f p i) (hv : ρ[j]? = some (some (.op (.ref a))) := by rfl) (hN : Γ.N[j]? = some x := by rfl) (hvis : Vis Γ.sc x := by first | exact Or.inl rfl | exact Or.inr (Or.inl rfl) | exact Or.inr (Or.inr rfl))
    (hd : (x == ("__debug__" : Str)) = false := by decide) (hcd : (x == ("__classdict__" : Str)) = false := by decide) (hs : ∀ env, swapsWithSole [.Attribute (.Name x px) f pa] e pos.line env = pure false := by intro _; rfl) (hw : ∀ env : Env, swappedStores [.Attribute (.Name x px) f pa] e { env with scope := Γ.sc } = pure none := by intro _; rfl)
    (h1 : ∀ env, (assignEach [.Attribute (.Name x px) f pa] env).map (·.2) = [assign (.Attribute (.Name x px) f pa) env] := by intro _; rfl) : DSI Γ (.Assign [.Attribute (.Name x px) f pa] e pos :: sts) a C ρ M gs R :=
  ⟨fun X fit => PSs.mono' (pss_cons (ps_asg (pe_all fit e) (pg_fiC (pe_all fit (.Name x px))) (hs _) (env_sc (P := fun env => swappedStores [.Attribute (.Name x px) f pa] e env = pure none) hw _ fit.sc) (h1 _)) (pss_allI fit sts)) fun E σ H ⟨H0, J, k⟩ =>
    all_of h J.env J.hold fun v H1 g M1 p1 r1 hh1 rg ⟨ng, d⟩ => all_of (pd_var j hN hv hvis hd hcd) r1 hh1 fun vo H2 g2 M2 q1 r2 h2 rx ⟨e1, e2⟩ => by
      subst e1 e2
      cases rx
      obtain ⟨dx, ws, hf, hsr⟩ := J.fi
      have pp := p1.trans q1
      exact ⟨a, C, dx, p, ws, i, rfl, hf.keep pp, by rw [fit.K]; exact c, by rw [fit.K]; exact t, fun nc => ⟨a, C, ρ, _, _, R, d, H0, Ini.put (J.pers.trans pp) r2 h2 (hf.keep pp) (hsr.mono pp) J.n0 ng i (rg.mono q1) nc, k⟩⟩⟩
/-- self.f, self.f2 = e, e2 -/
theorem dsi_set2 (j : Nat) {kt k2 : Nat} (h : DA Γ [e, e2] ρ M fun xs M1 => ∃ g g2, xs = [g, g2] ∧ NoGen M1 ∧ DSI Γ sts a C ρ M1 ((gs.set i (some g)).set i2 (some g2)) R) (c : SlX.SCls Γ.K C) (t : SlX.Slot1 Γ.K C f p i) (t2 : SlX.Slot1 Γ.K C f2 p2 i2) (hv : ρ[j]? = some (some (.op (.ref a))) := by rfl) (hN : Γ.N[j]? = some x := by rfl) (hvis : Vis Γ.sc x := by first | exact Or.inl rfl | exact Or.inr (Or.inl rfl) | exact Or.inr (Or.inr rfl))
    (hd : (x == ("__debug__" : Str)) = false := by decide) (hcd : (x == ("__classdict__" : Str)) = false := by decide) (hs : ∀ env, swapsWithSole [.Tuple [.Attribute (.Name x px) f pa, .Attribute (.Name x py) f2 pb] kt pt] (.Tuple [e, e2] k2 pt2) pos.line env = pure false := by intro _; rfl)
    (hw : ∀ env : Env, swappedStores [.Tuple [.Attribute (.Name x px) f pa, .Attribute (.Name x py) f2 pb] kt pt] (.Tuple [e, e2] k2 pt2) { env with scope := Γ.sc } = pure none := by intro _; rfl)
    (h1 : ∀ env, (assignEach [.Tuple [.Attribute (.Name x px) f pa, .Attribute (.Name x py) f2 pb] kt pt] env).map (·.2) = [assign (.Tuple [.Attribute (.Name x px) f pa, .Attribute (.Name x py) f2 pb] kt pt) env] := by intro _; rfl)
    (hn : ∀ env, (assignEach [.Attribute (.Name x px) f pa, .Attribute (.Name x py) f2 pb] env).length = 2 := by intro _; rfl) (hst : ∀ env, (assignEach [.Attribute (.Name x px) f pa, .Attribute (.Name x py) f2 pb] env).findIdx? (·.1) = none := by intro _; rfl)
    (hs1 : ∀ env, (assignEach [.Attribute (.Name x px) f pa, .Attribute (.Name x py) f2 pb] env).map (·.2) = assign (.Attribute (.Name x px) f pa) env :: (assignEach [.Attribute (.Name x py) f2 pb] env).map (·.2) := by intro _; rfl)
    (hs2 : ∀ env, (assignEach [.Attribute (.Name x py) f2 pb] env).map (·.2) = assign (.Attribute (.Name x py) f2 pb) env :: (assignEach [] env).map (·.2) := by intro _; rfl) : DSI Γ (.Assign [.Tuple [.Attribute (.Name x px) f pa, .Attribute (.Name x py) f2 pb] kt pt] (.Tuple [e, e2] k2 pt2) pos :: sts) a C ρ M gs R :=
  ⟨fun X fit => PSs.mono' (pss_cons (ps_asg (pe_tup (pa_all fit [e, e2])) (pg_tup (n := 2) fit.calm (pgs_cons (pg_fiC (pe_all fit (.Name x px))) (pgs_cons (pg_fiC (pe_all fit (.Name x py))) pgs_nil (hs2 _)) (hs1 _)) (hn _) (hst _)) (hs _) (env_sc (P := fun env => swappedStores [.Tuple [.Attribute (.Name x px) f pa, .Attribute (.Name x py) f2 pb] kt pt] (.Tuple [e, e2] k2 pt2) env = pure none) hw _ fit.sc) (h1 _)) (pss_allI fit sts)) fun E σ H ⟨H0, J, k⟩ =>
    allA_of h J.env J.hold fun vs H1 xs M1 p1 r1 hh1 rs ⟨g, g2, ex, ng, d⟩ => by
      subst ex
      refine ⟨by rw [rs.length]; show 2 ≤ sizeLine; rw [sizeLine_eq]; omega, fun q nq => ?_⟩
      have pn : Pers H1 (upd H1 q (.tup vs)) := .new nq
      obtain ⟨v1, v2, ev, ra, rb⟩ : ∃ v1 v2, vs = [v1, v2] ∧ RG Γ.K H1 v1 g ∧ RG Γ.K H1 v2 g2 := by
        cases rs with
        | cons ra rr =>
          cases rr with
          | cons rb rn =>
            cases rn
            exact ⟨_, _, rfl, ra, rb⟩
      subst ev
      refine ⟨q, _, rfl, .inl (.inl upd_same), rfl, _, _, rfl, all_of (pd_var j hN hv hvis hd hcd) (r1.mono pn) (hh1.keep (new_keeps nq)) fun vo H2 g3 M2 q1 r2 h2 rx ⟨e1, e2⟩ => ?_⟩
      subst e1 e2
      cases rx
      obtain ⟨dx, ws, hf, hsr⟩ := J.fi
      have pp := p1.trans (pn.trans q1)
      refine ⟨a, C, dx, p, ws, i, rfl, hf.keep pp, by rw [fit.K]; exact c, by rw [fit.K]; exact t, fun nc => ?_⟩
      have J2 := Ini.put (J.pers.trans pp) r2 h2 (hf.keep pp) (hsr.mono pp) J.n0 ng i (ra.mono (pn.trans q1)) nc
      have rb2 := (rb.mono (pn.trans q1)).monoD (persD_upd (o := SlX.SlO a C dx (SlX.putS i v1 ws)) (hf.keep pp).o)
      refine ⟨_, _, rfl, all_of (pd_var j hN hv hvis hd hcd) J2.env J2.hold fun vo H3 g3 M3 q3 r3 h3 rx ⟨e1, e2⟩ => ?_⟩
      subst e1 e2
      cases rx
      obtain ⟨dx2, ws2, hf2, hsr2⟩ := J2.fi
      refine ⟨a, C, dx2, p2, ws2, i2, rfl, hf2.keep q3, by rw [fit.K]; exact c, by rw [fit.K]; exact t2, fun nc2 => ⟨rfl, a, C, ρ, _, _, R, d, H0, Ini.put (J2.pers.trans q3) r3 h3 (hf2.keep q3) (hsr2.mono q3) J.n0 ng i2 (rb2.mono q3) nc2, k⟩⟩⟩
end
end B
end
section
set_option maxHeartbeats 4000000
/-! D63: C(..), C a class with slots. -/
namespace B
open PySem PySem.Spec PyProof.Rows L2 LamX
abbrev OI := List G → Sto → (Sto → List (Option G) → Prop) → Prop
/-- what an __init__ does -/
structure FnI (P : Program) (w : World) (K : PySem.W.Frag) (mg : Str → Option Value) (base : Heap) (k : Nat) (C f : Addr) (fd : FuncData) (ps : List Str) (o : OI) : Prop where
  len : ∀ xs M R, o xs M R → xs.length + 1 = ps.length
  run : ∀ (A : Around) (outer : List Env) (s : Shared) (H : Hp) (args : Args) (us : List Value) (vs : List V) (a dx : Addr) (xs : List G) (M : Sto) (R : Sto → List (Option G) → Prop) (Qv : VK), RoomG k A → Env0 P w K mg base A outer s H → BindsTo s fd args (ps.zip us) → Vals (.ref a :: vs) us → RGs K H vs xs → Hold K H M → NoGen M →
    H a = some (.ins C dx []) → o xs M R → (∀ H' M' gs', Pers H H' → Hold K H' M' → (∃ dx ws, FI H' a C dx ws ∧ SR K H' ws gs') → R M' gs' → Qv .non H') → codeAny (model P w) A (.call (.ref f) args) (CR C8.CX0 outer P w H s Qv C8.E0) s
theorem hold_new {K : PySem.W.Frag} {H : Hp} {M : Sto} {a C dx : Addr} {u u' : HO} (h : Hold K H M) (ng : NoGen M) (ea : H a = some (.ins C dx [])) (ed : H dx = some (.own a)) (p : Pers H (upd (upd H a u) dx u')) : Hold K (upd (upd H a u) dx u') M := fun b m em => by
  have x := h b m em
  have ne : b ≠ a ∧ b ≠ dx := by
    cases m with
    | lst gs =>
      obtain ⟨vs, e1, r⟩ := x
      exact ⟨(fun z => by rw [z, ea] at e1; cases e1), (fun z => by rw [z, ed] at e1; cases e1)⟩
    | dK gs =>
      obtain ⟨vs, e1, r⟩ := x
      exact ⟨(fun z => by rw [z, ea] at e1; cases e1), (fun z => by rw [z, ed] at e1; cases e1)⟩
    | raw o =>
      refine ⟨fun z => ?_, fun z => ?_⟩
      · have e1 := x.1
        have e2 := x.2
        rw [z, ea] at e1
        cases e1
        exact e2
      · have e1 := x.1
        have e2 := x.2
        rw [z, ed] at e1
        cases e1
        exact e2
    | gen φ => exact absurd em (ng b φ)
    | tab q =>
      obtain ⟨ps, e1, _⟩ := x
      exact ⟨(fun z => by rw [z, ea] at e1; cases e1), (fun z => by rw [z, ed] at e1; cases e1)⟩
  exact MOk.mono p (by rw [upd_ne ne.2, upd_ne ne.1]) x
section
variable {P : Program} {w : World} {K : PySem.W.Frag} {mg : Str → Option Value} {base : Heap}
theorem fnI_of {name qual : Str} {params : Arguments} {body : List Stmt} {scope : Scope} {f C : Addr} {dV kV doc pm cdv ct oc : Value} {an od : Option Addr} {osl : Array (Option Value)} {N ps : List Str} {k n : Nat} {o : OI}
    (lk : K.lookup f = some ⟨oc, od, .func (PySem.W.fnOf name qual params body scope dV kV doc pm an cdv ct), osl⟩) (hcd : PySem.W.codeIn K cdv qual = true) (S : FnScope N ps scope) (len : ∀ xs M R, o xs M R → xs.length + 1 = ps.length)
    (h : ∀ a xs M R, o xs M R → DSI ⟨P, w, K, mg, base, N, scope, k, fun _ => true, none, fun _ => True⟩ body a C (startG N (.op (.ref a) :: xs)) M (List.replicate n none) R) :
    FnI P w K mg base (k + 1) C f (PySem.W.fnOf name qual params body scope dV kV doc pm an cdv ct) ps o := by
  refine ⟨len, fun A outer st H args us vs a dx xs M R Qv rm e0 hb rv rs hm ng ha q kk => ?_⟩
  have hl : (V.ref a :: vs).length = ps.length := by
    have := len _ _ _ q
    rw [List.length_cons, rs.length]
    exact this
  have inK : K.In st.heap := e0.mod.kin.keeps fun b u z => (e0.bs b u z).1
  have kinds : ∀ y ∈ ps.zip us, scope.names.lookup y.1 = some .local ∨ (scope.names.lookup y.1 = some .cell ∧ ((cellsFrom (st.heap.objs.size + 1) scope.names []).lookup y.1).isSome = true) := fun y hy => by
    rcases S.par y.1 (List.of_mem_zip (a := y.1) (b := y.2) hy).1 with z | z
    · exact .inl z
    · exact .inr ⟨z, PySem.W.cellsFrom_some _ _ _ (.inl z)⟩
  refine codeAny_call_function rm.toRoom.depth (inK _ _ lk) rfl S.co S.gen rfl (PySem.W.codeRec_of inK hcd) (hb _ _ _ _ ?_)
  refine wpAny_newFunctionEnv_cells S.kind kinds fun env he s1 x => ?_
  subst he
  refine ⟨(e0.mod.nolimit.keeps fun b u z => (e0.bs b u z).1).keeps x.toInCall.keep, codeAny_func ?_⟩
  have I : Inv (cxOf C8.CX0 P w K mg base N qual scope f cdv A outer st H C8.E0) [] (L2.start N (.ref a :: vs)) H s1 := inv_start S rm.hd e0 hl rv x
  have fit : Gam.Fit ⟨P, w, K, mg, base, N, scope, k, fun _ => true, none, fun _ => True⟩ (cxOf C8.CX0 P w K mg base N qual scope f cdv A outer st H C8.E0).nox := ⟨rfl, rfl, rfl, rfl, rfl, rfl, rfl, rfl, S.nd, rm.deeper _, fun _ _ _ => .inl rfl, PassesOwn.never, (fun p z => nomatch z), fun _ _ => trivial⟩
  obtain ⟨J, F⟩ := fi_new I ha
  obtain ⟨_, _, _, _, _, ho⟩ := ins_get I.hok ha
  have pers : Pers H (upd (upd H a (SlX.SlO a C dx [])) dx (XdO dx)) := by
    refine ⟨fun b ys e => ?_, fun b o u e => ?_, fun b φ e => ?_⟩
    · rw [upd_ne (fun z => by rw [z, ho] at e; cases e), upd_ne (fun z => by rw [z, ha] at e; cases e)]; exact e
    · rw [upd_ne (fun z => by rw [z, ho] at e; cases e), upd_ne (fun z => by rw [z, ha] at e; cases e)]; exact e
    · rw [upd_ne (fun z => by rw [z, ho] at e; cases e), upd_ne (fun z => by rw [z, ha] at e; cases e)]; exact e
  have rgs : RGs K H (V.ref a :: vs) (.op (.ref a) :: xs) := .cons rfl rs
  have ini : Ini K a C (startG N (.op (.ref a) :: xs)) M (List.replicate n none) H (upd (upd H a (SlX.SlO a C dx [])) dx (XdO dx)) (L2.start N (.ref a :: vs)) :=
    ⟨pers, renv_start (RGs.mono pers rgs), hold_new hm ng ha ho pers, ⟨dx, [], F, fun i g e => by
      rw [List.getElem?_replicate] at e
      split at e <;> cases e⟩, fun u e => by rw [ha] at e; cases e; exact ⟨(fun _ z => nomatch z), (fun _ _ z => nomatch z), fun _ z => nomatch z⟩, ng⟩
  refine wpAny_mono (((h a xs M R q).run _ fit).nox.run [] s1 (L2.start N (.ref a :: vs)) _ { nx := fun _ H' => Qv .non H', rt := fun _ _ => False } J ⟨H, ini, fun σ' H' ρ' M' gs' J' z => kk H' M' gs' J'.pers J'.hold J'.fi z⟩) (fun fl s' hs => ?_) fun e s' hs => hs
  have fin : ∀ {σ' : L2.St} {H' : Hp} {v : V} {u : Value}, Inv (cxOf C8.CX0 P w K mg base N qual scope f cdv A outer st H C8.E0) [] σ' H' s' → RelV v u → Qv v H' → CE outer P w H st Qv u s' := fun {σ' H' v u} J r z => ⟨v, H', J.os, J.bare, J.base, J.hok, r, z⟩
  cases fl with
  | ret u =>
    obtain ⟨v, σ', H', J, r, z⟩ := hs
    exact z.elim
  | next =>
    obtain ⟨σ', H', J, z⟩ := hs
    exact fin (v := .non) (u := .none) J rfl z
  | brk =>
    obtain ⟨σ', H', J, z⟩ := hs
    exact z.elim
  | cont =>
    obtain ⟨σ', H', J, z⟩ := hs
    exact z.elim
end
theorem RoomG.make {k : Nat} {A : Around} (r : RoomG (k + 1) A) (C : Addr) (us : List Value) (kw : List (Str × Value)) : RoomG k (A.under (.builtin "type.__call__" ⟨.ref C :: us, kw⟩)) := ⟨r.toRoom.make C us kw, r.gd⟩
section
variable {Γ : Gam} {ρ : GEnv} {M : Sto} {Q : G → Sto → Prop} {pos p : Pos} {e : Expr} {es : List Expr} {C f : Addr} {fd : FuncData} {ps : List Str} {o : OI} {x : Str}
/-- C(e, ..) -/
theorem de_make {k : Nat} (m : Mk Γ.K C f) (c : FnI Γ.P Γ.w Γ.K Γ.mg Γ.base k C f fd ps o) (bnd : Binds Γ.K fd ps []) (hm : Γ.mg x = some (.ref C))
    (h : DA Γ (e :: es) ρ M fun xs M1 => NoGen M1 ∧ o xs M1 fun M2 gs => ∀ a, M1 a = none → (∀ b m, M2 b = some m → m.wr = true → b ≠ a) → Q (.op (.ref a)) (put M2 a (.gen (InsG Γ.K a C gs))))
    (hk : k + 1 ≤ Γ.lv := by exact Nat.le_of_ble_eq_true rfl) (hg : GlD Γ x := by rfl) (hdb : (x == ("__debug__" : Str)) = false := by decide) (he : ∀ env, starEach (e :: es) env = (false, eval e env) :: starEach es env := by intro _; rfl) (hpl : ∀ env, (backTo pos (starEach es env)).any (·.1) = false := by intro _; rfl) : DE Γ (.Call (.Name x p) (e :: es) [] pos) ρ M Q := by
  refine ⟨fun X fit => ⟨fun pins s σ H Qv I ⟨r, h0, kk⟩ => ?_⟩⟩
  have m' : Mk X.K C f := by rw [fit.K]; exact m
  have bnd' : Binds X.K fd ps [] := by rw [fit.K]; exact bnd
  have c' : FnI X.prog X.w X.K X.mg X.base k C f fd ps o := by rw [fit.prog, fit.w, fit.K, fit.mg, fit.base]; exact c
  refine wpAny_Call_Name_kw (ld_glob I (GlD.gl fit hg) (by rw [fit.mg]; exact hm) ?_ hdb)
  refine PySem.W.callWith_K (h₀ := X.base) I.ok.mod.kin m'.kp (thn ((h.run X fit).run pos pins s σ H (fun vs H1 => ∃ xs M1, Pers H H1 ∧ Hold Γ.K H1 M1 ∧ RGs Γ.K H1 vs xs ∧ NoGen M1 ∧ o xs M1 fun M2 gs => ∀ a, M1 a = none → (∀ b m, M2 b = some m → m.wr = true → b ≠ a) → Q (.op (.ref a)) (put M2 a (.gen (InsG Γ.K a C gs)))) I ⟨r, h0, fun vs H1 xs M1 p1 h1 rs ⟨ng, q⟩ => ⟨xs, M1, p1, h1, rs, ng, q⟩⟩) fun us s1 ⟨vs, H1, I1, rv, xs, M1, p1, h1, rs, ng, q⟩ => ⟨I1.kIn, ?_⟩) (he _) (hpl _)
  have I2 := Inv.made (C := C) I1
  have na : H1 (s1.heap.objs.size + 1) = none := I1.hok.fresh (Nat.le_succ _)
  have nd : H1 s1.heap.objs.size = none := I1.hok.fresh (Nat.le_refl _)
  obtain ⟨H2, eH2⟩ : ∃ H2, upd (upd H1 s1.heap.objs.size (.own (s1.heap.objs.size + 1))) (s1.heap.objs.size + 1) (.ins C s1.heap.objs.size []) = H2 := ⟨_, rfl⟩
  have keep : ∀ b o, H1 b = some o → H2 b = some o := fun b o e => by
    rw [← eH2, upd_ne (ne_of_none e na), upd_ne (ne_of_none e nd)]
    exact e
  have p12 : Pers H1 H2 := .of keep
  have ia : H2 (s1.heap.objs.size + 1) = some (.ins C s1.heap.objs.size []) := by rw [← eH2]; exact upd_same
  rw [eH2] at I2
  have r2 : Vals (V.ref (s1.heap.objs.size + 1) :: vs) (Value.ref (s1.heap.objs.size + 1) :: us) := .cons (show RelV (V.ref (s1.heap.objs.size + 1)) (Value.ref (s1.heap.objs.size + 1)) from rfl) rv
  have hl : ((Value.ref (s1.heap.objs.size + 1) :: us) ++ ([] : List Value)).length = ps.length := by
    rw [List.append_nil, ← Paired.length r2, List.length_cons, rs.length]
    exact c'.len _ _ _ q
  have b := bnd' { s1 with heap := (s1.heap.push PySem.W.emptyDict).push (PySem.W.instObj C s1.heap.objs.size) } (Value.ref (s1.heap.objs.size + 1) :: us) I2.kIn hl
  rw [List.append_nil] at b
  show wpAny _ _ (call (.ref C) us) _ _ _
  refine wpAny_call (make_map (f := f) I1.kIn m'.makes m'.init (beq_iff_eq.mp m'.fn) (codeAny_mono (c'.run _ X.stack _ H2 ⟨Value.ref (s1.heap.objs.size + 1) :: us, []⟩ (Value.ref (s1.heap.objs.size + 1) :: us) vs (s1.heap.objs.size + 1) s1.heap.objs.size xs M1 _ (fun v H' => v = .non ∧ Qv (.ref (s1.heap.objs.size + 1)) H') ((fit.room.mono hk).make C us [])
    (I2.env0.make C us []) b r2 (by rw [fit.K]; exact RGs.mono p12 rs) (by rw [fit.K]; exact h1.keep keep) ng ia q (fun H' M' gs' pH hH ⟨dx, ws, hf, hs⟩ qq => ⟨rfl, ?_⟩)) fun r' s' hq' => ?_))
  · rw [fit.K] at hH hs
    have wr : ∀ b m, M' b = some m → m.wr = true → b ≠ s1.heap.objs.size + 1 := fun b m e hw z => by
      obtain ⟨u, eu, _, _, k3⟩ := ok_wr (hH b m e) hw
      rw [z, hf.o] at eu
      cases eu
      exact k3 _ rfl
    refine kk (.ref (s1.heap.objs.size + 1)) H' (.op (.ref (s1.heap.objs.size + 1))) _ (p1.trans (p12.trans pH)) (fun b m e => ?_) rfl (qq _ (h1.fresh na) wr)
    by_cases hb : b = s1.heap.objs.size + 1
    · subst hb
      rw [put_same] at e
      cases e
      exact insG_mok hf hs
    · rw [put_ne hb] at e
      exact hH b m e
  · cases r' with
    | error e => exact hq'.elim
    | ok fl =>
      cases fl with
      | ret u =>
        obtain ⟨v, H', I3, rv', ev, q3⟩ := I2.after hq'
        subst ev
        exact ⟨rv', ⟨V.ref (s1.heap.objs.size + 1), H', I3, rfl, q3⟩⟩
      | next => exact False.elim hq'
      | brk => exact False.elim hq'
      | cont => exact False.elim hq'
end
end B
end
section
set_option maxHeartbeats 4000000
/-! D64: what the head tells of a class with slots. -/
namespace B
open PySem PySem.Spec PyProof.Rows L2
def slA (K : PySem.W.Frag) (C : Addr) (f : Str) : Addr := match PySem.W.findIn K (.ref C) f with
  | some (some (.ref p)) => p
  | _ => 0
def slotB (K : PySem.W.Frag) (C : Addr) (q : Str × Nat) : Bool := He.eqO (PySem.W.findIn K (.ref C) q.1) (some (some (.ref (slA K C q.1)))) && (He.eqO (PySem.W.specialIn K (.ref (slA K C q.1)) "__get__") (some (some (.builtin "member_descriptor.__get__"))) && (eqV (PySem.W.takesIn K (.ref (slA K C q.1))) true &&
  (decide (PySem.W.typeIn K (.ref (slA K C q.1)) = some (.type "member_descriptor")) && (decide (PySem.W.slotIn K (slA K C q.1) C = some q.2) && decide (q.2 < 1000)))))
def sclsB (K : PySem.W.Frag) (x : Str) (qs : List (Str × Nat)) : Bool := PySem.W.plainGet K (He.ga K x) Str.empty && (PySem.W.isClsIn K (He.ga K x) && (PySem.W.plainOver K (He.ga K x) && (He.eqO (PySem.W.findIn K (.ref (He.ga K x)) "__setattr__") (some (some (.builtin "object.__setattr__"))) && qs.all (slotB K (He.ga K x)))))
/-- a class with these slots -/
structure SlK (K : PySem.W.Frag) (C : Addr) (qs : List (Str × Nat)) : Prop where
  c : SlX.SCls K C
  s : ∀ q ∈ qs, SlX.Slot1 K C q.1 (slA K C q.1) q.2
theorem sclsB_ok {K : PySem.W.Frag} {x : Str} {qs : List (Str × Nat)} (h : sclsB K x qs = true) : SlK K (He.ga K x) qs := by
  unfold sclsB at h
  simp only [Bool.and_eq_true] at h
  obtain ⟨h1, h2, h3, h4, h5⟩ := h
  refine ⟨⟨h1, h2, h3, He.eqO_ok h4⟩, fun q hq => ?_⟩
  have z := List.all_eq_true.mp h5 q hq
  unfold slotB at z
  simp only [Bool.and_eq_true, decide_eq_true_eq] at z
  obtain ⟨z1, z2, z3, z4, z5, z6⟩ := z
  exact ⟨He.eqO_ok z1, He.eqO_ok z2, of_decide_eq_true z3, z4, z5, z6⟩
end B
end
section
set_option maxHeartbeats 0
namespace K13
open PySem PySem.Spec PyProof.Rows L2
/-! ### the head: facts by names, the run -/
def top (i : Nat) : Stmt := PySem.Challenge.pw_bestofall_k37_whole_as_many_persons_as_c.main.body.getD i (.Pass ⟨0, 0, 0, 0⟩)
abbrev s__wall : Stmt := top 0
abbrev s_is_int : Stmt := top 7
abbrev s_is_rising : Stmt := top 8
abbrev s_is_lot : Stmt := top 9
abbrev s_are_lots : Stmt := top 10
abbrev s_bits_of : Stmt := top 11
abbrev s_lot_of : Stmt := top 12
abbrev s_how_many : Stmt := top 13
abbrev s_every_bit : Stmt := top 14
abbrev s_can_go : Stmt := top 16
abbrev s_told_stuck : Stmt := top 17
abbrev s_is_choice : Stmt := top 18
abbrev s_look_at_choice : Stmt := top 19
abbrev s_look_at_lists : Stmt := top 23
abbrev s_wanted_by : Stmt := top 24
abbrev s_layers_of : Stmt := top 25
abbrev s_given_by : Stmt := top 26
abbrev s_all_persons : Stmt := top 27
abbrev s_lack_of : Stmt := top 28
abbrev s_are_given : Stmt := top 29
abbrev s_most_had : Stmt := top 30
abbrev s_shows_most_had : Stmt := top 31
abbrev s__law_pot : Stmt := top 33
abbrev s__law_take : Stmt := top 34
abbrev s__law_of : Stmt := top 35
abbrev s__law_cells : Stmt := top 36
abbrev s__law_some : Stmt := top 37
abbrev s__law_odd : Stmt := top 38
abbrev s__law_is_int : Stmt := top 39
abbrev s__law_bent : Stmt := top 40
abbrev s__law_is_bool : Stmt := top 41
abbrev s__law_lots : Stmt := top 42
abbrev s__law_has : Stmt := top 43
abbrev s__law_rank : Stmt := top 44
abbrev s__law_is_free : Stmt := top 45
abbrev s__law_greatest : Stmt := top 46
abbrev s__law_are_apart : Stmt := top 47
abbrev s__law_has_ring : Stmt := top 48
abbrev s__law_can_be_given : Stmt := top 49
abbrev s__law_plain_choice : Stmt := top 50
abbrev s__law_dual : Stmt := top 51
abbrev s__law_choice_drawn : Stmt := top 52
abbrev s__law_lot_drawn : Stmt := top 53
abbrev s__law_is_lot : Stmt := top 54
abbrev s__law_all_of : Stmt := top 55
abbrev s__law_lists_drawn : Stmt := top 56
abbrev s__law_lacking : Stmt := top 57
abbrev s__law_are_given : Stmt := top 58
abbrev s__law_can_have : Stmt := top 59
abbrev s__law_is_due : Stmt := top 60
abbrev s__law_is_right : Stmt := top 61
abbrev s__law_right : Stmt := top 62
abbrev s_law : Stmt := top 63
def d__wall : He.DefD := ⟨("_wall", none), "_wall", "_wall", defArgs s__wall, defBody s__wall, defScope s__wall, [], []⟩
def d_is_int : He.DefD := ⟨("is_int", none), "is_int", "is_int", defArgs s_is_int, defBody s_is_int, defScope s_is_int, [], []⟩
def d_is_rising : He.DefD := ⟨("is_rising", none), "is_rising", "is_rising", defArgs s_is_rising, defBody s_is_rising, defScope s_is_rising, [], []⟩
def d_is_lot : He.DefD := ⟨("is_lot", none), "is_lot", "is_lot", defArgs s_is_lot, defBody s_is_lot, defScope s_is_lot, [], []⟩
def d_are_lots : He.DefD := ⟨("are_lots", none), "are_lots", "are_lots", defArgs s_are_lots, defBody s_are_lots, defScope s_are_lots, [], []⟩
def d_bits_of : He.DefD := ⟨("bits_of", none), "bits_of", "bits_of", defArgs s_bits_of, defBody s_bits_of, defScope s_bits_of, [], []⟩
def d_lot_of : He.DefD := ⟨("lot_of", none), "lot_of", "lot_of", defArgs s_lot_of, defBody s_lot_of, defScope s_lot_of, [], []⟩
def d_how_many : He.DefD := ⟨("how_many", none), "how_many", "how_many", defArgs s_how_many, defBody s_how_many, defScope s_how_many, [], []⟩
def d_every_bit : He.DefD := ⟨("every_bit", none), "every_bit", "every_bit", defArgs s_every_bit, defBody s_every_bit, defScope s_every_bit, [], []⟩
def d_can_go : He.DefD := ⟨("can_go", none), "can_go", "can_go", defArgs s_can_go, defBody s_can_go, defScope s_can_go, [], []⟩
def d_told_stuck : He.DefD := ⟨("told_stuck", none), "told_stuck", "told_stuck", defArgs s_told_stuck, defBody s_told_stuck, defScope s_told_stuck, [], []⟩
def d_is_choice : He.DefD := ⟨("is_choice", none), "is_choice", "is_choice", defArgs s_is_choice, defBody s_is_choice, defScope s_is_choice, [], []⟩
def d_look_at_choice : He.DefD := ⟨("look_at_choice", none), "look_at_choice", "look_at_choice", defArgs s_look_at_choice, defBody s_look_at_choice, defScope s_look_at_choice, [], []⟩
def d_look_at_lists : He.DefD := ⟨("look_at_lists", none), "look_at_lists", "look_at_lists", defArgs s_look_at_lists, defBody s_look_at_lists, defScope s_look_at_lists, [], []⟩
def d_wanted_by : He.DefD := ⟨("wanted_by", none), "wanted_by", "wanted_by", defArgs s_wanted_by, defBody s_wanted_by, defScope s_wanted_by, [], []⟩
def d_layers_of : He.DefD := ⟨("layers_of", none), "layers_of", "layers_of", defArgs s_layers_of, defBody s_layers_of, defScope s_layers_of, [], []⟩
def d_given_by : He.DefD := ⟨("given_by", none), "given_by", "given_by", defArgs s_given_by, defBody s_given_by, defScope s_given_by, [], []⟩
def d_all_persons : He.DefD := ⟨("all_persons", none), "all_persons", "all_persons", defArgs s_all_persons, defBody s_all_persons, defScope s_all_persons, [], []⟩
def d_lack_of : He.DefD := ⟨("lack_of", none), "lack_of", "lack_of", defArgs s_lack_of, defBody s_lack_of, defScope s_lack_of, [], []⟩
def d_are_given : He.DefD := ⟨("are_given", none), "are_given", "are_given", defArgs s_are_given, defBody s_are_given, defScope s_are_given, [], []⟩
def d_most_had : He.DefD := ⟨("most_had", none), "most_had", "most_had", defArgs s_most_had, defBody s_most_had, defScope s_most_had, [], []⟩
def d_shows_most_had : He.DefD := ⟨("shows_most_had", none), "shows_most_had", "shows_most_had", defArgs s_shows_most_had, defBody s_shows_most_had, defScope s_shows_most_had, [], []⟩
def d__law_pot : He.DefD := ⟨("_law_pot", none), "_law_pot", "_law_pot", defArgs s__law_pot, defBody s__law_pot, defScope s__law_pot, [], []⟩
def d__law_take : He.DefD := ⟨("_law_take", none), "_law_take", "_law_take", defArgs s__law_take, defBody s__law_take, defScope s__law_take, [], []⟩
def d__law_of : He.DefD := ⟨("_law_of", none), "_law_of", "_law_of", defArgs s__law_of, defBody s__law_of, defScope s__law_of, [], []⟩
def d__law_cells : He.DefD := ⟨("_law_cells", none), "_law_cells", "_law_cells", defArgs s__law_cells, defBody s__law_cells, defScope s__law_cells, [], []⟩
def d__law_some : He.DefD := ⟨("_law_some", none), "_law_some", "_law_some", defArgs s__law_some, defBody s__law_some, defScope s__law_some, [], []⟩
def d__law_odd : He.DefD := ⟨("_law_odd", none), "_law_odd", "_law_odd", defArgs s__law_odd, defBody s__law_odd, defScope s__law_odd, [], []⟩
def d__law_is_int : He.DefD := ⟨("_law_is_int", none), "_law_is_int", "_law_is_int", defArgs s__law_is_int, defBody s__law_is_int, defScope s__law_is_int, [], []⟩
def d__law_bent : He.DefD := ⟨("_law_bent", none), "_law_bent", "_law_bent", defArgs s__law_bent, defBody s__law_bent, defScope s__law_bent, [], []⟩
def d__law_is_bool : He.DefD := ⟨("_law_is_bool", none), "_law_is_bool", "_law_is_bool", defArgs s__law_is_bool, defBody s__law_is_bool, defScope s__law_is_bool, [], []⟩
def d__law_lots : He.DefD := ⟨("_law_lots", none), "_law_lots", "_law_lots", defArgs s__law_lots, defBody s__law_lots, defScope s__law_lots, [], []⟩
def d__law_has : He.DefD := ⟨("_law_has", none), "_law_has", "_law_has", defArgs s__law_has, defBody s__law_has, defScope s__law_has, [], []⟩
def d__law_rank : He.DefD := ⟨("_law_rank", none), "_law_rank", "_law_rank", defArgs s__law_rank, defBody s__law_rank, defScope s__law_rank, [], []⟩
def d__law_is_free : He.DefD := ⟨("_law_is_free", none), "_law_is_free", "_law_is_free", defArgs s__law_is_free, defBody s__law_is_free, defScope s__law_is_free, [], []⟩
def d__law_greatest : He.DefD := ⟨("_law_greatest", none), "_law_greatest", "_law_greatest", defArgs s__law_greatest, defBody s__law_greatest, defScope s__law_greatest, [], []⟩
def d__law_are_apart : He.DefD := ⟨("_law_are_apart", none), "_law_are_apart", "_law_are_apart", defArgs s__law_are_apart, defBody s__law_are_apart, defScope s__law_are_apart, [], []⟩
def d__law_has_ring : He.DefD := ⟨("_law_has_ring", none), "_law_has_ring", "_law_has_ring", defArgs s__law_has_ring, defBody s__law_has_ring, defScope s__law_has_ring, [], []⟩
def d__law_can_be_given : He.DefD := ⟨("_law_can_be_given", none), "_law_can_be_given", "_law_can_be_given", defArgs s__law_can_be_given, defBody s__law_can_be_given, defScope s__law_can_be_given, [], []⟩
def d__law_plain_choice : He.DefD := ⟨("_law_plain_choice", none), "_law_plain_choice", "_law_plain_choice", defArgs s__law_plain_choice, defBody s__law_plain_choice, defScope s__law_plain_choice, [], []⟩
def d__law_dual : He.DefD := ⟨("_law_dual", none), "_law_dual", "_law_dual", defArgs s__law_dual, defBody s__law_dual, defScope s__law_dual, [], []⟩
def d__law_choice_drawn : He.DefD := ⟨("_law_choice_drawn", none), "_law_choice_drawn", "_law_choice_drawn", defArgs s__law_choice_drawn, defBody s__law_choice_drawn, defScope s__law_choice_drawn, [], []⟩
def d__law_lot_drawn : He.DefD := ⟨("_law_lot_drawn", none), "_law_lot_drawn", "_law_lot_drawn", defArgs s__law_lot_drawn, defBody s__law_lot_drawn, defScope s__law_lot_drawn, [], []⟩
def d__law_is_lot : He.DefD := ⟨("_law_is_lot", none), "_law_is_lot", "_law_is_lot", defArgs s__law_is_lot, defBody s__law_is_lot, defScope s__law_is_lot, [], []⟩
def d__law_all_of : He.DefD := ⟨("_law_all_of", none), "_law_all_of", "_law_all_of", defArgs s__law_all_of, defBody s__law_all_of, defScope s__law_all_of, [], []⟩
def d__law_lists_drawn : He.DefD := ⟨("_law_lists_drawn", none), "_law_lists_drawn", "_law_lists_drawn", defArgs s__law_lists_drawn, defBody s__law_lists_drawn, defScope s__law_lists_drawn, [], []⟩
def d__law_lacking : He.DefD := ⟨("_law_lacking", none), "_law_lacking", "_law_lacking", defArgs s__law_lacking, defBody s__law_lacking, defScope s__law_lacking, [], []⟩
def d__law_are_given : He.DefD := ⟨("_law_are_given", none), "_law_are_given", "_law_are_given", defArgs s__law_are_given, defBody s__law_are_given, defScope s__law_are_given, [], []⟩
def d__law_can_have : He.DefD := ⟨("_law_can_have", none), "_law_can_have", "_law_can_have", defArgs s__law_can_have, defBody s__law_can_have, defScope s__law_can_have, [], []⟩
def d__law_is_due : He.DefD := ⟨("_law_is_due", none), "_law_is_due", "_law_is_due", defArgs s__law_is_due, defBody s__law_is_due, defScope s__law_is_due, [], []⟩
def d__law_is_right : He.DefD := ⟨("_law_is_right", none), "_law_is_right", "_law_is_right", defArgs s__law_is_right, defBody s__law_is_right, defScope s__law_is_right, [], []⟩
def d__law_right : He.DefD := ⟨("_law_right", none), "_law_right", "_law_right", defArgs s__law_right, defBody s__law_right, defScope s__law_right, [], []⟩
def d_law : He.DefD := ⟨("law", none), "law", "law", defArgs s_law, defBody s_law, defScope s_law, [], []⟩
abbrev m___init__ : Stmt := B.clsSt (top 20) 1
abbrev m_rank : Stmt := B.clsSt (top 20) 2
abbrev m_is_free : Stmt := B.clsSt (top 20) 3
abbrev m_reach : Stmt := B.clsSt (top 20) 4
abbrev m_is_tied : Stmt := B.clsSt (top 20) 5
abbrev m_tied : Stmt := B.clsSt (top 20) 6
abbrev m_closed : Stmt := B.clsSt (top 20) 7
def d_Faces___init__ : He.DefD := ⟨("Faces", some "__init__"), "__init__", "Faces.__init__", defArgs m___init__, defBody m___init__, defScope m___init__, [], []⟩
def d_Faces_rank : He.DefD := ⟨("Faces", some "rank"), "rank", "Faces.rank", defArgs m_rank, defBody m_rank, defScope m_rank, [], []⟩
def d_Faces_is_free : He.DefD := ⟨("Faces", some "is_free"), "is_free", "Faces.is_free", defArgs m_is_free, defBody m_is_free, defScope m_is_free, [], []⟩
def d_Faces_reach : He.DefD := ⟨("Faces", some "reach"), "reach", "Faces.reach", defArgs m_reach, defBody m_reach, defScope m_reach, [], []⟩
def d_Faces_is_tied : He.DefD := ⟨("Faces", some "is_tied"), "is_tied", "Faces.is_tied", defArgs m_is_tied, defBody m_is_tied, defScope m_is_tied, [], []⟩
def d_Faces_tied : He.DefD := ⟨("Faces", some "tied"), "tied", "Faces.tied", defArgs m_tied, defBody m_tied, defScope m_tied, [], []⟩
def d_Faces_closed : He.DefD := ⟨("Faces", some "closed"), "closed", "Faces.closed", defArgs m_closed, defBody m_closed, defScope m_closed, [], []⟩
def fnL : List He.DefD := [d__wall, d_is_int, d_is_rising, d_is_lot, d_are_lots, d_bits_of, d_lot_of, d_how_many, d_every_bit, d_can_go, d_told_stuck, d_is_choice, d_look_at_choice, d_look_at_lists, d_wanted_by, d_layers_of, d_given_by, d_all_persons, d_lack_of, d_are_given, d_most_had, d_shows_most_had, d__law_pot, d__law_take, d__law_of, d__law_cells, d__law_some, d__law_odd, d__law_is_int, d__law_bent] ++ [d__law_is_bool, d__law_lots, d__law_has, d__law_rank, d__law_is_free, d__law_greatest, d__law_are_apart, d__law_has_ring, d__law_can_be_given, d__law_plain_choice, d__law_dual, d__law_choice_drawn, d__law_lot_drawn, d__law_is_lot, d__law_all_of, d__law_lists_drawn, d__law_lacking, d__law_are_given, d__law_can_have, d__law_is_due, d__law_is_right, d__law_right, d_law]
def meL : List He.DefD := [d_Faces___init__, d_Faces_rank, d_Faces_is_free, d_Faces_reach, d_Faces_is_tied, d_Faces_tied, d_Faces_closed]
def faL : List He.Fa := [(.glo "_wall" : He.Fa), (.glo "is_int" : He.Fa), (.glo "is_rising" : He.Fa), (.glo "is_lot" : He.Fa), (.glo "are_lots" : He.Fa), (.glo "bits_of" : He.Fa), (.glo "lot_of" : He.Fa), (.glo "how_many" : He.Fa), (.glo "every_bit" : He.Fa), (.glo "can_go" : He.Fa), (.glo "told_stuck" : He.Fa), (.glo "is_choice" : He.Fa), (.glo "look_at_choice" : He.Fa), (.glo "look_at_lists" : He.Fa), (.glo "wanted_by" : He.Fa), (.glo "layers_of" : He.Fa), (.glo "given_by" : He.Fa), (.glo "all_persons" : He.Fa), (.glo "lack_of" : He.Fa), (.glo "are_given" : He.Fa), (.glo "most_had" : He.Fa), (.glo "shows_most_had" : He.Fa), (.glo "_law_pot" : He.Fa), (.glo "_law_take" : He.Fa), (.glo "_law_of" : He.Fa), (.glo "_law_cells" : He.Fa), (.glo "_law_some" : He.Fa), (.glo "_law_odd" : He.Fa), (.glo "_law_is_int" : He.Fa), (.glo "_law_bent" : He.Fa)] ++ [(.glo "_law_is_bool" : He.Fa), (.glo "_law_lots" : He.Fa), (.glo "_law_has" : He.Fa), (.glo "_law_rank" : He.Fa), (.glo "_law_is_free" : He.Fa), (.glo "_law_greatest" : He.Fa), (.glo "_law_are_apart" : He.Fa), (.glo "_law_has_ring" : He.Fa), (.glo "_law_can_be_given" : He.Fa), (.glo "_law_plain_choice" : He.Fa), (.glo "_law_dual" : He.Fa), (.glo "_law_choice_drawn" : He.Fa), (.glo "_law_lot_drawn" : He.Fa), (.glo "_law_is_lot" : He.Fa), (.glo "_law_all_of" : He.Fa), (.glo "_law_lists_drawn" : He.Fa), (.glo "_law_lacking" : He.Fa), (.glo "_law_are_given" : He.Fa), (.glo "_law_can_have" : He.Fa), (.glo "_law_is_due" : He.Fa), (.glo "_law_is_right" : He.Fa), (.glo "_law_right" : He.Fa), (.glo "law" : He.Fa), (.free "ValueError" : He.Fa), (.free "abs" : He.Fa), (.free "all" : He.Fa), (.free "any" : He.Fa), (.free "bool" : He.Fa), (.free "enumerate" : He.Fa), (.free "int" : He.Fa)] ++ [(.free "isinstance" : He.Fa), (.free "len" : He.Fa), (.free "list" : He.Fa), (.free "max" : He.Fa), (.free "min" : He.Fa), (.free "range" : He.Fa), (.free "set" : He.Fa), (.free "sorted" : He.Fa), (.free "str" : He.Fa), (.free "sum" : He.Fa), (.free "super" : He.Fa), (.free "tuple" : He.Fa), (.free "zip" : He.Fa), (.int "MOST_THINGS" 9 : He.Fa), (.int "MOST_LISTS" 9 : He.Fa), (.glo "Faces" : He.Fa), (.mkr "Faces" : He.Fa), (.meth "Faces" "rank" : He.Fa), (.meth "Faces" "is_free" : He.Fa), (.meth "Faces" "reach" : He.Fa), (.meth "Faces" "is_tied" : He.Fa), (.meth "Faces" "tied" : He.Fa), (.meth "Faces" "closed" : He.Fa)]
def tfL : List He.Defn := [("_law_plain_choice", none)]
def exL (K : PySem.W.Frag) : Bool := B.sclsB K "Faces" [("amount", 0), ("every", 1), ("fulls", 2), ("ranks_told", 3)]
def namesL : List PySem.Str := [("_wall" : PySem.Str), ("BestError" : PySem.Str), ("BadChoice" : PySem.Str), ("BadLists" : PySem.Str), ("MOST_THINGS" : PySem.Str), ("is_int" : PySem.Str), ("is_rising" : PySem.Str), ("is_lot" : PySem.Str), ("are_lots" : PySem.Str), ("bits_of" : PySem.Str), ("lot_of" : PySem.Str), ("how_many" : PySem.Str), ("every_bit" : PySem.Str), ("can_go" : PySem.Str), ("told_stuck" : PySem.Str), ("is_choice" : PySem.Str), ("look_at_choice" : PySem.Str), ("Faces" : PySem.Str), ("MOST_LISTS" : PySem.Str), ("look_at_lists" : PySem.Str), ("wanted_by" : PySem.Str), ("layers_of" : PySem.Str), ("given_by" : PySem.Str), ("all_persons" : PySem.Str), ("lack_of" : PySem.Str), ("are_given" : PySem.Str), ("most_had" : PySem.Str), ("shows_most_had" : PySem.Str), ("_law_pot" : PySem.Str), ("_law_take" : PySem.Str)] ++ [("_law_of" : PySem.Str), ("_law_cells" : PySem.Str), ("_law_some" : PySem.Str), ("_law_odd" : PySem.Str), ("_law_is_int" : PySem.Str), ("_law_bent" : PySem.Str), ("_law_is_bool" : PySem.Str), ("_law_lots" : PySem.Str), ("_law_has" : PySem.Str), ("_law_rank" : PySem.Str), ("_law_is_free" : PySem.Str), ("_law_greatest" : PySem.Str), ("_law_are_apart" : PySem.Str), ("_law_has_ring" : PySem.Str), ("_law_can_be_given" : PySem.Str), ("_law_plain_choice" : PySem.Str), ("_law_dual" : PySem.Str), ("_law_choice_drawn" : PySem.Str), ("_law_lot_drawn" : PySem.Str), ("_law_is_lot" : PySem.Str), ("_law_all_of" : PySem.Str), ("_law_lists_drawn" : PySem.Str), ("_law_lacking" : PySem.Str), ("_law_are_given" : PySem.Str), ("_law_can_have" : PySem.Str), ("_law_is_due" : PySem.Str), ("_law_is_right" : PySem.Str), ("_law_right" : PySem.Str)]
abbrev s_init : Stmt := B.clsSt (top 2) 0
def initV : B.FnC := some (("__init__" : PySem.Str), ("BestError.__init__" : PySem.Str), defArgs s_init, FuncBody.stmts (defBody s_init), defScope s_init, mainGlobals, [("__class__" : PySem.Str)], builtinsNs)
def errN : B.ErrN := ⟨"BestError", [("BadChoice" : PySem.Str), ("BadLists" : PySem.Str)], PySem.Challenge.pw_bestofall_k37_whole_as_many_persons_as_c.main.file⟩
abbrev R : PySem.W.OpenRow := PySem.W.OpenLaw.row PySem.Challenge.rw_bestofall_k37_whole_as_many_persons_as_c
abbrev hk : PySem.W.Hook := B.hookY 4 faL (fnL ++ meL) [] tfL exL initV errN
def ob (s : PySem.W.SharedT) : B.AlY := B.obsY 4 faL (fnL ++ meL) [] tfL exL errN (HandSHeadRun.getT s)
theorem ob_eq (s : PySem.W.SharedT) : ob s = hk.obs s.abs := B.obsY_eq (HandSHeadRun.getT_eq s)
theorem run (w : World) : HandSHeadRun.RunEq R (PySem.W.view R.prog [63]) hk ob 5000 namesL w := by
  intro os
  kernel_rfl
end K13
end
section
set_option maxHeartbeats 4000000
namespace K13
open PySem PySem.Spec PyProof.Rows L2 B
/-! P1: lots of at most five things, their bits. -/
def subs : Nat → Int → List (List Int)
  | 0, _ => [[]]
  | k + 1, lo => (subs k (lo + 1)).map (lo :: ·) ++ subs k (lo + 1)
abbrev L6 : List (List Int) := subs 6 0
def lotD (l : List Int) : PyData := .tuple (l.map PyData.int)
def lotsD (ls : List (List Int)) : PyData := .tuple (ls.map lotD)
def bits (l : List Int) : Int := (l.map fun t => 2 ^ t.toNat).sum
/-- u put into r -/
def ins (r : List Int) (u : Int) : List Int := [0, 1, 2, 3, 4, 5].filter fun x => r.contains x || x == u
def less (a b : List Int) : List Int := a.filter fun x => !b.contains x
def drp (a : List Int) (t : Int) : List Int := a.filter fun x => x != t
theorem F_less : ∀ a ∈ L6, ∀ b ∈ L6, Builtin.bitAnd (bits a) (Builtin.bitNot (bits b)) = bits (less a b) ∧ less a b ∈ L6 := by decide +kernel
theorem F_drp : ∀ a ∈ L6, ∀ t ∈ ([0, 1, 2, 3, 4, 5] : List Int), Builtin.bitAnd (bits a) (Builtin.bitNot (1 * 2 ^ t.toNat)) = bits (drp a t) ∧ drp a t ∈ L6 := by decide +kernel
theorem F_ins : ∀ a ∈ L6, ∀ t ∈ ([0, 1, 2, 3, 4, 5] : List Int), Builtin.bitOr (bits a) (1 * 2 ^ t.toNat) = bits (ins a t) ∧ ins a t ∈ L6 := by decide +kernel
theorem F_mem : ∀ a ∈ L6, ∀ t ∈ a, t ∈ ([0, 1, 2, 3, 4, 5] : List Int) := by decide +kernel
theorem F_inj : ∀ a ∈ L6, ∀ b ∈ L6, bits a = bits b → a = b := by decide +kernel
theorem F_len : ∀ a ∈ L6, a.length ≤ 6 := by decide +kernel
theorem F_up : ∀ a ∈ L6, ∀ k ∈ List.range 7, (0 < bits a / 2 ^ k) ↔ ∃ t ∈ a, (k : Int) ≤ t := by decide +kernel
theorem F_at : ∀ a ∈ L6, ∀ k ∈ List.range 7, (Builtin.bitAnd (bits a / 2 ^ k) 1 != 0) = a.contains (k : Int) := by decide +kernel
theorem F_pre : ∀ a ∈ L6, ∀ k ∈ List.range 7, a.filter (fun t => decide (t < (k : Int) + 1)) = a.filter (fun t => decide (t < (k : Int))) ++ (if a.contains (k : Int) then [(k : Int)] else []) := by decide +kernel
theorem F_all : ∀ a ∈ L6, ∀ k ∈ List.range 7, (¬ ∃ t ∈ a, (k : Int) ≤ t) → a.filter (fun t => decide (t < (k : Int))) = a := by decide +kernel
theorem mem_subs : ∀ (k : Nat) (lo : Int) (l : List Int), l.Pairwise (· < ·) → (∀ t ∈ l, lo ≤ t ∧ t < lo + k) → l ∈ subs k lo
  | 0, lo, l, _, h => by
    cases l with
    | nil => exact List.mem_singleton.mpr rfl
    | cons t r => have := h t List.mem_cons_self; omega
  | k + 1, lo, l, hp, h => by
    unfold subs
    rw [List.mem_append]
    cases l with
    | nil => exact .inr (mem_subs k (lo + 1) [] .nil (fun t ht => by cases ht))
    | cons t r =>
      rw [List.pairwise_cons] at hp
      have h0 := h t List.mem_cons_self
      by_cases e : t = lo
      · subst e
        refine .inl (List.mem_map.mpr ⟨r, mem_subs k (t + 1) r hp.2 fun u hu => ?_, rfl⟩)
        have h1 := hp.1 u hu
        have h2 := h u (List.mem_cons_of_mem _ hu)
        omega
      · refine .inr (mem_subs k (lo + 1) (t :: r) (List.pairwise_cons.mpr hp) fun u hu => ?_)
        have h2 := h u hu
        rcases List.mem_cons.mp hu with e2 | e2
        · subst e2; omega
        · have h1 := hp.1 u e2
          omega
theorem L6_of {l : List Int} (hp : l.Pairwise (· < ·)) (h : ∀ t ∈ l, 0 ≤ t ∧ t < 6) : l ∈ L6 := mem_subs 6 0 l hp (fun t ht => by have := h t ht; omega)
theorem L6_pw : ∀ l ∈ L6, l.Pairwise (· < ·) ∧ ∀ t ∈ l, 0 ≤ t ∧ t < 6 := by decide +kernel
/-! ### data -/
def isIntIn (d : PyData) (lo hi : Int) : Bool := match d with
  | .int i => decide (lo ≤ i) && decide (i ≤ hi)
  | _ => false
def risD (ds : List PyData) : Bool := (ds.zip (ds.drop 1)).all fun p => PySem.W.dataLt p.1 p.2
def isLotD (many : Int) (v : PyData) : Bool := match v with
  | .tuple ds => ds.all (fun d => isIntIn d 0 (many - 1)) && risD ds
  | _ => false
theorem pl_int (i : Int) : Pl (.int i) := ⟨rfl, by show PyData.depth (.int i) ≤ 100; unfold PyData.depth; omega⟩
theorem ints_plain : ∀ l : List Int, PyData.plainAll (l.map PyData.int) = true
  | [] => rfl
  | i :: l => by
    show ((PyData.int i).plain && PyData.plainAll (l.map PyData.int)) = true
    rw [ints_plain l]
    rfl
end K13
end
section
set_option maxHeartbeats 4000000
namespace K13
open PySem PySem.Spec PyProof.Rows L2 B
/-! P2: data of lots: plain, alike, their order. -/
theorem lt_int (a b : Int) : PySem.W.dataLt (.int a) (.int b) = decide (a < b) := by
  unfold PySem.W.dataLt PySem.W.keyToks
  simp [PyProof.Rows.lexLt, PyProof.Rows.itemOrd, PyProof.Rows.itemLt]
theorem lt_lots : ∀ a ∈ L6, ∀ b ∈ L6, PySem.W.dataLt (lotD a) (lotD b) = (decide (a < b)) := by decide +kernel
theorem alike_int (a b : Int) : PySem.W.alike (.int a) (.int b) = true := by rw [PySem.W.alike]
theorem alike_ints : ∀ (a b : List Int), PySem.W.alikeAll (a.map PyData.int) (b.map PyData.int) = true
  | [], b => by rw [List.map_nil, PySem.W.alikeAll]
  | _ :: _, [] => by rw [List.map_nil, List.map_cons, PySem.W.alikeAll]
  | x :: a, y :: b => by
    rw [List.map_cons, List.map_cons, PySem.W.alikeAll, alike_int, alike_ints a b]
    rfl
theorem alike_lot (a b : List Int) : PySem.W.alike (lotD a) (lotD b) = true := by
  unfold lotD
  rw [PySem.W.alike]
  exact alike_ints a b
theorem dep_ints : ∀ l : List Int, PyData.depthAll (l.map PyData.int) = 0
  | [] => by rw [List.map_nil, PyData.depthAll]
  | i :: l => by rw [List.map_cons, PyData.depthAll, dep_ints l, PyData.depth]; rfl
theorem pl_lot (l : List Int) : Pl (lotD l) := by
  refine ⟨?_, ?_⟩
  · show PyData.plain (.tuple (l.map PyData.int)) = true
    rw [PyData.plain]
    exact ints_plain l
  · show PyData.depth (.tuple (l.map PyData.int)) ≤ 100
    rw [PyData.depth, dep_ints]
    omega
theorem lots_plain : ∀ ls : List (List Int), PyData.plainAll (ls.map lotD) = true ∧ PyData.depthAll (ls.map lotD) ≤ 1
  | [] => by constructor <;> simp [PyData.plainAll, PyData.depthAll]
  | l :: ls => by
    obtain ⟨h1, h2⟩ := lots_plain ls
    have h3 : (lotD l).depth = 1 := by
      show PyData.depth (.tuple (l.map PyData.int)) = 1
      rw [PyData.depth, dep_ints]
    constructor
    · rw [List.map_cons, PyData.plainAll, (pl_lot l).1, h1]
      rfl
    · rw [List.map_cons, PyData.depthAll, h3]
      omega
theorem plA_lots (ls : List (List Int)) : PlA (ls.map lotD) := ⟨(lots_plain ls).1, by have := (lots_plain ls).2; omega⟩
theorem plA_ints (l : List Int) : PlA (l.map PyData.int) := ⟨ints_plain l, by rw [dep_ints]; omega⟩
theorem pl_lots (ls : List (List Int)) : Pl (lotsD ls) := by
  refine ⟨?_, ?_⟩
  · show PyData.plain (.tuple (ls.map lotD)) = true
    rw [PyData.plain]
    exact (lots_plain ls).1
  · show PyData.depth (.tuple (ls.map lotD)) ≤ 100
    rw [PyData.depth]
    have := (lots_plain ls).2
    omega
theorem pl_bool (x : Bool) : Pl (.bool x) := ⟨rfl, by rw [PyData.depth]; omega⟩
theorem lotD_inj {a b : List Int} (h : lotD a = lotD b) : a = b := by
  unfold lotD at h
  injection h with h
  induction a generalizing b with
  | nil => cases b with
    | nil => rfl
    | cons y b => cases h
  | cons x a ih => cases b with
    | nil => cases h
    | cons y b =>
      rw [List.map_cons, List.map_cons] at h
      injection h with h1 h2
      injection h1 with h1
      rw [h1, ih h2]
structure HeapOk (many : Int) (ls : List (List Int)) : Prop where
  lo : 0 ≤ many
  hi : many ≤ 6
  ne : ls ≠ []
  len : ls.length ≤ 64
  mem : ∀ l ∈ ls, l ∈ L6 ∧ ∀ t ∈ l, t < many
  inc : ls.Pairwise (fun a b => a < b)
  anti : ∀ a ∈ ls, ∀ b ∈ ls, a ≠ b → ¬ ∀ t ∈ a, t ∈ b
def heapD (many : Int) (ls : List (List Int)) : PyData := .tuple [.int many, lotsD ls]
end K13
end
section
set_option maxHeartbeats 4000000
namespace K13
open PySem PySem.Spec PyProof.Rows L2 B
/-! W1: the walk, first part. -/
structure Gl (K : PySem.W.Frag) (mg : Str → Option Value) : Prop where
  df : ∀ d ∈ fnL, ∃ f fd, FunD K d.name d.qual d.params d.body d.scope [] [] f fd ∧ mg d.name = some (.ref f)
  fr : ∀ x, He.Fa.free x ∈ faL → mg x = none
  nt : ∀ x i, He.Fa.int x i ∈ faL → ∃ t, mg x = some (.int i t)
  st : ∀ x z, He.Fa.str x z ∈ faL → ∃ t, mg x = some (.str z t)
section
variable {P : Program} {w : World} {K : PySem.W.Frag} {mg : Str → Option Value} {base : Heap}
theorem okf {d : He.DefD} {N ps : List Str} {k : Nat} {o : ON} (gl : Gl K mg) (i : Nat) (hd : fnL[i]? = some d) 
    (hb : ∀ (kV doc pm : Value) (an : Option Addr) (cdv ct : Value) (us : List Value), us.length = ps.length → bindArgs (PySem.W.fnOf d.name d.qual d.params d.body d.scope .none kV doc pm an cdv ct) ⟨us, []⟩ = pure (ps.zip us))
    (S : C8.scC N ps d.scope = true) (len : ∀ gs M Q, o gs M Q → gs.length = ps.length)
    (h : ∀ gs M Q, o gs M Q → DS ⟨P, w, K, mg, base, N, d.scope, k, fun _ => true, none, fun _ => True⟩ d.body (startG N gs) M (dRet Q)) : Fn P w K mg base (k + 1) d.name o := by
  obtain ⟨f, fd, F, hm⟩ := gl.df d (List.mem_of_getElem? hd)
  exact fn_ok F hm hb (C8.fnScope_by S) len h
theorem n_abs (gl : Gl K mg) : mg "abs" = none := gl.fr _ (List.mem_of_getElem? (i := 54) rfl)
theorem n_all (gl : Gl K mg) : mg "all" = none := gl.fr _ (List.mem_of_getElem? (i := 55) rfl)
theorem n_any (gl : Gl K mg) : mg "any" = none := gl.fr _ (List.mem_of_getElem? (i := 56) rfl)
theorem n_bool (gl : Gl K mg) : mg "bool" = none := gl.fr _ (List.mem_of_getElem? (i := 57) rfl)
theorem n_enumerate (gl : Gl K mg) : mg "enumerate" = none := gl.fr _ (List.mem_of_getElem? (i := 58) rfl)
theorem n_int (gl : Gl K mg) : mg "int" = none := gl.fr _ (List.mem_of_getElem? (i := 59) rfl)
theorem n_isinstance (gl : Gl K mg) : mg "isinstance" = none := gl.fr _ (List.mem_of_getElem? (i := 60) rfl)
theorem n_len (gl : Gl K mg) : mg "len" = none := gl.fr _ (List.mem_of_getElem? (i := 61) rfl)
theorem n_list (gl : Gl K mg) : mg "list" = none := gl.fr _ (List.mem_of_getElem? (i := 62) rfl)
theorem n_max (gl : Gl K mg) : mg "max" = none := gl.fr _ (List.mem_of_getElem? (i := 63) rfl)
theorem n_min (gl : Gl K mg) : mg "min" = none := gl.fr _ (List.mem_of_getElem? (i := 64) rfl)
theorem n_range (gl : Gl K mg) : mg "range" = none := gl.fr _ (List.mem_of_getElem? (i := 65) rfl)
theorem n_set (gl : Gl K mg) : mg "set" = none := gl.fr _ (List.mem_of_getElem? (i := 66) rfl)
theorem n_sorted (gl : Gl K mg) : mg "sorted" = none := gl.fr _ (List.mem_of_getElem? (i := 67) rfl)
theorem n_str (gl : Gl K mg) : mg "str" = none := gl.fr _ (List.mem_of_getElem? (i := 68) rfl)
theorem n_sum (gl : Gl K mg) : mg "sum" = none := gl.fr _ (List.mem_of_getElem? (i := 69) rfl)
theorem n_tuple (gl : Gl K mg) : mg "tuple" = none := gl.fr _ (List.mem_of_getElem? (i := 71) rfl)
theorem n_zip (gl : Gl K mg) : mg "zip" = none := gl.fr _ (List.mem_of_getElem? (i := 72) rfl)
def o_is_int : ON := fun gs M Q => ∃ d lo hi, gs = [.d d, .d (.int lo), .d (.int hi)] ∧ Q (.d (.bool (isIntIn d lo hi))) M
theorem ok_is_int (gl : Gl K mg) : Fn P w K mg base 1 "is_int" o_is_int := by
  refine okf (d := d_is_int) (N := ["value", "low", "high"]) (ps := ["value", "low", "high"]) gl 1 rfl (fun _ _ _ _ _ _ us hl => match us, hl with | [_, _, _], _ => rfl) (by decide +kernel) (fun gs M Q ⟨d, lo, hi, e, q⟩ => by rw [e]; rfl) (fun gs M Q ⟨d, lo, hi, e, q⟩ => ?_)
  subst e
  refine ds_cons (d1_ret (PD.de (g := .d (.bool (isIntIn d lo hi))) ?_ q))
  have e : isIntIn d lo hi = (isI d && (!isBl d && isIntIn d lo hi)) := by cases d <;> simp [isIntIn, isI, isBl]
  rw [e]
  refine pd_and (pd_callB o_isi (n_isinstance gl) rfl (.cons (pd_var 0) (.cons (pd_ty (n_int gl) rfl) .nil)) (oIsi_int ⟨rfl, rfl⟩)) fun h1 => ?_
  refine pd_and (pd_notV (pd_callB o_isi (n_isinstance gl) rfl (.cons (pd_var 0) (.cons (pd_ty (n_bool gl) rfl) .nil)) (oIsi_bool ⟨rfl, rfl⟩))) fun h2 => ?_
  cases d <;> try cases h1
  · cases h2
  · exact pd_one (pd_chain o_le o_le (pd_var 1) (pd_var 0) (pd_var 2) ⟨_, _, rfl, rfl, rfl, rfl⟩ (fun _ => ⟨_, _, rfl, rfl, rfl, rfl⟩))
/-- the law's own is_int -/
theorem ok__law_is_int (gl : Gl K mg) : Fn P w K mg base 1 "_law_is_int" o_is_int := by
  refine okf (d := d__law_is_int) (N := ["value", "low", "high"]) (ps := ["value", "low", "high"]) gl 28 rfl (fun _ _ _ _ _ _ us hl => match us, hl with | [_, _, _], _ => rfl) (by decide +kernel) (fun gs M Q ⟨d, lo, hi, e, q⟩ => by rw [e]; rfl) (fun gs M Q ⟨d, lo, hi, e, q⟩ => ?_)
  subst e
  refine ds_cons (d1_ret (PD.de (g := .d (.bool (isIntIn d lo hi))) ?_ q))
  have e : isIntIn d lo hi = (isI d && (!isBl d && isIntIn d lo hi)) := by cases d <;> simp [isIntIn, isI, isBl]
  rw [e]
  refine pd_and (pd_callB o_isi (n_isinstance gl) rfl (.cons (pd_var 0) (.cons (pd_ty (n_int gl) rfl) .nil)) (oIsi_int ⟨rfl, rfl⟩)) fun h1 => ?_
  refine pd_and (pd_notV (pd_callB o_isi (n_isinstance gl) rfl (.cons (pd_var 0) (.cons (pd_ty (n_bool gl) rfl) .nil)) (oIsi_bool ⟨rfl, rfl⟩))) fun h2 => ?_
  cases d <;> try cases h1
  · cases h2
  · exact pd_one (pd_chain o_le o_le (pd_var 1) (pd_var 0) (pd_var 2) ⟨_, _, rfl, rfl, rfl, rfl⟩ (fun _ => ⟨_, _, rfl, rfl, rfl, rfl⟩))
def AlkA (ds : List PyData) : Prop := (∀ d ∈ ds, Pl d ∧ d ≠ .none) ∧ (∀ d ∈ ds, ∀ e ∈ ds, PySem.W.alike d e = true) ∧ ds.length ≤ sizeLine
def o_is_rising : ON := fun gs M Q => ∃ ds, gs = [.d (.tuple ds)] ∧ AlkA ds ∧ Q (.d (.bool (risD ds))) M
theorem ok_is_rising (gl : Gl K mg) : Fn P w K mg base 1 "is_rising" o_is_rising := by
  refine okf (d := d_is_rising) (N := ["some", "one", "other"]) (ps := ["some"]) gl 2 rfl (fun _ _ _ _ _ _ us hl => match us, hl with | [_], _ => rfl) (by decide +kernel) (fun gs M Q ⟨d, e, _⟩ => by rw [e]; rfl) (fun gs M Q ⟨ds, e, ⟨h1, h2, h3⟩, q⟩ => ?_)
  subst e
  refine ds_cons (d1_ret (PD.de (g := .d (.bool (risD ds))) ?_ q))
  refine pd_allc [("one", 1), ("other", 2)] (fun p : PyData × PyData => G.d (.tuple [p.1, p.2])) (ds.zip (ds.drop 1)) (fun p => PySem.W.dataLt p.1 p.2) (n_all gl) (pit_zipT (n_zip gl) (pd_var 0) (pd_slT (pd_var 0) (.some pd_int) .none)) (by rw [cut_from1, zipG_eq]) (by rw [List.length_zip]; omega) fun M' e p hp => ?_
  obtain ⟨m1, m2⟩ := List.of_mem_zip hp
  have m2 := List.mem_of_mem_drop m2
  exact dc_tup (ds := [p.1, p.2]) (n := 2) (dcs_cons (dc_name 1 (dcs_cons (dc_name 2 (dcs_nil ⟨rfl, pd_cmp o_ltD (pd_var 1) (pd_var 2) ⟨_, _, .d _, .d _, (h1 _ m1).1, (h1 _ m2).1, h2 _ m1 _ m2, (h1 _ m1).2, rfl, rfl⟩⟩))))) rfl
end
end K13
end
section
set_option maxHeartbeats 4000000
namespace K13
open PySem PySem.Spec PyProof.Rows L2 B
/-! W2: lots looked at, their bits. -/
theorem ints_of_all {lo hi : Int} : ∀ {ds : List PyData}, (ds.all fun d => isIntIn d lo hi) = true → ∃ ns : List Int, ds = ns.map PyData.int ∧ ∀ n ∈ ns, lo ≤ n ∧ n ≤ hi
  | [], _ => ⟨[], rfl, fun n h => by cases h⟩
  | d :: ds, h => by
    rw [List.all_cons, Bool.and_eq_true] at h
    obtain ⟨ns, e, hn⟩ := ints_of_all h.2
    cases d with
    | int i =>
      have h1 : (decide (lo ≤ i) && decide (i ≤ hi)) = true := h.1
      rw [Bool.and_eq_true, decide_eq_true_eq, decide_eq_true_eq] at h1
      refine ⟨i :: ns, by rw [e]; rfl, fun n hm => ?_⟩
      rcases List.mem_cons.mp hm with e2 | e2
      · rw [e2]; exact h1
      · exact hn n e2
    | _ => exact absurd h.1 Bool.false_ne_true
theorem alkA_ints (ns : List Int) (h : ns.length ≤ sizeLine) : AlkA (ns.map PyData.int) := by
  refine ⟨fun d hd => ?_, fun d hd e he => ?_, by rw [List.length_map]; exact h⟩
  · obtain ⟨n, _, rfl⟩ := List.mem_map.mp hd
    exact ⟨pl_int n, fun z => nomatch z⟩
  · obtain ⟨n, _, rfl⟩ := List.mem_map.mp hd
    obtain ⟨m, _, rfl⟩ := List.mem_map.mp he
    exact alike_int n m
theorem alkA_lots (ls : List (List Int)) (h : ls.length ≤ sizeLine) : AlkA (ls.map lotD) := by
  refine ⟨fun d hd => ?_, fun d hd e he => ?_, by rw [List.length_map]; exact h⟩
  · obtain ⟨n, _, rfl⟩ := List.mem_map.mp hd
    exact ⟨pl_lot n, fun z => nomatch z⟩
  · obtain ⟨n, _, rfl⟩ := List.mem_map.mp hd
    obtain ⟨m, _, rfl⟩ := List.mem_map.mp he
    exact alike_lot n m
def Wd (v : PyData) : Prop := ∀ ds, v = .tuple ds → ds.length ≤ sizeLine
theorem wd_lot {l : List Int} (h : l.length ≤ sizeLine) : Wd (lotD l) := fun ds e => by
  cases e
  rw [List.length_map]
  exact h
theorem isT_tuple {v : PyData} (h : isT v = true) : ∃ ds, v = .tuple ds := by
  cases v <;> first | exact ⟨_, rfl⟩ | cases h
section
variable {P : Program} {w : World} {K : PySem.W.Frag} {mg : Str → Option Value} {base : Heap}
def o_is_lot : ON := fun gs M Q => ∃ many v, gs = [.d (.int many), .d v] ∧ Wd v ∧ Q (.d (.bool (isLotD many v))) M
theorem ok_is_lot (gl : Gl K mg) : Fn P w K mg base 2 "is_lot" o_is_lot := by
  refine okf (d := d_is_lot) (N := ["many", "value", "thing"]) (ps := ["many", "value"]) gl 3 rfl (fun _ _ _ _ _ _ us hl => match us, hl with | [_, _], _ => rfl) (by decide +kernel) (fun gs M Q ⟨a, b, e, _⟩ => by rw [e]; rfl) (fun gs M Q ⟨many, v, e, hw, q⟩ => ?_)
  subst e
  cases hv : isT v with
  | false =>
    refine ds_cons (d1_if (PB.dt (PW'.pb (pw_or' (k := !isT v) (l := true) (pb_not (pb_val (pd_callB o_isi (n_isinstance gl) rfl (.cons (pd_var 1) (.cons (pd_ty (n_tuple gl) rfl) .nil)) (oIsi_tuple ⟨rfl, rfl⟩)))) (fun h => by rw [hv] at h; cases h))) ?_))
    refine ifT (by rw [hv]; rfl) (ds_cons (d1_ret (PD.de pd_bl ?_)))
    have : isLotD many v = false := by cases v <;> first | rfl | cases hv
    rw [this] at q
    exact q
  | true =>
    obtain ⟨ds, rfl⟩ := isT_tuple hv
    refine ds_cons (d1_if (PB.dt (PW'.pb (pw_or' (k := false) (l := !(ds.all fun d => isIntIn d 0 (many - 1))) (pb_not (k := true) (pb_val (pd_callB o_isi (n_isinstance gl) rfl (.cons (pd_var 1) (.cons (pd_ty (n_tuple gl) rfl) .nil)) (oIsi_tuple ⟨rfl, rfl⟩)))) fun _ => pw_or1' (pb_not (pb_val
      (pd_allc [("thing", 2)] B.G.d ds (fun d => isIntIn d 0 (many - 1)) (n_all gl) (pit_tup (pd_var 1)) rfl (hw ds rfl) fun M' e d hd => dc_name 2 ⟨rfl, pd_call (ok_is_int gl) (.cons (pd_var 2) (.cons pd_int (.cons (pd_bin o_sub (pd_var 0) pd_int ⟨_, _, rfl, rfl, rfl, rfl⟩) .nil))) ⟨_, _, _, rfl, rfl, rfl⟩⟩))))) ?_))
    cases ha : ds.all fun d => isIntIn d 0 (many - 1) with
    | false =>
      refine iteT (ds_cons (d1_ret (PD.de pd_bl ?_)))
      have : isLotD many (.tuple ds) = false := by show (ds.all (fun d => isIntIn d 0 (many - 1)) && risD ds) = false; rw [ha]; rfl
      rw [this] at q
      exact q
    | true =>
      obtain ⟨ns, e, hn⟩ := ints_of_all ha
      refine iteF (ds_nil (ds_cons (d1_ret (PD.de (pd_call (ok_is_rising gl) (da1 (pd_var 1)) ⟨ds, rfl, ?_, rfl, rfl⟩) ?_))))
      · have hl := hw ds rfl
        subst e
        exact alkA_ints ns (by rw [List.length_map] at hl; exact hl)
      · have : isLotD many (.tuple ds) = risD ds := by show (ds.all (fun d => isIntIn d 0 (many - 1)) && risD ds) = _; rw [ha]; rfl
        rw [this] at q
        exact q
def o_bits_of : ON := fun gs M Q => ∃ l, l ∈ L6 ∧ gs = [.d (lotD l)] ∧ Q (.d (.int (bits l))) M
theorem ok_bits_of (gl : Gl K mg) : Fn P w K mg base 1 "bits_of" o_bits_of := by
  refine okf (d := d_bits_of) (N := ["lot", "thing"]) (ps := ["lot"]) gl 5 rfl (fun _ _ _ _ _ _ us hl => match us, hl with | [_], _ => rfl) (by decide +kernel) (fun gs M Q ⟨a, _, e, _⟩ => by rw [e]; rfl) (fun gs M Q ⟨l, hl, e, q⟩ => ?_)
  subst e
  have h1 := (L6_pw l hl).2
  have h2 := F_len l hl
  refine ds_cons (d1_ret (PD.de (pd_sumc [("thing", 1)] (fun t : Int => B.G.d (.int t)) l (fun t => 1 * 2 ^ t.toNat) (n_sum gl) (pit_tup (ds := l.map PyData.int) (pd_var 0)) (by rw [List.map_map]; rfl) (by show _ ≤ 16777216; omega) fun M' e t ht => dc_name 1 ⟨rfl, pd_bin o_shl pd_int (pd_var 1) ⟨_, _, rfl, rfl, ?_, rfl, rfl⟩⟩) ?_))
  · have := h1 t ht
    refine ⟨?_, ?_⟩ <;> omega
  · have : (l.map fun t => 1 * 2 ^ t.toNat).sum = bits l := by unfold bits; simp
    rw [this]
    exact q
end
end K13
end
section
set_option maxHeartbeats 4000000
namespace K13
open PySem PySem.Spec PyProof.Rows L2 B
/-! P3: the dict of bits, swaps. -/
def bitsMap (ls : List (List Int)) : List (Key × B.G) := ls.foldl (fun m l => putG m (.inl (bits l)) (.d (.bool true))) []
theorem putG_val (m : List (Key × B.G)) (k k' : Key) (g : B.G) : (valG (putG m k g) k').isSome = ((valG m k').isSome || decide (k = k')) := by
  unfold putG
  by_cases h : (m.any fun kv => decide (kv.1 = k)) = true
  · rw [if_pos h]
    have h1 : ∀ m : List (Key × B.G), (valG (m.map fun kv => if kv.1 = k then (kv.1, g) else kv) k').isSome = (valG m k').isSome := by
      intro m
      induction m with
      | nil => rfl
      | cons x m ih =>
        rw [List.map_cons]
        by_cases hx : x.1 = k'
        · have e1 : (if x.1 = k then (x.1, g) else x).1 = k' := by split <;> exact hx
          unfold valG
          rw [List.find?_cons, List.find?_cons, decide_eq_true e1, decide_eq_true hx]
          rfl
        · have e1 : ¬ (if x.1 = k then (x.1, g) else x).1 = k' := by split <;> exact hx
          simp only [valG, List.find?_cons, e1, hx, decide_false] at ih ⊢
          exact ih
    rw [h1]
    by_cases hk : k = k'
    · subst hk
      have : (valG m k).isSome = true := by
        rw [List.any_eq_true] at h
        obtain ⟨x, hx, e⟩ := h
        unfold valG
        rw [Option.isSome_map]
        rw [List.find?_isSome]
        exact ⟨x, hx, e⟩
      rw [this]
      rfl
    · simp [hk]
  · rw [if_neg h]
    unfold valG
    rw [List.find?_append, Option.isSome_map, Option.isSome_map, Option.isSome_or]
    congr 1
    simp [List.find?_cons]
    by_cases hk : k = k' <;> simp [hk]
theorem bitsMap_val (ls : List (List Int)) (k : Key) : (valG (bitsMap ls) k).isSome = ls.any fun l => decide (Sum.inl (bits l) = k) := by
  have h : ∀ (ls : List (List Int)) (m : List (Key × B.G)), (valG (ls.foldl (fun m l => putG m (.inl (bits l)) (.d (.bool true))) m) k).isSome = ((valG m k).isSome || ls.any fun l => decide (Sum.inl (bits l) = k)) := by
    intro ls
    induction ls with
    | nil => intro m; simp
    | cons l ls ih =>
      intro m
      rw [List.foldl_cons, ih, putG_val, List.any_cons, Bool.or_assoc]
  have := h ls []
  rw [show valG ([] : List (Key × B.G)) k = none from rfl] at this
  simpa [bitsMap] using this
def goB (ls : List (List Int)) (a b : List Int) (t : Int) : Bool := (less b a).any fun u => ls.contains (ins (drp a t) u)
theorem in_map {ls : List (List Int)} {c : List Int} (hl : ∀ l ∈ ls, l ∈ L6) (hc : c ∈ L6) : (valG (bitsMap ls) (.inl (bits c))).isSome = ls.contains c := by
  rw [bitsMap_val]
  apply Bool.eq_iff_iff.mpr
  rw [List.any_eq_true, List.contains_iff_mem]
  constructor
  · rintro ⟨l, h1, h2⟩
    rw [decide_eq_true_eq] at h2
    injection h2 with h2
    rw [← F_inj l (hl l h1) c hc h2]
    exact h1
  · intro h
    exact ⟨c, h, by simp⟩
/-- what is told of a stuck triple -/
def StuckR (ls : List (List Int)) (r : PyData) : Prop :=
  (r = .none ∧ ∀ a ∈ ls, ∀ b ∈ ls, ∀ t ∈ less a b, goB ls a b t = true) ∨ ∃ a ∈ ls, ∃ b ∈ ls, ∃ t ∈ less a b, goB ls a b t = false ∧ r = .tuple [lotD a, lotD b, .int t]
theorem less_mem {a b : List Int} {t : Int} (h : t ∈ less a b) : t ∈ a ∧ t ∉ b := by
  unfold less at h
  rw [List.mem_filter] at h
  exact ⟨h.1, by simpa using h.2⟩
end K13
end
section
set_option maxHeartbeats 4000000
namespace K13
open PySem PySem.Spec PyProof.Rows L2 B
/-! W3: lot_of, can_go, told_stuck. -/
section
variable {P : Program} {w : World} {K : PySem.W.Frag} {mg : Str → Option Value} {base : Heap}
def o_lot_of : ON := fun gs M Q => ∃ l, l ∈ L6 ∧ gs = [.d (.int (bits l))] ∧ Q (.d (lotD l)) M
theorem ok_lot_of (gl : Gl K mg) : Fn P w K mg base 1 "lot_of" o_lot_of := by
  refine okf (d := d_lot_of) (N := ["bits", "found", "thing"]) (ps := ["bits"]) gl 6 rfl (fun _ _ _ _ _ _ us hl => match us, hl with | [_], _ => rfl) (by decide +kernel) (fun gs M Q ⟨a, _, e, _⟩ => by rw [e]; rfl) (fun gs M Q ⟨l, hl, e, q⟩ => ?_)
  subst e
  refine ds_cons (d1_par 1 2 (da_cons (de_listM (da_nil ⟨by decide, fun p hp => da_cons (PD.de pd_int (da_nil ⟨_, _, rfl, ?_⟩))⟩))))
  refine ds_cons (d1_while ⟨fun m ρ M' => ∃ k : Nat, k ≤ 6 ∧ m = 6 - k ∧ ρ = [some (.d (.int (bits l))), some (.op (.ref p)), some (.d (.int (k : Nat)))] ∧ M' = put M p (.lst (((l.filter fun t => decide (t < (k : Int))).map PyData.int).map B.G.d)), ⟨6, 0, by omega, rfl, rfl, ?_⟩, ?_⟩)
  · have e0 : (l.filter fun t => decide (t < ((0 : Nat) : Int))) = [] := by
      rw [List.filter_eq_nil_iff]
      intro t ht
      have := ((L6_pw l hl).2 t ht).1
      simp
      omega
    rw [e0]
    rfl
  · rintro m ρ M' ⟨k, hk, rfl, rfl, rfl⟩
    have hr : k ∈ List.range 7 := by rw [List.mem_range]; omega
    refine PB.dt (b := decide (0 < bits l / 2 ^ k)) (pb_cmp o_gt (pd_bin o_shr (pd_var 0) (pd_var 2) ⟨_, _, rfl, rfl, by omega, rfl, rfl⟩) pd_int ⟨_, _, rfl, rfl, rfl, rfl⟩) ?_
    by_cases hup : ∃ t ∈ l, (k : Int) ≤ t
    · refine ifT (decide_eq_true ((F_up l hl k hr).mpr hup)) ?_
      have hk5 : k < 6 := by
        obtain ⟨t, ht, h2⟩ := hup
        have := ((L6_pw l hl).2 t ht).2
        omega
      refine ds_cons (d1_if (PB.dt (pb_int (pd_bin o_and (pd_bin o_shr (pd_var 0) (pd_var 2) ⟨_, _, rfl, rfl, by omega, rfl, rfl⟩) pd_int ⟨_, _, rfl, rfl, rfl, rfl⟩)) ?_))
      have ea : (Builtin.bitAnd (bits l / 2 ^ ((k : Nat) : Int).toNat) 1 != 0) = l.contains (k : Int) := F_at l hl k hr
      have ep := F_pre l hl k hr
      rw [ea]
      cases hc : l.contains (k : Int) with
      | true =>
        rw [hc, if_pos rfl] at ep
        refine ifT rfl (ds_cons (d1_expr (de_append (PD.de (pd_var 1) ⟨p, _, rfl, put_same, PD.de (pd_var 2) ⟨_, put_same, ?_, ?_⟩⟩))))
        · rw [List.length_map, List.length_map]
          have h1 := List.length_filter_le (fun t => decide (t < (k : Int))) l
          have h2 := F_len l hl
          show _ < 16777216
          omega
        · refine ds_nil (ds_cons (d1_augAdd 2 (m := k) rfl (PD.de pd_int ⟨1, rfl, ds_nil ⟨6 - (k + 1), by omega, k + 1, by omega, rfl, rfl, ?_⟩⟩)))
          rw [put_put, show (((k + 1 : Nat) : Int)) = (k : Int) + 1 by omega, ep, List.map_append, List.map_append]
          rfl
      | false =>
        rw [hc, if_neg Bool.false_ne_true, List.append_nil] at ep
        refine ifF rfl (ds_nil (ds_cons (d1_augAdd 2 (m := k) rfl (PD.de pd_int ⟨1, rfl, ds_nil ⟨6 - (k + 1), by omega, k + 1, by omega, rfl, rfl, ?_⟩⟩))))
        rw [show (((k + 1 : Nat) : Int)) = (k : Int) + 1 by omega, ep]
    · refine ifF (decide_eq_false fun z => hup ((F_up l hl k hr).mp z)) ?_
      have ef := F_all l hl k hr hup
      refine ds_cons (d1_ret (de_drop (de_callT o_tuple (n_tuple gl) rfl (da_cons (PD.de (pd_var 1) (da_nil ⟨_, l.map PyData.int, rfl, .l (.l ?_), M, Ext.put hp, q⟩))))))
      rw [put_same, ef]
def o_can_go : ON := fun gs M Q => ∃ p ls a b t, gs = [.op (.ref p), .d (.int (bits a)), .d (.int (bits b)), .d (.int t)] ∧ M p = some (.dK (bitsMap ls)) ∧ (∀ l ∈ ls, l ∈ L6) ∧ a ∈ L6 ∧ b ∈ L6 ∧ t ∈ a ∧ Q (.d (.bool (goB ls a b t))) M
theorem ok_can_go (gl : Gl K mg) : Fn P w K mg base 2 "can_go" o_can_go := by
  refine okf (d := d_can_go) (N := ["fulls", "one", "other", "thing", "rest", "later"]) (ps := ["fulls", "one", "other", "thing"]) gl 9 rfl (fun _ _ _ _ _ _ us hl => match us, hl with | [_, _, _, _], _ => rfl) (by decide +kernel) (fun gs M Q ⟨_, _, _, _, _, e, _⟩ => by rw [e]; rfl) (fun gs M Q ⟨p, ls, a, b, t, e, hM, hls, ha, hb, ht, q⟩ => ?_)
  subst e
  have h5 := F_mem a ha t ht
  have hd := F_drp a ha t h5
  have hpw := (L6_pw a ha).2 t ht
  have hle := F_less b hb a ha
  refine ds_cons (d1_set 4 (PD.de (g := .d (.int (bits (drp a t)))) (by rw [← hd.1]; exact pd_bin o_and (pd_var 1) (pd_un o_inv (pd_bin o_shl pd_int (pd_var 3) ⟨_, _, rfl, rfl, ⟨by omega, by omega⟩, rfl, rfl⟩) ⟨_, rfl, rfl, rfl⟩) ⟨_, _, rfl, rfl, rfl, rfl⟩) ?_))
  refine ds_cons (d1_ret (PD.de (g := .d (.bool (goB ls a b t))) ?_ q))
  refine pd_anyc [("later", 5)] (fun u : Int => B.G.d (.int u)) (less b a) (fun u => ls.contains (ins (drp a t) u)) (n_any gl)
    (pit_tup (ds := (less b a).map PyData.int) (pd_call (ok_lot_of gl) (da1 (pd_bin o_and (pd_var 2) (pd_un o_inv (pd_var 1) ⟨_, rfl, rfl, rfl⟩) ⟨_, _, rfl, rfl, rfl, rfl⟩)) ⟨less b a, hle.2, by simp only [hle.1], rfl, rfl⟩)) (by rw [List.map_map]; rfl) (by have := F_len _ hle.2; show _ ≤ 16777216; omega) fun M' e u hu => dc_name 5 ⟨rfl, ?_⟩
  have hu2 := less_mem hu
  have hu5 := F_mem b hb u hu2.1
  have hupw := (L6_pw b hb).2 u hu2.1
  have hi := F_ins _ hd.2 u hu5
  refine de_dinK (PD.de (pd_bin o_or (pd_var 4) (pd_bin o_shl pd_int (pd_var 5) ⟨_, _, rfl, rfl, ⟨by omega, by omega⟩, rfl, rfl⟩) ⟨_, _, rfl, rfl, rfl, rfl⟩) (PD.de (pd_var 0) ⟨_, _, p, bitsMap ls, rfl, rfl, rfl, e _ _ hM, ?_, rfl⟩))
  simp only [hi.1, in_map hls hi.2]
def o_told_stuck : ON := fun gs M Q => ∃ ls, gs = [.d (lotsD ls)] ∧ (∀ l ∈ ls, l ∈ L6) ∧ ls.length ≤ 1000 ∧ ∀ r, StuckR ls r → Q (.d r) M
theorem ok_told_stuck (gl : Gl K mg) : Fn P w K mg base 3 "told_stuck" o_told_stuck := by
  refine okf (d := d_told_stuck) (N := ["lots", "fulls", "one", "other", "first", "second", "thing", "lot"]) (ps := ["lots"]) gl 10 rfl (fun _ _ _ _ _ _ us hl => match us, hl with | [_], _ => rfl) (by decide +kernel) (fun gs M Q ⟨_, e, _⟩ => by rw [e]; rfl) (fun gs M Q ⟨ls, e, hls, hz, q⟩ => ?_)
  subst e
  refine ds_cons (d1_setDc [("lot", 7)] 1 (fun l : List Int => B.G.d (lotD l)) ls (fun l => .int (bits l)) (fun l => .inl (bits l)) (fun _ => .bool true) (pit_tup (ds := ls.map lotD) (pd_var 0)) (by rw [List.map_map]; rfl) (by show _ < 16777216; omega) (fun _ _ => rfl)
    (fun M' e l hl => dc_name 7 ⟨rfl, pd_call (ok_bits_of gl) (da1 (pd_var 7)) ⟨l, hls l hl, rfl, rfl, rfl⟩, pd_bl⟩) fun p hp => ?_)
  have hmap : put M p (.dK (ls.foldl (fun m x => putG m (Sum.inl (bits x)) (B.G.d (.bool true))) [])) = put M p (.dK (bitsMap ls)) := rfl
  rw [hmap]
  refine ds_cons (d1_for (di_tup (PD.de (pd_var 0) ⟨ls.map lotD, rfl, fun i ρ M' => M' = put M p (.dK (bitsMap ls)) ∧ (∃ x2 x3 x4 x5 x6 x7, ρ = [some (.d (lotsD ls)), some (.op (.ref p)), x2, x3, x4, x5, x6, x7]) ∧ ∀ a ∈ ls.take i, ∀ b ∈ ls, ∀ t ∈ less a b, goB ls a b t = true, ⟨rfl, ⟨_, _, _, _, _, _, rfl⟩, fun a ha => by simp at ha⟩, fun _ _ _ _ _ => trivial, ?_, ?_⟩)))
  · rintro i g ρ M' eg ⟨rfl, ⟨x2, x3, x4, x5, x6, x7, rfl⟩, inv⟩
    rw [List.getElem?_map, List.getElem?_map] at eg
    cases ea : ls[i]? with
    | none => rw [ea] at eg; cases eg
    | some a =>
      rw [ea] at eg
      cases eg
      have ham := List.mem_of_getElem? ea
      have ha5 := hls a ham
      refine dg_name 2 (ds_cons (d1_for (di_tup (PD.de (pd_var 0) ⟨ls.map lotD, rfl, fun j ρ M' => M' = put M p (.dK (bitsMap ls)) ∧ (∃ x3 x4 x5 x6 x7, ρ = [some (.d (lotsD ls)), some (.op (.ref p)), some (.d (lotD a)), x3, x4, x5, x6, x7]) ∧ ∀ b ∈ ls.take j, ∀ t ∈ less a b, goB ls a b t = true, ⟨rfl, ⟨_, _, _, _, _, rfl⟩, fun a ha => by simp at ha⟩, fun _ _ _ _ _ => trivial, ?_, ?_⟩))))
      · rintro j g ρ M' eg ⟨rfl, ⟨x3, x4, x5, x6, x7, rfl⟩, inv2⟩
        rw [List.getElem?_map, List.getElem?_map] at eg
        cases eb : ls[j]? with
        | none => rw [eb] at eg; cases eg
        | some b =>
          rw [eb] at eg
          cases eg
          have hbm := List.mem_of_getElem? eb
          have hb5 := hls b hbm
          have hle := F_less a ha5 b hb5
          refine dg_name 3 (ds_cons (d1_par 4 5 ((PAs.cons (pd_call (ok_bits_of gl) (da1 (pd_var 2)) ⟨a, ha5, rfl, rfl, rfl⟩) (da1 (pd_call (ok_bits_of gl) (da1 (pd_var 3)) ⟨b, hb5, rfl, rfl, rfl⟩))).da ⟨_, _, rfl, ?_⟩)))
          refine ds_cons (d1_for (di_tup (PD.de (pd_call (ok_lot_of gl) (da1 (pd_bin o_and (pd_var 4) (pd_un o_inv (pd_var 5) ⟨_, rfl, rfl, rfl⟩) ⟨_, _, rfl, rfl, rfl, rfl⟩)) ⟨less a b, hle.2, by simp only [hle.1], rfl, rfl⟩) ⟨(less a b).map PyData.int, rfl,
            fun k ρ M' => M' = put M p (.dK (bitsMap ls)) ∧ (∃ x6 x7, ρ = [some (.d (lotsD ls)), some (.op (.ref p)), some (.d (lotD a)), some (.d (lotD b)), some (.d (.int (bits a))), some (.d (.int (bits b))), x6, x7]) ∧ ∀ t ∈ (less a b).take k, goB ls a b t = true, ⟨rfl, ⟨_, _, rfl⟩, fun a ha => by simp at ha⟩, fun _ _ _ _ _ => trivial, ?_, ?_⟩)))
          · rintro k g ρ M' eg ⟨rfl, ⟨x6, x7, rfl⟩, inv3⟩
            rw [List.getElem?_map, List.getElem?_map] at eg
            cases et : (less a b)[k]? with
            | none => rw [et] at eg; cases eg
            | some t =>
              rw [et] at eg
              cases eg
              have htm := List.mem_of_getElem? et
              refine dg_name 6 (ds_cons (d1_if (PB.dt (pb_not (pb_val (pd_call (ok_can_go gl) (.cons (pd_var 1) (.cons (pd_var 4) (.cons (pd_var 5) (da1 (pd_var 6))))) ⟨p, ls, a, b, t, rfl, put_same, hls, ha5, hb5, (less_mem htm).1, rfl, rfl⟩))) ?_)))
              cases hg : goB ls a b t with
              | false => exact ifT rfl (ds_cons (d1_ret (de_drop (PD.de (pd_tup (ds := [lotD a, lotD b, .int t]) (.cons (pd_var 2) (.cons (pd_var 3) (da1 (pd_var 6)))) (Nat.le_of_ble_eq_true rfl)) ⟨M, Ext.put hp, q _ (.inr ⟨a, ham, b, hbm, t, htm, hg, rfl⟩)⟩))))
              | true =>
                refine ifF rfl (ds_nil (ds_nil ⟨rfl, ⟨_, _, rfl⟩, fun t' ht' => ?_⟩))
                rw [List.take_add_one, et, List.mem_append] at ht'
                rcases ht' with h | h
                · exact inv3 t' h
                · have : t' = t := by simpa using h
                  rw [this]
                  exact hg
          · rintro ρ M' ⟨rfl, ⟨x6, x7, rfl⟩, inv3⟩
            refine ds_nil ⟨rfl, ⟨_, _, _, _, _, rfl⟩, fun b' hb' => ?_⟩
            rw [List.take_add_one, eb, List.mem_append] at hb'
            rcases hb' with h | h
            · exact inv2 b' h
            · have : b' = b := by simpa using h
              rw [this]
              rw [List.length_map, List.length_map, List.take_length] at inv3
              exact inv3
      · rintro ρ M' ⟨rfl, ⟨x3, x4, x5, x6, x7, rfl⟩, inv2⟩
        refine ds_nil ⟨rfl, ⟨_, _, _, _, _, _, rfl⟩, fun a' ha' => ?_⟩
        rw [List.take_add_one, ea, List.mem_append] at ha'
        rcases ha' with h | h
        · exact inv a' h
        · have : a' = a := by simpa using h
          rw [this]
          rw [List.length_map, List.length_map, List.take_length] at inv2
          exact inv2
  · rintro ρ M' ⟨rfl, ⟨x2, x3, x4, x5, x6, x7, rfl⟩, inv⟩
    rw [List.length_map, List.length_map, List.take_length] at inv
    exact ds_cons (d1_ret (de_drop (PD.de pd_non ⟨M, Ext.put hp, q _ (.inl ⟨rfl, inv⟩)⟩)))
end
end K13
end
section
set_option maxHeartbeats 4000000
namespace K13
open PySem PySem.Spec PyProof.Rows L2 B
/-! P4: lots in order; heaps. -/
theorem zip_drop_all {α : Type} {r : α → α → Bool} : ∀ {l : List α}, l.Pairwise (fun a b => r a b = true) → ((l.zip (l.drop 1)).all fun p => r p.1 p.2) = true
  | [], _ => rfl
  | [_], _ => rfl
  | a :: b :: l, h => by
    have h1 := List.pairwise_cons.mp h
    have ih := zip_drop_all h1.2
    show (r a b && ((b :: l).zip l).all fun p => r p.1 p.2) = true
    rw [h1.1 b List.mem_cons_self]
    simpa using ih
theorem ris_ints {l : List Int} (h : l.Pairwise (· < ·)) : risD (l.map PyData.int) = true := by
  refine zip_drop_all (r := PySem.W.dataLt) (List.pairwise_map.mpr (h.imp fun hab => ?_))
  rw [lt_int]
  exact decide_eq_true hab
theorem isLot_ok {many : Int} {l : List Int} (hl : l ∈ L6) (h : ∀ t ∈ l, t < many) : isLotD many (lotD l) = true := by
  have hp := L6_pw l hl
  show (((l.map PyData.int).all fun d => isIntIn d 0 (many - 1)) && risD (l.map PyData.int)) = true
  rw [ris_ints hp.1, Bool.and_true, List.all_eq_true]
  intro d hd
  obtain ⟨t, ht, rfl⟩ := List.mem_map.mp hd
  have h1 := (hp.2 t ht).1
  have h2 := h t ht
  show (decide (0 ≤ t) && decide (t ≤ many - 1)) = true
  simp
  omega
theorem ris_pair : ∀ {l : List PyData}, (∀ x ∈ l, ∃ i, x = .int i) → risD l = true → ∃ ns : List Int, l = ns.map PyData.int ∧ ns.Pairwise (· < ·)
  | [], _, _ => ⟨[], rfl, .nil⟩
  | [a], h, _ => by
    obtain ⟨i, rfl⟩ := h a List.mem_cons_self
    exact ⟨[i], rfl, List.pairwise_singleton _ _⟩
  | a :: b :: l, h, hr => by
    have hr' : (PySem.W.dataLt a b && risD (b :: l)) = true := hr
    rw [Bool.and_eq_true] at hr'
    obtain ⟨ns, e, hp⟩ := ris_pair (fun x hx => h x (List.mem_cons_of_mem _ hx)) hr'.2
    obtain ⟨i, rfl⟩ := h a List.mem_cons_self
    refine ⟨i :: ns, by rw [e]; rfl, ?_⟩
    cases ns with
    | nil => cases e
    | cons j ns =>
      have ej : b = .int j := by injection e
      subst ej
      have hij : i < j := by
        have := hr'.1
        rw [lt_int, decide_eq_true_eq] at this
        exact this
      refine List.pairwise_cons.mpr ⟨fun x hx => ?_, hp⟩
      rcases List.mem_cons.mp hx with e | e
      · omega
      · have := (List.pairwise_cons.mp hp).1 x e
        omega
/-- a value that is told to be a lot is one -/
theorem isLot_is {many : Int} {v : PyData} (hm : many ≤ 6) (h : isLotD many v = true) : ∃ l, v = lotD l ∧ l ∈ L6 ∧ ∀ t ∈ l, t < many := by
  cases v with
  | tuple ds =>
    have h' : ((ds.all fun d => isIntIn d 0 (many - 1)) && risD ds) = true := h
    rw [Bool.and_eq_true] at h'
    have hb : ∀ x ∈ ds, ∃ i, x = PyData.int i ∧ 0 ≤ i ∧ i ≤ many - 1 := fun x hx => by
      have := List.all_eq_true.mp h'.1 x hx
      cases x with
      | int i =>
        have h2 : (decide (0 ≤ i) && decide (i ≤ many - 1)) = true := this
        rw [Bool.and_eq_true, decide_eq_true_eq, decide_eq_true_eq] at h2
        exact ⟨i, rfl, h2.1, h2.2⟩
      | _ => exact absurd this Bool.false_ne_true
    obtain ⟨ns, e, hp⟩ := ris_pair (fun x hx => by obtain ⟨i, e, _⟩ := hb x hx; exact ⟨i, e⟩) h'.2
    subst e
    have hn : ∀ t ∈ ns, 0 ≤ t ∧ t ≤ many - 1 := fun t ht => by
      obtain ⟨i, e, h1⟩ := hb (.int t) (List.mem_map.mpr ⟨t, ht, rfl⟩)
      injection e with e
      rw [e]
      exact h1
    exact ⟨ns, rfl, L6_of hp fun t ht => by have := hn t ht; omega, fun t ht => by have := hn t ht; omega⟩
  | _ => exact absurd h Bool.false_ne_true
theorem ris_lots {ls : List (List Int)} (h5 : ∀ l ∈ ls, l ∈ L6) (h : ls.Pairwise (fun a b => a < b)) : risD (ls.map lotD) = true := by
  refine zip_drop_all (r := PySem.W.dataLt) (List.pairwise_map.mpr ?_)
  exact List.Pairwise.imp_of_mem (fun {a b} ha hb hab => by
    rw [lt_lots a (h5 a ha) b (h5 b hb)]
    exact decide_eq_true hab) h
theorem eqv_int (i j : Int) : PyData.eqv (.int i) (.int j) = decide (i = j) := by
  rw [PyData.eqv]
  simp [Bool.beq_eq_decide_eq]
def subL (a b : List Int) : Bool := a.all fun t => b.contains t
theorem subL_iff {a b : List Int} : subL a b = true ↔ ∀ t ∈ a, t ∈ b := by
  unfold subL
  rw [List.all_eq_true]
  simp
end K13
end
section
set_option maxHeartbeats 4000000
namespace K13
open PySem PySem.Spec PyProof.Rows L2 B
/-! W4: heaps looked at. -/
theorem i_MOST_THINGS {K : PySem.W.Frag} {mg : Str → Option Value} (gl : Gl K mg) : ∃ t, mg "MOST_THINGS" = some (.int 9 t) := gl.nt _ _ (List.mem_of_getElem? (i := 73) rfl)
section
variable {P : Program} {w : World} {K : PySem.W.Frag} {mg : Str → Option Value} {base : Heap}
def o_are_lots : ON := fun gs M Q => ∃ many ls, gs = [.d (.int many), .d (lotsD ls)] ∧ HeapOk many ls ∧ Q (.d (.bool true)) M
theorem ok_are_lots (gl : Gl K mg) : Fn P w K mg base 3 "are_lots" o_are_lots := by
  refine okf (d := d_are_lots) (N := ["many", "value", "lot"]) (ps := ["many", "value"]) gl 4 rfl (fun _ _ _ _ _ _ us hl => match us, hl with | [_, _], _ => rfl) (by decide +kernel) (fun gs M Q ⟨_, _, e, _⟩ => by rw [e]; rfl) (fun gs M Q ⟨many, ls, e, ho, q⟩ => ?_)
  subst e
  have hz := ho.len
  refine ds_cons (d1_ret (PD.de (g := .d (.bool (true && (true && true)))) ?_ q))
  refine pd_and (pd_callB o_isi (n_isinstance gl) rfl (.cons (pd_var 1) (.cons (pd_ty (n_tuple gl) rfl) .nil)) (oIsi_tuple ⟨rfl, rfl⟩)) fun _ => ?_
  have h1 : (ls.all fun l => isLotD many (lotD l)) = true := by
    rw [List.all_eq_true]
    exact fun l hl => isLot_ok (ho.mem l hl).1 (ho.mem l hl).2
  refine pd_and (PD.to (pd_allc [("lot", 2)] (fun l : List Int => B.G.d (lotD l)) ls (fun l => isLotD many (lotD l)) (n_all gl) (pit_tup (ds := ls.map lotD) (pd_var 1)) (by rw [List.map_map]; rfl) (by show _ ≤ 16777216; omega) fun M' e l hl => dc_name 2 ⟨rfl, pd_call (ok_is_lot gl) (.cons (pd_var 0) (da1 (pd_var 2))) ⟨many, lotD l, rfl, wd_lot (by have := F_len l (ho.mem l hl).1; show _ ≤ 16777216; omega), rfl, rfl⟩⟩) (by rw [h1])) fun _ => ?_
  refine pd_one (PD.to (pd_call (ok_is_rising gl) (da1 (pd_var 1)) ⟨ls.map lotD, rfl, alkA_lots ls (by show _ ≤ 16777216; omega), rfl, rfl⟩) ?_)
  rw [ris_lots (fun l hl => (ho.mem l hl).1) ho.inc]
end
end K13
end
section
set_option maxHeartbeats 4000000
namespace K13
open PySem PySem.Spec PyProof.Rows L2 B
/-! P5: what the program tells of a heap. -/
def GoodH (ls : List (List Int)) : Prop := (∀ a ∈ ls, ∀ b ∈ ls, ¬ a.length < b.length) ∧ ∀ a ∈ ls, ∀ b ∈ ls, ∀ t ∈ less a b, goB ls a b t = true
def intsOf (v : PyData) : List Int := match v with
  | .tuple ds => ds.filterMap fun d => match d with
    | .int i => some i
    | _ => none
  | _ => []
theorem intsOf_ints (l : List Int) : intsOf (.tuple (l.map PyData.int)) = l := by
  show (l.map PyData.int).filterMap _ = l
  induction l with
  | nil => rfl
  | cons x l ih => rw [List.map_cons, List.filterMap_cons]; simp [ih]
theorem F_drp5 : ∀ a ∈ L6, ∀ t ∈ a, drp a t ∈ L6 := by decide +kernel
end K13
end
section
set_option maxHeartbeats 4000000
namespace K13
open PySem PySem.Spec PyProof.Rows L2 B
/-! P6: the law's next best. -/
def wAt (ws : List Int) (t : Int) : Int := (ws[t.toNat]?).getD 0
def rangeI (n : Nat) : List Int := (List.range n).map fun i => ((i : Nat) : Int)
theorem rangeD_ints (n : Nat) : rangeD n = (rangeI n).map PyData.int := by unfold rangeD rangeI; rw [List.map_map]; rfl
theorem leD_int (a b : Int) : leD (.int a) (.int b) = decide (a ≤ b) := by
  unfold leD
  rw [lt_int]
  by_cases h : b < a
  · rw [decide_eq_true h, decide_eq_false (by omega)]; rfl
  · rw [decide_eq_false h, decide_eq_true (by omega)]; rfl
/-- ints sorted -/
theorem sortD_ints {l l' : List Int} (hp : l'.Perm l) (hs : l'.Pairwise (· < ·)) : sortD (l.map PyData.int) = l'.map PyData.int :=
  sortD_of PyData.int (fun a b => decide (a ≤ b)) l l' (fun a _ b _ => leD_int a b) (fun a b c h1 h2 => by simp at *; omega) (fun a b => by simp; omega) (fun a b _ _ h1 h2 => by simp at *; omega) hp (hs.imp fun h => by simp; omega)
theorem canSort_ints (l : List Int) : CanSort (l.map PyData.int) := ⟨PySem.W.AllAlike.of fun a b => alike_int a b, plA_ints l, (fun d hd => by
  obtain ⟨n, _, rfl⟩ := List.mem_map.mp hd
  exact fun z => nomatch z), .inl (PySem.W.Sortable.others fun b => ⟨(fun z => nomatch z), fun xs z => nomatch z⟩)⟩
theorem ins_mem {a : List Int} {t x : Int} (ha : a ∈ L6) (ht : t ∈ ([0, 1, 2, 3, 4, 5] : List Int)) : x ∈ ins a t ↔ x ∈ a ∨ x = t := by
  have h5 : ∀ y ∈ a, y ∈ ([0, 1, 2, 3, 4, 5] : List Int) := F_mem a ha
  unfold ins
  rw [List.mem_filter]
  simp only [Bool.or_eq_true, List.contains_iff_mem, beq_iff_eq]
  constructor
  · exact fun h => h.2
  · intro h
    refine ⟨?_, h⟩
    rcases h with h | h
    · exact h5 x h
    · rw [h]; exact ht
theorem perm_of_nodup : ∀ {l l' : List Int}, l.Nodup → l'.Nodup → (∀ x, x ∈ l ↔ x ∈ l') → l.Perm l' := fun h1 h2 h => (List.perm_ext_iff_of_nodup h1 h2).mpr h
theorem ins_sorted {a : List Int} {t : Int} (ha : a ∈ L6) (ht : t ∈ ([0, 1, 2, 3, 4, 5] : List Int)) (hn : t ∉ a) : sortD (a.map PyData.int ++ [.int t]) = (ins a t).map PyData.int := by
  have h5 := (F_ins a ha t ht).2
  have hp := (L6_pw _ h5).1
  have e : a.map PyData.int ++ [.int t] = (a ++ [t]).map PyData.int := by rw [List.map_append]; rfl
  rw [e]
  refine sortD_ints (perm_of_nodup (hp.imp fun h => by omega) ?_ fun x => ?_) hp
  · rw [List.nodup_append]
    exact ⟨(L6_pw a ha).1.imp fun h => by omega, List.nodup_cons.mpr ⟨by simp, .nil⟩, fun x hx y hy => by
      have : y = t := by simpa using hy
      rw [this]
      intro e
      rw [e] at hx
      exact hn hx⟩
  · rw [ins_mem ha ht, List.mem_append, List.mem_singleton]
theorem eqv_nil (l : List Int) : PyData.eqv (.list (l.map PyData.int)) (.list []) = l.isEmpty := by
  cases l <;> rfl
end K13
end
section
set_option maxHeartbeats 4000000
namespace K13
open PySem PySem.Spec PyProof.Rows L2 B
/-! P5b: few and many. -/
theorem less_iff {a b : List Int} {x : Int} : x ∈ less a b ↔ x ∈ a ∧ x ∉ b := by
  unfold less
  rw [List.mem_filter]
  simp
theorem drp_mem {a : List Int} {t x : Int} : x ∈ drp a t ↔ x ∈ a ∧ x ≠ t := by
  unfold drp
  rw [List.mem_filter]
  simp
theorem nd6 {l : List Int} (h : l ∈ L6) : l.Nodup := (L6_pw l h).1.imp fun h => by omega
theorem F_eqsub : ∀ a ∈ L6, ∀ b ∈ L6, less a b = [] → a.length = b.length → a = b := by decide +kernel
theorem drp_perm {a : List Int} {t : Int} (ha : a ∈ L6) (ht : t ∈ a) : a.Perm (t :: drp a t) :=
  perm_of_nodup (nd6 ha) (List.nodup_cons.mpr ⟨fun h => (drp_mem.mp h).2 rfl, (nd6 ha).filter _⟩) fun x => by
    rw [List.mem_cons, drp_mem]
    constructor
    · intro h
      by_cases e : x = t
      · exact .inl e
      · exact .inr ⟨h, e⟩
    · rintro (h | h)
      · rw [h]; exact ht
      · exact h.1
theorem ins_perm {a : List Int} {t : Int} (ha : a ∈ L6) (ht : t ∈ ([0, 1, 2, 3, 4, 5] : List Int)) (hn : t ∉ a) : (ins a t).Perm (t :: a) :=
  perm_of_nodup (nd6 (F_ins a ha t ht).2) (List.nodup_cons.mpr ⟨hn, nd6 ha⟩) fun x => by
    rw [List.mem_cons, ins_mem ha ht]
    exact or_comm
end K13
end
section
set_option maxHeartbeats 4000000
namespace K13
open PySem PySem.Spec PyProof.Rows L2 B
/-! W6: always_best; the law's small words. -/
theorem isIn_ints (t : Int) (l : List Int) : isIn (.int t) (l.map PyData.int) = l.contains t := by
  unfold isIn
  rw [List.any_map]
  apply Bool.eq_iff_iff.mpr
  rw [List.any_eq_true, List.contains_iff_mem]
  constructor
  · rintro ⟨x, h1, h2⟩
    have h2' : PyData.eqv (.int x) (.int t) = true := h2
    rw [eqv_int, decide_eq_true_eq] at h2'
    rw [← h2']
    exact h1
  · intro h
    exact ⟨t, h, by show PyData.eqv (.int t) (.int t) = true; rw [eqv_int]; simp⟩
end K13
end
section
set_option maxHeartbeats 4000000
namespace K13
open PySem PySem.Spec PyProof.Rows L2 B
/-! W7: the law's own words. -/
theorem eqv_bool (a b : Bool) : PyData.eqv (.bool a) (.bool b) = (a == b) := by cases a <;> cases b <;> rfl
section
variable {P : Program} {w : World} {K : PySem.W.Frag} {mg : Str → Option Value} {base : Heap}
def o_is_bool : ON := fun gs M Q => ∃ a b : Bool, gs = [.d (.bool a), .d (.bool b)] ∧ Q (.d (.bool (a == b))) M
theorem ok_is_bool (gl : Gl K mg) : Fn P w K mg base 1 "_law_is_bool" o_is_bool := by
  refine okf (d := d__law_is_bool) (N := ["told", "due"]) (ps := ["told", "due"]) gl 30 rfl (fun _ _ _ _ _ _ us hl => match us, hl with | [_, _], _ => rfl) (by decide +kernel) (fun gs M Q ⟨_, _, e, _⟩ => by rw [e]; rfl) (fun gs M Q ⟨a, b, e, q⟩ => ?_)
  subst e
  refine ds_cons (d1_ret (PD.de (g := .d (.bool (true && (a == b)))) (pd_and (pd_callB o_isi (n_isinstance gl) rfl (.cons (pd_var 0) (.cons (pd_ty (n_bool gl) rfl) .nil)) (oIsi_bool ⟨rfl, rfl⟩)) fun _ => pd_one (pd_cmp o_eq (pd_var 0) (pd_var 1) ⟨_, _, .d _, .d _, pl_bool _, pl_bool _, by rw [eqv_bool], rfl⟩)) q))
def o_has : ON := fun gs M Q => ∃ a b : List Int, gs = [.d (lotD a), .d (lotD b)] ∧ b.length ≤ 1000 ∧ Q (.d (.bool (subL b a))) M
theorem ok_has (gl : Gl K mg) : Fn P w K mg base 1 "_law_has" o_has := by
  refine okf (d := d__law_has) (N := ["lot", "other", "thing"]) (ps := ["lot", "other"]) gl 32 rfl (fun _ _ _ _ _ _ us hl => match us, hl with | [_, _], _ => rfl) (by decide +kernel) (fun gs M Q ⟨_, _, e, _⟩ => by rw [e]; rfl) (fun gs M Q ⟨a, b, e, hz, q⟩ => ?_)
  subst e
  refine ds_cons (d1_ret (PD.de (pd_allc [("thing", 2)] (fun t : Int => B.G.d (.int t)) b (fun t => a.contains t) (n_all gl) (pit_tup (ds := b.map PyData.int) (pd_var 1)) (by rw [List.map_map]; rfl) (by show _ ≤ 16777216; omega) fun M' e t ht => dc_name 2 ⟨rfl, PD.to (pd_cmp o_in (pd_var 2) (pd_var 0) ⟨_, a.map PyData.int, .d _, .t _, pl_int _, plA_ints a, rfl, rfl⟩) ?_⟩) q))
  show B.G.d (.bool (isIn (.int t) (a.map PyData.int))) = _
  rw [isIn_ints]
end
end K13
end
section
set_option maxHeartbeats 4000000
namespace K13
open PySem PySem.Spec PyProof.Rows L2 B
/-! W8: the pot, what is taken from it. -/
/-- the pot: what is left of the cell, the small part, how often the blend was asked (at most c) -/
def PotL (l : List B.G) (c : Int) : Prop := ∃ own small cnt : Int, l = [.d (.int own), .d (.int small), .d (.int cnt)] ∧ 0 ≤ own ∧ own < 10 ^ 300 ∧ 0 ≤ small ∧ small < 2 ^ 62 ∧ 0 ≤ cnt ∧ cnt ≤ c
theorem PotL.up {l : List B.G} {c d : Int} (h : PotL l c) (hd : c ≤ d) : PotL l d := by
  obtain ⟨o, s, n, e, h1, h2, h3, h4, h5, h6⟩ := h
  exact ⟨o, s, n, e, h1, h2, h3, h4, h5, by omega⟩
theorem bits300 : (Builtin.Int.intBits ((10 : Int) ^ 60) : Int) * 5 ≤ 2 ^ 27 := by decide +kernel
theorem pow300 : ((10 : Int) ^ 60) ^ 5 = 10 ^ 300 := by decide +kernel
section
variable {P : Program} {w : World} {K : PySem.W.Frag} {mg : Str → Option Value} {base : Heap}
def o_take : ON := fun gs M Q => ∃ p l c n, gs = [.op (.ref p), .d (.int n)] ∧ M p = some (.lst l) ∧ PotL l c ∧ c ≤ 1000000 ∧ 0 < n ∧ n ≤ 1000000 ∧ ∀ d l', 0 ≤ d → d < n → PotL l' (c + 1) → Q (.d (.int d)) (put M p (.lst l'))
theorem ok_take (gl : Gl K mg) : Fn P w K mg base 1 "_law_take" o_take := by
  refine okf (d := d__law_take) (N := ["pot", "upto", "digit", "prime", "blend"]) (ps := ["pot", "upto"]) gl 23 rfl (fun _ _ _ _ _ _ us hl => match us, hl with | [_, _], _ => rfl) (by decide +kernel) (fun gs M Q ⟨_, _, _, _, e, _⟩ => by rw [e]; rfl) (fun gs M Q ⟨p, l, c, n, e, hp, hpot, hc, hn0, hn, q⟩ => ?_)
  subst e
  obtain ⟨own, small, cnt, rfl, h1, h2, h3, h4, h5, h6⟩ := hpot
  refine ds_cons (d1_ifB (k := decide (0 < own)) (pb_cmp o_gt (pd_ix o_ixM (pd_var 0) pd_int ⟨p, _, _, _, rfl, hp, rfl, rfl, rfl, rfl⟩) pd_int ⟨_, _, rfl, rfl, rfl, rfl⟩) (fun hpos => ?_) (fun _ => ?_))
  · rw [decide_eq_true_eq] at hpos
    refine ds_cons (d1_set 2 (PD.de (pd_bin o_mod (pd_callT o_int1 (n_int gl) rfl (da1 (pd_ix o_ixM (pd_var 0) pd_int ⟨p, _, _, _, rfl, hp, rfl, rfl, rfl, rfl⟩)) (.inl ⟨_, rfl, rfl, rfl⟩)) (pd_var 1) ⟨_, _, rfl, rfl, hn0, rfl, rfl⟩) ?_))
    refine ds_cons (d1_asg (PD.de (pd_bin o_fdiv (pd_ix o_ixM (pd_var 0) pd_int ⟨p, _, _, _, rfl, hp, rfl, rfl, rfl, rfl⟩) (pd_var 1) ⟨_, _, rfl, rfl, ⟨hn0, ?_⟩, rfl, rfl⟩) (dg_subL (PD.de (pd_var 0) (PD.de pd_int ⟨p, _, 0, 0, rfl, hp, rfl, rfl, ?_⟩)))))
    · have : n.natAbs.log2 ≤ n.natAbs := Nat.log2_le_self _
      have h20 : n.natAbs < 2 ^ 20 := by omega
      have := (Nat.log2_lt (n := n.natAbs) (k := 20) (by omega)).mpr h20
      omega
    · refine ds_cons (d1_ret (PD.de (pd_var 2) (q (own % n) _ (Int.emod_nonneg _ (by omega)) (Int.emod_lt_of_pos _ hn0) ⟨own / n, small, cnt, rfl, ?_, ?_, h3, h4, h5, by omega⟩)))
      · exact Int.ediv_nonneg h1 (by omega)
      · exact Int.lt_of_le_of_lt (Int.ediv_le_self _ h1) h2
  · refine ds_nil (ds_cons (d1_asg (PD.de (pd_bin o_add (pd_ix o_ixM (pd_var 0) pd_int ⟨p, _, _, _, rfl, hp, rfl, rfl, rfl, rfl⟩) pd_int ⟨_, _, rfl, rfl, rfl, rfl⟩) (dg_subL (PD.de (pd_var 0) (PD.de pd_int ⟨p, _, 2, 2, rfl, hp, rfl, rfl, ?_⟩))))))
    have hp2 : put M p (.lst [.d (.int own), .d (.int small), .d (.int (cnt + 1))]) p = some (.lst [.d (.int own), .d (.int small), .d (.int (cnt + 1))]) := put_same
    show DS _ _ _ (put M p (.lst [.d (.int own), .d (.int small), .d (.int (cnt + 1))])) _
    have hm5 : 0 ≤ (cnt + 1) % 5 ∧ (cnt + 1) % 5 < 5 := ⟨Int.emod_nonneg _ (by omega), Int.emod_lt_of_pos _ (by omega)⟩
    have hpr : ∃ pr : Int, atI ([.int 2147483647, .int 2147483629, .int 2147483587, .int 2147483579, .int 2147483563] : List PyData) ((cnt + 1) % 5) = some (.int pr) ∧ 0 < pr ∧ pr < 2 ^ 31 := by
      have : (cnt + 1) % 5 = 0 ∨ (cnt + 1) % 5 = 1 ∨ (cnt + 1) % 5 = 2 ∨ (cnt + 1) % 5 = 3 ∨ (cnt + 1) % 5 = 4 := by omega
      rcases this with h | h | h | h | h <;> rw [h]
      · exact ⟨2147483647, rfl, by omega, by omega⟩
      · exact ⟨2147483629, rfl, by omega, by omega⟩
      · exact ⟨2147483587, rfl, by omega, by omega⟩
      · exact ⟨2147483579, rfl, by omega, by omega⟩
      · exact ⟨2147483563, rfl, by omega, by omega⟩
    obtain ⟨pr, epr, hpr0, hpr1⟩ := hpr
    refine ds_cons (d1_set 3 (PD.de (g := .d (.int pr)) (pd_atL (pd_list (ds := [.int 2147483647, .int 2147483629, .int 2147483587, .int 2147483579, .int 2147483563]) (.cons pd_int (.cons pd_int (.cons pd_int (.cons pd_int (da1 pd_int))))) (Nat.le_of_ble_eq_true rfl)) (.d _) (pd_bin o_mod (pd_callT o_int1 (n_int gl) rfl (da1 (pd_ix o_ixM (pd_var 0) pd_int ⟨p, _, _, _, rfl, hp2, rfl, rfl, rfl, rfl⟩)) (.inl ⟨_, rfl, rfl, rfl⟩)) pd_int ⟨_, _, rfl, rfl, by omega, rfl, rfl⟩) epr) ?_))
    have hk : ∃ k : Int, k = cnt + 1 ∧ 1 ≤ k ∧ k ≤ 1000001 := ⟨cnt + 1, rfl, by omega, by omega⟩
    obtain ⟨k, ek, hk1, hk2⟩ := hk
    have hkk : 0 ≤ 92413 * k * k ∧ 92413 * k * k ≤ 92413 * 1000001 * 1000001 := ⟨Int.mul_nonneg (by omega) (by omega), Int.mul_le_mul (by omega) hk2 (by omega) (by omega)⟩
    have ix1 : ∀ M', M' p = some (.lst [.d (.int own), .d (.int small), .d (.int (cnt + 1))]) → (oIxM (.op (.ref p)) (.d (.int 1)) M' fun g M'' => g = .d (.int small) ∧ M'' = M') := fun M' h => ⟨p, _, _, _, rfl, h, rfl, rfl, rfl, rfl⟩
    have ix2 : ∀ M', M' p = some (.lst [.d (.int own), .d (.int small), .d (.int (cnt + 1))]) → (oIxM (.op (.ref p)) (.d (.int 2)) M' fun g M'' => g = .d (.int k) ∧ M'' = M') := fun M' h => ⟨p, _, _, _, rfl, h, rfl, rfl, by rw [ek], rfl⟩
    have hA : ((small + 92413 * k * k + 2243).natAbs : Int) < 2 ^ 64 := by omega
    have hb : (Builtin.Int.intBits (small + 92413 * k * k + 2243) : Int) * 3 ≤ 2 ^ 27 := by
      have := intBits_le_64 (k := small + 92413 * k * k + 2243) (by omega) (by omega)
      omega
    refine ds_cons (d1_set 4 (PD.de (g := .d (.int ((small + 92413 * k * k + 2243) ^ 3 % pr))) (pd_bin o_mod (pd_callT o_int1 (n_int gl) rfl (da1 (pd_bin o_powW (pd_callT o_int1 (n_int gl) rfl (da1 (pd_bin o_add (pd_bin o_add (pd_ix o_ixM (pd_var 0) pd_int (ix1 _ hp2)) (pd_bin o_mul (pd_bin o_mul pd_int (pd_ix o_ixM (pd_var 0) pd_int (ix2 _ hp2)) ⟨92413, k, rfl, rfl, .inl ⟨by omega, by omega⟩, rfl, rfl⟩) (pd_ix o_ixM (pd_var 0) pd_int (ix2 _ hp2)) ⟨92413 * k, k, rfl, rfl, .inr ⟨by omega, by omega⟩, rfl, rfl⟩) ⟨small, 92413 * k * k, rfl, rfl, rfl, rfl⟩) pd_int ⟨_, 2243, rfl, rfl, rfl, rfl⟩)) (.inl ⟨small + 92413 * k * k + 2243, rfl, rfl, rfl⟩)) pd_int ⟨small + 92413 * k * k + 2243, 3, rfl, rfl, ⟨by omega, hb⟩, rfl, rfl⟩)) (.inl ⟨(small + 92413 * k * k + 2243) ^ 3, rfl, rfl, rfl⟩)) (pd_var 3) ⟨_, pr, rfl, rfl, hpr0, rfl, rfl⟩) ?_))
    obtain ⟨b, eb, hb0, hb1⟩ : ∃ b : Int, (small + 92413 * k * k + 2243) ^ 3 % pr = b ∧ 0 ≤ b ∧ b < 2 ^ 31 := ⟨_, rfl, Int.emod_nonneg _ (by omega), Int.lt_trans (Int.emod_lt_of_pos _ hpr0) hpr1⟩
    rw [eb]
    have hm : 0 ≤ b % 12451 ∧ b % 12451 < 12451 := ⟨Int.emod_nonneg _ (by omega), Int.emod_lt_of_pos _ (by omega)⟩
    refine ds_cons (d1_set 4 (PD.de (g := .d (.int (b * (b % 12451 + 373 * k) % 2305843009213693907))) (pd_bin o_mod (pd_callT o_int1 (n_int gl) rfl (da1 (pd_bin o_mul (pd_var 4) (pd_bin o_add (pd_bin o_mod (pd_callT o_int1 (n_int gl) rfl (da1 (pd_var 4)) (.inl ⟨b, rfl, rfl, rfl⟩)) pd_int ⟨b, 12451, rfl, rfl, by omega, rfl, rfl⟩) (pd_bin o_mul pd_int (pd_ix o_ixM (pd_var 0) pd_int (ix2 _ hp2)) ⟨373, k, rfl, rfl, .inl ⟨by omega, by omega⟩, rfl, rfl⟩) ⟨b % 12451, 373 * k, rfl, rfl, rfl, rfl⟩) ⟨b, b % 12451 + 373 * k, rfl, rfl, .inl ⟨by omega, by omega⟩, rfl, rfl⟩)) (.inl ⟨b * (b % 12451 + 373 * k), rfl, rfl, rfl⟩)) pd_int ⟨_, 2305843009213693907, rfl, rfl, by omega, rfl, rfl⟩) ?_))
    refine ds_cons (d1_ret (PD.de (pd_bin o_mod (pd_callT o_int1 (n_int gl) rfl (da1 (pd_bin o_fdiv (pd_var 4) pd_int ⟨_, 197, rfl, rfl, ⟨by omega, by decide⟩, rfl, rfl⟩)) (.inl ⟨_, rfl, rfl, rfl⟩)) (pd_var 1) ⟨_, n, rfl, rfl, hn0, rfl, rfl⟩) (q _ _ (Int.emod_nonneg _ (by omega)) (Int.emod_lt_of_pos _ hn0) ⟨own, small, cnt + 1, rfl, h1, h2, h3, h4, by omega, by omega⟩)))
end
end K13
end
section
set_option maxHeartbeats 4000000
namespace K13
open PySem PySem.Spec PyProof.Rows L2 B
/-! W9: things drawn. -/
theorem perm_erase {α : Type} : ∀ (l : List α) (i : Nat) (h : i < l.length), (l[i] :: l.eraseIdx i).Perm l
  | x :: l, 0, _ => .refl _
  | x :: l, i + 1, h => by
    have h' : i < l.length := by simpa using h
    exact (List.Perm.swap x l[i] (l.eraseIdx i)).trans (.cons x (perm_erase l i h'))
section
variable {P : Program} {w : World} {K : PySem.W.Frag} {mg : Str → Option Value} {base : Heap}
def o_of : ON := fun gs M Q => ∃ p l c g ds, gs = [.op (.ref p), g] ∧ SeqV M g ds ∧ ds ≠ [] ∧ ds.length ≤ 1000000 ∧ M p = some (.lst l) ∧ PotL l c ∧ c ≤ 1000000 ∧ (∀ l', SeqV (put M p (.lst l')) g ds) ∧ ∀ d ∈ ds, ∀ l', PotL l' (c + 1) → Q (.d d) (put M p (.lst l'))
theorem ok_of (gl : Gl K mg) : Fn P w K mg base 2 "_law_of" o_of := by
  refine okf (d := d__law_of) (N := ["pot", "some"]) (ps := ["pot", "some"]) gl 24 rfl (fun _ _ _ _ _ _ us hl => match us, hl with | [_, _], _ => rfl) (by decide +kernel) (fun gs M Q ⟨_, _, _, _, _, e, _⟩ => by rw [e]; rfl) (fun gs M Q ⟨p, l, c, g, ds, e, sv, hne, hz, hp, hl, hc, sv2, q⟩ => ?_)
  subst e
  have hpos : 0 < ds.length := List.length_pos_iff.mpr hne
  refine ds_cons (d1_ret (de_ix o_ix (PD.de (pd_var 1) (de_call (ok_take gl) (da_cons (PD.de (pd_var 0) (da_cons (PD.de (pd_len (n_len gl) (pd_var 1) sv) (da_nil ⟨p, l, c, _, rfl, hp, hl, hc, by omega, by omega, fun d l' h0 h1 hl' => ?_⟩)))))))))
  have hd : d.toNat < ds.length := by omega
  refine ⟨ds, d, ds[d.toNat], sv2 l', rfl, ?_, q _ (List.getElem_mem hd) l' hl'⟩
  have h := B.atI_nat (List.getElem?_eq_getElem hd)
  rw [show ((d.toNat : Nat) : Int) = d by omega] at h
  exact h
def o_some : ON := fun gs M Q => ∃ p l c ns k, gs = [.op (.ref p), .d (.list (ns.map PyData.int)), .d (.int k)] ∧ M p = some (.lst l) ∧ PotL l c ∧ c + 1000 ≤ 1000000 ∧ 0 ≤ k ∧ k ≤ (ns.length : Int) ∧ ns.length ≤ 1000 ∧ ∀ es rs : List Int, (es ++ rs).Perm ns → (es.length : Int) = k → ∀ l', PotL l' (c + k) → Q (.d (.list (es.map PyData.int))) (put M p (.lst l'))
theorem ok_some (gl : Gl K mg) : Fn P w K mg base 2 "_law_some" o_some := by
  refine okf (d := d__law_some) (N := ["pot", "pool", "many", "rests", "found", "lap"]) (ps := ["pot", "pool", "many"]) gl 26 rfl (fun _ _ _ _ _ _ us hl => match us, hl with | [_, _, _], _ => rfl) (by decide +kernel) (fun gs M Q ⟨_, _, _, _, _, e, _⟩ => by rw [e]; rfl) (fun gs M Q ⟨p, l, c, ns, k, e, hp, hl, hc, hk0, hk, hn, q⟩ => ?_)
  subst e
  refine ds_cons (d1_par 3 4 (da_cons (de_callT o_list (n_list gl) rfl (da_cons (PD.de (pd_var 1) (da_nil ⟨_, ns.map PyData.int, rfl, .l (.d _), .mut fun a ha => da_cons (de_listM (da_nil ⟨Nat.le_of_ble_eq_true rfl, fun b hb => da_nil ⟨_, _, rfl, ?_⟩⟩))⟩))))))
  have hpa := ne_free hp ha
  have hba : a ≠ b := ne_free put_same hb
  have hpb : p ≠ b := fun e => by
    rw [← e, put_ne hpa, hp] at hb
    cases hb
  refine ds_cons (d1_for (di_range1 (n_range gl) (PD.de (pd_var 2) ⟨k, rfl, by omega, by omega, fun i ρ M' => ∃ (x5 : Option B.G) (es rs : List Int) (l' : List B.G), M' = put (put (put M p (.lst l')) a (.lst ((rs.map PyData.int).map B.G.d))) b (.lst ((es.map PyData.int).map B.G.d)) ∧ (es ++ rs).Perm ns ∧ es.length = i ∧ PotL l' (c + i) ∧
    ρ = [some (.op (.ref p)), some (.d (.list (ns.map PyData.int))), some (.d (.int k)), some (.op (.ref a)), some (.op (.ref b)), x5], ⟨_, [], ns, l, ?_, by simp, rfl, by simpa using hl, rfl⟩, fun _ _ _ _ _ => trivial, ?_, ?_⟩)))
  · congr 2
    funext x
    unfold put
    by_cases hx : x = p
    · rw [if_pos hx, hx, hp]
    · rw [if_neg hx]
  · rintro i g ρ M' eg ⟨x5, es, rs, l', rfl, hperm, hes, hl', rfl⟩
    obtain ⟨hi, rfl⟩ := rangeG_get eg
    have hlen := hperm.length_eq
    rw [List.length_append, hes] at hlen
    refine dg_name 5 (ds_cons (d1_expr (de_append (PD.de (pd_var 4) ⟨b, _, rfl, put_same, de_popAt (PD.de (pd_var 3) ⟨a, _, rfl, by rw [put_ne hba, put_same], de_call (ok_take gl) (da_cons (PD.de (pd_var 0) (da_cons (PD.de (pd_len (n_len gl) (pd_var 3) (.l (.l (by rw [put_ne hba, put_same])))) (da_nil ⟨p, l', c + i, _, rfl, by rw [put_ne hpb, put_ne hpa, put_same], hl', by omega, ?_, ?_, fun d l2 h0 h1 hl2 => ?_⟩)))))⟩)⟩))))
    · rw [List.length_map]; omega
    · rw [List.length_map]; omega
    · rw [List.length_map] at h1
      have hd : d.toNat < rs.length := by omega
      refine ⟨d.toNat, (rs.map PyData.int).map B.G.d, .d (.int rs[d.toNat]), by rw [show ((d.toNat : Nat) : Int) = d by omega], ?_, ?_, ?_, ?_⟩
      · rw [put3 hpa hpb, put_ne hba, put_same]
      · rw [List.getElem?_map, List.getElem?_map, List.getElem?_eq_getElem hd]
        rfl
      · rw [List.length_map, List.length_map]
        have : (2 : Nat) ^ 60 = 1152921504606846976 := by decide
        omega
      · have hst : put (put (put (put (put M p (.lst l')) a (.lst ((rs.map PyData.int).map B.G.d))) b (.lst ((es.map PyData.int).map B.G.d))) p (.lst l2)) a (.lst (((rs.map PyData.int).map B.G.d).eraseIdx d.toNat)) = put (put (put M p (.lst l2)) a (.lst (((rs.map PyData.int).map B.G.d).eraseIdx d.toNat))) b (.lst ((es.map PyData.int).map B.G.d)) := by
          rw [put3 hpa hpb, put_put_ne hba]
        rw [hst]
        refine ⟨_, put_same, ?_, ds_nil ⟨_, es ++ [rs[d.toNat]], rs.eraseIdx d.toNat, l2, ?_, ?_, by rw [List.length_append, hes]; rfl, hl2.up (by omega), rfl⟩⟩
        · rw [List.length_map, List.length_map, hes]
          show _ < 16777216
          omega
        · rw [put_put]
          congr 2
          · congr 2
            have er : ∀ (l : List Int) (n : Nat), ((l.map PyData.int).map B.G.d).eraseIdx n = ((l.eraseIdx n).map PyData.int).map B.G.d := by
              intro l
              induction l with
              | nil => intro n; simp
              | cons x l ih => intro n; cases n with
                | zero => rfl
                | succ n => simpa using ih n
            rw [er]
          · rw [List.map_append, List.map_append]
            rfl
        · have h2 : rs.Perm (rs[d.toNat] :: rs.eraseIdx d.toNat) := (perm_erase rs d.toNat hd).symm
          have h3 : (es ++ [rs[d.toNat]] ++ rs.eraseIdx d.toNat).Perm (es ++ rs) := by
            rw [List.append_assoc]
            exact List.Perm.append_left es h2.symm
          exact h3.trans hperm
  · rintro ρ M' ⟨x5, es, rs, l', rfl, hperm, hes, hl', rfl⟩
    rw [rangeG_length] at hes hl'
    refine ds_cons (d1_ret (de_drop (de_frz (PD.de (pd_var 4) (.inr ⟨b, es.map PyData.int, rfl, put_same, put M p (.lst l'), ?_, q es rs hperm (by omega) l' (by rw [show ((k.toNat : Nat) : Int) = k by omega] at hl'; exact hl')⟩)))))
    rw [del_put (by rw [put_ne (Ne.symm hba), put_ne (Ne.symm hpb)]; rw [put_ne (Ne.symm hba)] at hb; exact hb)]
    exact Ext.put (by rw [put_ne (Ne.symm hpa)]; exact ha)
def o_lot_drawn : ON := fun gs M Q => ∃ p l c many, gs = [.op (.ref p), .d (.int many)] ∧ M p = some (.lst l) ∧ PotL l c ∧ c + 1000 ≤ 900000 ∧ 0 ≤ many ∧ many ≤ 6 ∧ ∀ lot ∈ L6, (∀ t ∈ lot, t < many) → ∀ l', PotL l' (c + 7) → Q (.d (lotD lot)) (put M p (.lst l'))
theorem ok_lot_drawn (gl : Gl K mg) : Fn P w K mg base 3 "_law_lot_drawn" o_lot_drawn := by
  refine okf (d := d__law_lot_drawn) (N := ["pot", "many", "thing"]) (ps := ["pot", "many"]) gl 42 rfl (fun _ _ _ _ _ _ us hl => match us, hl with | [_, _], _ => rfl) (by decide +kernel) (fun gs M Q ⟨_, _, _, _, e, _⟩ => by rw [e]; rfl) (fun gs M Q ⟨p, l, c, many, e, hp, hl, hc, h0, h5, q⟩ => ?_)
  subst e
  have hlen : (rangeI many.toNat).length = many.toNat := by unfold rangeI; rw [List.length_map, List.length_range]
  refine ds_cons (d1_ret (de_callT o_tuple (n_tuple gl) rfl ?_))
  refine da_cons (de_callB o_sorted (n_sorted gl) rfl ?_)
  refine da_cons (de_lc (own := [("thing", 2)]) (lcI_list PyData.int (fun t : Int => PyData.int t) ?_) (blkOk_by (by kernel_rfl)))
  refine de_call (ok_some gl) (da_cons (PD.de (pd_var 0) (da_cons ?_)))
  refine de_listRg (n_list gl) (n_range gl) (PD.de (pd_var 1) ⟨many, rfl, h0, by omega, .frz (da_cons ?_)⟩)
  refine de_call (ok_take gl) (da_cons (PD.de (pd_var 0) (da_cons (PD.de (pd_bin o_add (pd_var 1) pd_int ⟨_, _, rfl, rfl, rfl, rfl⟩) (da_nil ⟨p, l, c, many + 1, rfl, hp, hl, by omega, by omega, by omega, fun k l1 hk0 hk1 hl1 => da_nil ?_⟩)))))
  refine ⟨p, l1, c + 1, rangeI many.toNat, k, by rw [rangeD_ints], put_same, hl1, by omega, hk0, by omega, by omega, fun es rs hperm hes l2 hl2 => ?_⟩
  have hmem : ∀ t ∈ es, 0 ≤ t ∧ t < many := fun t ht => by
    have := hperm.mem_iff.mp (List.mem_append_left rs ht)
    unfold rangeI at this
    obtain ⟨i, hi, rfl⟩ := List.mem_map.mp this
    rw [List.mem_range] at hi
    omega
  have hnd : (es ++ rs).Nodup := hperm.symm.nodup (List.pairwise_map.mpr (List.nodup_range.imp fun h => by omega))
  have hnd := (List.nodup_append.mp hnd).1
  have hel : es.length ≤ 6 := by
    have := hperm.length_eq
    rw [List.length_append, hlen] at this
    omega
  refine ⟨es, .d _, by show _ ≤ 16777216; omega, fun M' e t ht => dc_name 2 ⟨rfl, pd_callT o_int1 (n_int gl) rfl (da1 (pd_var 2)) (.inl ⟨t, rfl, rfl, rfl⟩)⟩, .frz (da_nil ?_)⟩
  -- the sorted ones
  let lot : List Int := ([0, 1, 2, 3, 4, 5] : List Int).filter fun t => es.contains t
  have hlp : lot.Pairwise (· < ·) := List.Pairwise.filter _ (by decide)
  have hlm : ∀ x, x ∈ lot ↔ x ∈ es := fun x => by
    show x ∈ ([0, 1, 2, 3, 4, 5] : List Int).filter (fun t => es.contains t) ↔ _
    rw [List.mem_filter, List.contains_iff_mem]
    refine ⟨fun h => h.2, fun h => ⟨?_, h⟩⟩
    have := hmem x h
    have : x = 0 ∨ x = 1 ∨ x = 2 ∨ x = 3 ∨ x = 4 ∨ x = 5 := by omega
    simpa using this
  have hsort : sortD (es.map PyData.int) = lot.map PyData.int := sortD_ints (perm_of_nodup (hlp.imp fun h => by omega) hnd hlm) hlp
  refine ⟨_, es.map PyData.int, rfl, .l (.d _), canSort_ints es, by rw [List.length_map]; show _ ≤ 16777216; omega, .frz (da_nil ⟨_, lot.map PyData.int, rfl, .l ?_, ?_⟩)⟩
  · rw [hsort]; exact .d _
  · rw [put_put]
    exact q lot (L6_of hlp fun t ht => by have := hmem t ((hlm t).mp ht); omega) (fun t ht => (hmem t ((hlm t).mp ht)).2) l2 (hl2.up (by omega))
end
end K13
end
section
set_option maxHeartbeats 4000000
namespace K13
open PySem PySem.Spec PyProof.Rows L2 B
/-! P7: all lots. -/
def nxt (lot : List Int) : Int := match lot.getLast? with
  | some t => t + 1
  | none => 0
def extOf (many : Int) (lot : List Int) : List (List Int) := (List.range (many - nxt lot).toNat).map fun i => lot ++ [nxt lot + (i : Nat)]
def lotsStep (many : Int) (found : List (List Int)) (size : Nat) : List (List Int) := found ++ (found.filter fun l => l.length == size).flatMap (extOf many)
def lotsOf (many : Int) : List (List Int) := (List.range many.toNat).foldl (lotsStep many) [[]]
theorem F_lots : ∀ m ∈ List.range 7, (∀ l ∈ lotsOf (m : Nat), l ∈ L6 ∧ ∀ t ∈ l, t < (m : Int)) ∧ (lotsOf (m : Nat)).Nodup ∧ [] ∈ lotsOf (m : Nat) ∧ (lotsOf (m : Nat)).length ≤ 64 ∧ ∀ k ∈ List.range (m + 1), ∃ l ∈ lotsOf (m : Nat), l.length = k := by decide +kernel
theorem F_lotsI : ∀ m ∈ List.range 7, ∀ i ∈ List.range (m + 1), ((List.range i).foldl (lotsStep (m : Nat)) [[]]).length ≤ 80 ∧ ∀ l ∈ (List.range i).foldl (lotsStep (m : Nat)) [[]], l ∈ L6 := by decide +kernel
theorem atI_last {α : Type} {xs : List α} (h : xs ≠ []) : atI xs (-1) = some (xs.getLast h) := by
  have hl : 0 < xs.length := List.length_pos_iff.mpr h
  have hn : ixN xs.length (-1) = some (xs.length - 1) := by
    unfold ixN
    rw [if_neg (by omega), if_pos (by omega)]
    congr 1
    omega
  unfold atI
  rw [hn]
  show xs[xs.length - 1]? = _
  rw [List.getLast_eq_getElem, List.getElem?_eq_getElem (by omega)]
end K13
end
section
set_option maxHeartbeats 4000000
namespace K13
open PySem PySem.Spec PyProof.Rows L2 B
/-! W10: weights drawn, the pot made, all lots. -/
section
variable {P : Program} {w : World} {K : PySem.W.Frag} {mg : Str → Option Value} {base : Heap}
def o_pot : ON := fun gs M Q => ∃ (g : B.G) (ns : List Int) (i : Nat), gs = [g, .d (.int i)] ∧ ScrV K M g ns ∧ i ≤ 10 ∧ ∀ p l, M p = none → PotL l 0 → Q (.op (.ref p)) (put M p (.lst l))
theorem ok_pot (gl : Gl K mg) : Fn P w K mg base 1 "_law_pot" (o_pot (K := K)) := by
  refine okf (d := d__law_pot) (N := ["script", "place", "cell", "own", "small"]) (ps := ["script", "place"]) gl 22 rfl (fun _ _ _ _ _ _ us hl => match us, hl with | [_, _], _ => rfl) (by decide +kernel) (fun gs M Q ⟨_, _, _, e, _⟩ => by rw [e]; rfl) (fun gs M Q ⟨g, ns, i, e, hs, hi, q⟩ => ?_)
  subst e
  refine ds_cons (d1_set 2 (DE.mono (Q := fun g' M' => (∃ z : Int, g' = .d (.int z)) ∧ Ext M M') ?_ ?_))
  · refine de_ifB (pb_cmp o_lt (pd_var 1) (pd_callB o_lenS (n_len gl) rfl (da1 (pd_var 0)) ⟨_, ns, rfl, hs, rfl, rfl⟩) ⟨_, _, rfl, rfl, rfl, rfl⟩) (fun h => ?_) (fun h => ?_)
    · rw [decide_eq_true_eq] at h
      have hlt : i < ns.length := by omega
      exact PD.de (pd_ix o_ixS (pd_var 0) (pd_var 1) ⟨ns, _, ns[i], hs, rfl, B.atI_nat (List.getElem?_eq_getElem hlt), rfl, rfl⟩) ⟨⟨_, rfl⟩, .refl _⟩
    · refine de_bin o_add ?_
      refine de_bin o_add ?_
      refine de_bin o_mod ?_
      refine de_callT o_int1 (n_int gl) rfl (da_cons ?_)
      refine de_callB o_sum (n_sum gl) rfl (da_cons ?_)
      refine de_slS (pd_var 0) hs .none (.some pd_int) fun a ha => ?_
      have ec : B.cutD (ns.map PyData.int) none (some 1) = (cutI ns none (some 1)).map PyData.int := by
        unfold B.cutD cutI
        rw [List.length_map, ← List.map_drop, ← List.map_take]
      refine da_nil ⟨_, cutI ns none (some 1), rfl, ?_, da_nil (.inl ⟨_, rfl, PD.de pd_int ⟨_, 999931, rfl, rfl, by omega, ?_⟩⟩)⟩
      · rw [← ec]
        exact .l put_same
      · refine PD.de (pd_bin o_mul pd_int (pd_var 1) ⟨3343, (i : Int), rfl, rfl, .inr ⟨by omega, by omega⟩, rfl, rfl⟩) ⟨_, _, rfl, rfl, PD.de pd_int ⟨_, 2243, rfl, rfl, ⟨_, rfl⟩, Ext.put ha⟩⟩
  · rintro g' M' ⟨⟨z, rfl⟩, hx⟩
    have habs : 0 ≤ (if z < 0 then -z else z) := by split <;> omega
    obtain ⟨az, eaz, haz⟩ : ∃ az : Int, (if z < 0 then -z else z) = az ∧ 0 ≤ az := ⟨_, rfl, habs⟩
    have e300 : ((10 : Int) ^ ((60 : Int)).toNat) ^ ((5 : Int)).toNat = 10 ^ 300 := pow300
    have hown : ∃ own : Int, (∀ (k : Bool), decide ((10 : Int) ^ ((18 : Int)).toNat ≤ az) = k → az % (10 ^ 300) * (if k = true then 1 else 0) = own) ∧ 0 ≤ own ∧ own < 10 ^ 300 := by
      have h1 : 0 ≤ az % (10 : Int) ^ 300 := Int.emod_nonneg _ (by decide)
      have h2 : az % (10 : Int) ^ 300 < 10 ^ 300 := Int.emod_lt_of_pos _ (by decide)
      cases h : decide ((10 : Int) ^ ((18 : Int)).toNat ≤ az) with
      | true => exact ⟨az % 10 ^ 300, fun k hk => by subst hk; simp, h1, h2⟩
      | false => exact ⟨0, fun k hk => by subst hk; simp, by omega, by decide⟩
    obtain ⟨own, eown, ho1, ho2⟩ := hown
    refine ds_cons (d1_set 3 (PD.de (g := .d (.int own)) (PD.to (pd_bin o_mul (pd_bin o_mod (pd_callT o_int1 (n_int gl) rfl (da1 (pd_callB o_abs (n_abs gl) rfl (da1 (pd_var 2)) ⟨z, rfl, rfl, rfl⟩)) (.inl ⟨_, rfl, rfl, rfl⟩)) (pd_bin o_powW (pd_bin o_pow pd_int pd_int ⟨10, 60, rfl, rfl, ⟨by omega, by omega, by decide⟩, rfl, rfl⟩) pd_int ⟨_, 5, rfl, rfl, ⟨by omega, bits300⟩, rfl, rfl⟩) ⟨_, _, rfl, rfl, ?_, rfl, rfl⟩)
      (pd_callT o_int1 (n_int gl) rfl (da1 (pd_cmp o_ge (pd_callB o_abs (n_abs gl) rfl (da1 (pd_var 2)) ⟨z, rfl, rfl, rfl⟩) (pd_bin o_pow pd_int pd_int ⟨10, 18, rfl, rfl, ⟨by omega, by omega, by decide⟩, rfl, rfl⟩) ⟨_, _, rfl, rfl, rfl, rfl⟩)) (.inr ⟨_, rfl, rfl, rfl⟩)) ⟨_, _, rfl, rfl, .inr ?_, rfl, rfl⟩) ?_) ?_))
    · show (0 : Int) < ((10 : Int) ^ ((60 : Int)).toNat) ^ ((5 : Int)).toNat
      rw [e300]
      decide
    · split <;> exact ⟨by omega, by omega⟩
    · simp only [eaz, e300]
      rw [eown _ rfl]
    · have hsm : ∀ x m : Int, 0 < m → 0 ≤ x % m ∧ x % m < m := fun x m h => ⟨Int.emod_nonneg _ (by omega), Int.emod_lt_of_pos _ h⟩
      have s1 := hsm z 2305843009213693951 (by omega)
      refine ds_cons (d1_set 4 (PD.de (pd_bin o_mod (pd_callT o_int1 (n_int gl) rfl (da1 (pd_var 2)) (.inl ⟨z, rfl, rfl, rfl⟩)) pd_int ⟨z, 2305843009213693951, rfl, rfl, by omega, rfl, rfl⟩) ?_))
      have s2 := hsm (z % 2305843009213693951 * 79349 + 11171 * (i : Int) * (i : Int) + 2087) 2305843009213693921 (by omega)
      refine ds_cons (d1_ret (de_drop (de_listM (da_cons (PD.de (pd_var 3) (da_cons (PD.de (pd_bin o_mod (pd_callT o_int1 (n_int gl) rfl (da1 (pd_bin o_add (pd_bin o_add (pd_bin o_mul (pd_var 4) pd_int ⟨z % 2305843009213693951, 79349, rfl, rfl, .inr ⟨by omega, by omega⟩, rfl, rfl⟩) (pd_bin o_mul (pd_bin o_mul pd_int (pd_var 1) ⟨11171, (i : Int), rfl, rfl, .inr ⟨by omega, by omega⟩, rfl, rfl⟩) (pd_var 1) ⟨11171 * (i : Int), (i : Int), rfl, rfl, .inr ⟨by omega, by omega⟩, rfl, rfl⟩) ⟨z % 2305843009213693951 * 79349, 11171 * (i : Int) * (i : Int), rfl, rfl, rfl, rfl⟩) pd_int ⟨z % 2305843009213693951 * 79349 + 11171 * (i : Int) * (i : Int), 2087, rfl, rfl, rfl, rfl⟩)) (.inl ⟨_, rfl, rfl, rfl⟩)) pd_int ⟨_, 2305843009213693921, rfl, rfl, by omega, rfl, rfl⟩) (da_cons (PD.de pd_int (da_nil ⟨Nat.le_of_ble_eq_true rfl, fun a ha => ?_⟩))))))))))
      have hMa : M a = none := by
        cases h : M a with
        | none => rfl
        | some o => rw [hx a o h] at ha; cases ha
      refine ⟨put M a _, fun b o hb => ?_, q a [.d (.int own), .d (.int ((z % 2305843009213693951 * 79349 + 11171 * (i : Int) * (i : Int) + 2087) % 2305843009213693921)), .d (.int 0)] hMa ⟨own, _, 0, rfl, ho1, ho2, s2.1, by omega, by omega, by omega⟩⟩
      by_cases hba : b = a
      · subst hba
        rw [put_same] at hb ⊢
        exact hb
      · rw [put_ne hba] at hb ⊢
        exact hx b o hb
end
end K13
end
section
set_option maxHeartbeats 4000000
namespace K13
open PySem PySem.Spec PyProof.Rows L2 B
/-! W11: cells, all lots. -/
theorem flat_take {α β : Type} (f : α → List β) {xs : List α} {i : Nat} {x : α} (h : xs[i]? = some x) : (xs.take (i + 1)).flatMap f = (xs.take i).flatMap f ++ f x := by
  rw [List.take_add_one, h, List.flatMap_append]
  simp
section
variable {P : Program} {w : World} {K : PySem.W.Frag} {mg : Str → Option Value} {base : Heap}
def o_cells : ON := fun gs M Q => ∃ (g : B.G) (ns : List Int), gs = [g, .d (.int 3)] ∧ ScrV K M g ns ∧ ∀ k : Nat, k ≤ 3 → Q (.d (.list (rangeD k))) M
theorem ok_cells (gl : Gl K mg) : Fn P w K mg base 1 "_law_cells" (o_cells (K := K)) := by
  refine okf (d := d__law_cells) (N := ["script", "most"]) (ps := ["script", "most"]) gl 25 rfl (fun _ _ _ _ _ _ us hl => match us, hl with | [_, _], _ => rfl) (by decide +kernel) (fun gs M Q ⟨_, _, e, _⟩ => by rw [e]; rfl) (fun gs M Q ⟨g, ns, e, hs, q⟩ => ?_)
  subst e
  have b1 : (if (ns.length : Int) < 3 then (ns.length : Int) else 3) ≤ 3 := by split <;> omega
  refine ds_cons (d1_ret (de_listRg (n_list gl) (n_range gl) (PD.de (pd_callB o_max2 (n_max gl) rfl (.cons pd_int (da1 (pd_callB o_min2 (n_min gl) rfl (.cons (pd_var 1) (da1 (pd_callB o_lenS (n_len gl) rfl (da1 (pd_var 0)) ⟨_, ns, rfl, hs, rfl, rfl⟩))) ⟨3, _, rfl, rfl, rfl⟩))) ⟨1, _, rfl, rfl, rfl⟩) ⟨_, rfl, ?_, ?_, .frz (q _ ?_)⟩)))
  · split <;> omega
  · split <;> omega
  · split <;> omega
def o_lots : ON := fun gs M Q => ∃ many : Int, gs = [.d (.int many)] ∧ 0 ≤ many ∧ many ≤ 6 ∧ Q (.d (.list ((lotsOf many).map lotD))) M
theorem ok_lots (gl : Gl K mg) : Fn P w K mg base 1 "_law_lots" o_lots := by
  refine okf (d := d__law_lots) (N := ["many", "found", "size", "lot", "one", "thing"]) (ps := ["many"]) gl 31 rfl (fun _ _ _ _ _ _ us hl => match us, hl with | [_], _ => rfl) (by decide +kernel) (fun gs M Q ⟨_, e, _⟩ => by rw [e]; rfl) (fun gs M Q ⟨many, e, h0, h5, q⟩ => ?_)
  subst e
  obtain ⟨m, rfl⟩ : ∃ m : Nat, many = (m : Nat) := ⟨many.toNat, by omega⟩
  have hm6 : m ∈ List.range 7 := by rw [List.mem_range]; omega
  refine ds_cons (d1_set 1 (de_listM (da_cons (PD.de (pd_tup (ds := []) .nil) (da_nil ⟨Nat.le_of_ble_eq_true rfl, fun p hp => ?_⟩)))))
  refine ds_cons (d1_for (di_range1 (n_range gl) (PD.de (pd_var 0) ⟨(m : Nat), rfl, by omega, by omega, fun i ρ M' => ∃ x2 x3 : Option B.G, M' = put M p (.lst ((((List.range m).take i).foldl (lotsStep (m : Nat)) [[]]).map fun l => B.G.d (lotD l))) ∧
    ρ = [some (.d (.int (m : Nat))), some (.op (.ref p)), x2, x3, none, none], ⟨_, _, rfl, rfl⟩, fun _ _ _ _ _ => trivial, ?_, ?_⟩)))
  · rintro i g ρ M' eg ⟨x2, x3, rfl, rfl⟩
    obtain ⟨hi, rfl⟩ := rangeG_get eg
    have hi' : i < m := by simpa using hi
    have hti : (List.range m).take i = List.range i := by rw [List.take_range, Nat.min_eq_left (by omega)]
    obtain ⟨hlen, h5l⟩ := F_lotsI m hm6 i (by rw [List.mem_range]; omega)
    obtain ⟨hlen2, h5l2⟩ := F_lotsI m hm6 (i + 1) (by rw [List.mem_range]; omega)
    rw [hti]
    obtain ⟨fnd, efnd⟩ : ∃ fnd, (List.range i).foldl (lotsStep (m : Nat)) [[]] = fnd := ⟨_, rfl⟩
    rw [efnd] at hlen h5l ⊢
    have enext : (List.range (i + 1)).foldl (lotsStep (m : Nat)) [[]] = lotsStep (m : Nat) fnd i := by rw [List.range_succ, List.foldl_append, efnd]; rfl
    rw [enext] at hlen2
    refine dg_name 2 (ds_cons (d1_for (di_list (PD.de (pd_filc [("one", 4)] (fun l : List Int => B.G.d (lotD l)) fnd (fun l => l.length == i) (fun l => lotD l) (pit_list (ds := fnd.map lotD) (pd_var 1) (.l (by rw [put_same, List.map_map]; rfl))) (by rw [List.map_map]; rfl) (by show _ ≤ 16777216; omega) fun M' e l hl => dc_name 4 ⟨rfl, ?_, fun _ => pd_var 4⟩)
      ⟨_, .d _, fun j ρ M' => ∃ x3 : Option B.G, M' = put M p (.lst ((fnd ++ ((fnd.filter fun l => l.length == i).take j).flatMap (extOf (m : Nat))).map fun l => B.G.d (lotD l))) ∧ ρ = [some (.d (.int (m : Nat))), some (.op (.ref p)), some (.d (.int (0 + (i : Nat)))), x3, none, none], ⟨_, by simp, rfl⟩, fun _ _ _ _ _ => .d _, ?_, ?_⟩))))
    · refine pb_cmp o_eq (pd_len (n_len gl) (pd_var 4) (.t _)) (pd_var 2) ⟨_, _, .d _, .d _, pl_int _, pl_int _, ?_, rfl⟩
      rw [eqv_int, List.length_map]
      show B.G.d (.bool (decide ((l.length : Int) = 0 + (i : Int)))) = _
      congr 2
      by_cases h : l.length = i
      · simp [h]
      · have : ¬ (l.length : Int) = 0 + (i : Int) := by omega
        have h2 : (l.length == i) = false := by simpa using h
        rw [h2]
        exact decide_eq_false this
    · rintro j g ρ M' eg ⟨x3, rfl, rfl⟩
      rw [List.getElem?_map, List.getElem?_map] at eg
      cases el : (fnd.filter fun l => l.length == i)[j]? with
      | none => rw [el] at eg; cases eg
      | some lot =>
        rw [el] at eg
        cases eg
        have hlot := (List.mem_filter.mp (List.mem_of_getElem? el)).1
        have hl5 := h5l lot hlot
        have hpw := (L6_pw lot hl5).2
        have hflen : (fnd ++ ((fnd.filter fun l => l.length == i).take (j + 1)).flatMap (extOf (m : Nat))).length ≤ 80 := by
          refine Nat.le_trans ?_ hlen2
          unfold lotsStep
          rw [List.length_append, List.length_append]
          refine Nat.add_le_add_left ?_ _
          have h := congrArg (fun l => (l.flatMap (extOf (m : Nat))).length) (List.take_append_drop (j + 1) (fnd.filter fun l => l.length == i))
          simp only [List.flatMap_append, List.length_append] at h
          omega
        have hnx : 0 ≤ nxt lot ∧ nxt lot ≤ 6 := by
          unfold nxt
          cases hg : lot.getLast? with
          | none => exact ⟨by show (0 : Int) ≤ 0; omega, by show (0 : Int) ≤ 6; omega⟩
          | some t =>
            have := hpw t (List.mem_of_getLast? hg)
            exact ⟨by show 0 ≤ t + 1; omega, by show t + 1 ≤ 6; omega⟩
        refine dg_name 3 (ds_cons (d1_expr (de_drop (de_extend (PD.de (pd_var 1) ⟨p, _, rfl, put_same, de_lc (own := [("thing", 5)]) (lcP_map (fun k : Nat => B.G.d (.int (nxt lot + (k : Nat)))) (List.range (((m : Nat) : Int) - nxt lot).toNat) (fun k => lotD (lot ++ [nxt lot + (k : Nat)])) (pit_range2 (n_range gl) (PD.to (pd_if (x := .d (.int (nxt lot))) (y := .d (.int 0)) (k := !lot.isEmpty) (pb_cmp o_ne (pd_var 3) (pd_tup (ds := []) .nil) ⟨_, _, .d _, .d _, pl_lot lot, ⟨by rw [PyData.plain]; rfl, by rw [PyData.depth, PyData.depthAll]; omega⟩, ?_, rfl⟩) (fun h => ?_) (fun _ => pd_int)) ?_) (pd_var 0) ⟨by omega, by omega⟩ ⟨by omega, by omega⟩) rfl ?_ (fun M' e k hk => dc_name 5 ⟨rfl, ?_⟩) (.mut fun b hb => ?_)) (blkOk_by (by kernel_rfl))⟩)))))
        · cases lot <;> rfl
        · have hne : lot ≠ [] := by
            intro e
            rw [e] at h
            cases h
          have hmne : lot.map PyData.int ≠ [] := by simpa using hne
          have e1 := atI_last hmne
          rw [List.getLast_map] at e1
          have e2 : nxt lot = lot.getLast hne + 1 := by
            unfold nxt
            rw [List.getLast?_eq_getLast hne]
          rw [e2]
          exact pd_bin o_add (pd_at (pd_var 3) (pd_un o_neg pd_int ⟨1, rfl, rfl, rfl⟩) e1) pd_int ⟨_, 1, rfl, rfl, rfl, rfl⟩
        · cases lot with
          | nil => rfl
          | cons a r => rfl
        · rw [List.length_range]; show _ ≤ 16777216; omega
        · refine PD.to (pd_bin o_catT (pd_var 3) (pd_tup (ds := [.int (nxt lot + (k : Nat))]) (da1 (pd_var 5))) ⟨lot.map PyData.int, _, rfl, rfl, ?_, rfl, rfl⟩) ?_
          · have := F_len lot hl5
            rw [List.length_map]
            show _ ≤ 16777216
            simp
            omega
          · unfold lotD
            rw [List.map_append]
            rfl
        · have hbp : p ≠ b := ne_free put_same hb
          have ee : ((List.range (((m : Nat) : Int) - nxt lot).toNat).map fun k => lotD (lot ++ [nxt lot + (k : Nat)])).map B.G.d = (extOf (m : Nat) lot).map fun l => B.G.d (lotD l) := by
            unfold extOf
            rw [List.map_map, List.map_map]
            rfl
          have ff := flat_take (extOf (m : Nat)) el
          rw [ff] at hflen
          rw [← List.append_assoc, List.length_append] at hflen
          rw [ee]
          refine ⟨b, _, _, rfl, by rw [put_ne hbp, put_same], put_same, ?_, put M p _, ?_, ds_nil ⟨_, rfl, rfl⟩⟩
          · rw [List.length_map, List.length_map]
            show _ ≤ 16777216
            omega
          · rw [ff, ← List.append_assoc, List.map_append (l₁ := fnd ++ _)]
            rw [put_put_ne hbp]
            exact Ext.put (by rw [put_ne (Ne.symm hbp)]; rw [put_ne (Ne.symm hbp)] at hb; exact hb)
    · rintro ρ M' ⟨x3, rfl, rfl⟩
      rw [List.length_map, List.length_map, List.take_length]
      refine ds_nil ⟨_, _, ?_, rfl⟩
      rw [List.take_range, Nat.min_eq_left (by omega), enext]
      rfl
  · rintro ρ M' ⟨x2, x3, rfl, rfl⟩
    rw [rangeG_length]
    refine ds_cons (d1_ret (de_drop (de_frz (PD.de (pd_var 1) (.inr ⟨p, (lotsOf (m : Nat)).map lotD, rfl, ?_, M, ?_, q⟩)))))
    · rw [put_same, List.map_map]
      rw [show ((m : Nat) : Int).toNat = m from rfl, List.take_of_length_le (by simp)]
      rfl
    · rw [del_put hp]
      exact fun _ _ h => h
end
end K13
end
section
set_option maxHeartbeats 4000000
namespace K13
open PySem PySem.Spec PyProof.Rows L2 B
/-! P8: lots sorted; choices. -/
def sortLots (ls : List (List Int)) : List (List Int) := ls.mergeSort fun a b => decide (a ≤ b)
theorem leD_lot {a b : List Int} (ha : a ∈ L6) (hb : b ∈ L6) : leD (lotD a) (lotD b) = decide (a ≤ b) := by
  unfold leD
  rw [lt_lots b hb a ha]
  by_cases h : b < a
  · rw [decide_eq_true h, decide_eq_false (by rw [← List.not_lt]; exact fun z => z h)]
    rfl
  · rw [decide_eq_false h, decide_eq_true (List.not_lt.mp h)]
    rfl
theorem sortD_lots {ls : List (List Int)} (h : ∀ l ∈ ls, l ∈ L6) : sortD (ls.map lotD) = (sortLots ls).map lotD := by
  unfold sortD sortLots
  rw [← PySem.W.sort_maps (r := fun a b : List Int => decide (a ≤ b)) (s := leD) lotD fun a ha b hb => (leD_lot (h a ha) (h b hb)).symm]
theorem sortLots_perm (ls : List (List Int)) : (sortLots ls).Perm ls := List.mergeSort_perm _ _
theorem sortLots_inc {ls : List (List Int)} (hn : ls.Nodup) : (sortLots ls).Pairwise fun a b => a < b := by
  have h1 : (sortLots ls).Pairwise fun a b => decide (a ≤ b) = true := List.pairwise_mergeSort (fun a b c h1 h2 => by simp only [decide_eq_true_eq] at *; exact List.le_trans h1 h2) (fun a b => by simp only [Bool.or_eq_true, decide_eq_true_eq]; exact List.le_total a b) ls
  have h2 : (sortLots ls).Nodup := (sortLots_perm ls).nodup_iff.mpr hn
  refine (h1.and h2).imp fun {a b} ⟨h, hne⟩ => ?_
  rw [decide_eq_true_eq] at h
  by_cases hlt : a < b
  · exact hlt
  · exact absurd (List.le_antisymm h (List.not_lt.mp hlt)) hne
theorem GoodH.of_mem {fs gs : List (List Int)} (h : GoodH fs) (m : ∀ l, l ∈ gs ↔ l ∈ fs) : GoodH gs := by
  refine ⟨fun a ha b hb => h.1 a ((m a).mp ha) b ((m b).mp hb), fun a ha b hb t ht => ?_⟩
  have := h.2 a ((m a).mp ha) b ((m b).mp hb) t ht
  unfold goB at this ⊢
  obtain ⟨u, h1, h2⟩ := List.any_eq_true.mp this
  exact List.any_eq_true.mpr ⟨u, h1, List.contains_iff_mem.mpr ((m _).mpr (List.contains_iff_mem.mp h2))⟩
structure ChoiceOk (many : Int) (fulls : List (List Int)) : Prop where
  ne : fulls ≠ []
  mem : ∀ l ∈ fulls, l ∈ L6 ∧ ∀ t ∈ l, t < many
  nd : fulls.Nodup
  eqn : ∀ a ∈ fulls, ∀ b ∈ fulls, a.length = b.length
  good : GoodH fulls
theorem ChoiceOk.perm {many : Int} {fs gs : List (List Int)} (h : ChoiceOk many fs) (p : gs.Perm fs) : ChoiceOk many gs :=
  ⟨fun e => h.ne (by rw [e] at p; exact p.symm.eq_nil), fun l hl => h.mem l (p.mem_iff.mp hl), p.nodup_iff.mpr h.nd, fun a ha b hb => h.eqn a (p.mem_iff.mp ha) b (p.mem_iff.mp hb), h.good.of_mem fun l => p.mem_iff⟩
/-- a choice, its fulls ascending -/
structure ChoiceI (many : Int) (fulls : List (List Int)) : Prop where
  ok : ChoiceOk many fulls
  inc : fulls.Pairwise fun a b => a < b
theorem ChoiceOk.sorted {many : Int} {fs : List (List Int)} (h : ChoiceOk many fs) : ChoiceI many (sortLots fs) := ⟨h.perm (sortLots_perm fs), sortLots_inc h.nd⟩
theorem canSort_lots {ls : List (List Int)} (he : ∀ a ∈ ls, ∀ b ∈ ls, a.length = b.length) (hn : ls.Nodup) : CanSort (ls.map lotD) := by
  refine ⟨PySem.W.AllAlike.of fun a b => alike_lot a b, plA_lots ls, (fun d hd => ?_), ?_⟩
  · obtain ⟨l, _, rfl⟩ := List.mem_map.mp hd
    exact fun z => nomatch z
  · by_cases h : [] ∈ ls
    · apply SortHow.inr
      rw [List.length_map]
      match ls, h, he, hn with
      | [a], _, _, _ => exact Nat.le_refl _
      | a :: b :: r, h, he, hn =>
        have ea := List.length_eq_zero_iff.mp ((he a (by simp) [] h).trans rfl)
        have eb := List.length_eq_zero_iff.mp ((he b (by simp) [] h).trans rfl)
        rw [ea, eb] at hn
        simp at hn
    · apply SortHow.inl
      left
      intro d hd
      obtain ⟨l, hl, rfl⟩ := List.mem_map.mp hd
      cases l with
      | nil => exact absurd hl h
      | cons x r => exact ⟨.int x, r.map PyData.int, rfl⟩
/-- any lots can be sorted, () too -/
theorem canSort_any (ls : List (List Int)) : CanSort (ls.map lotD) := by
  refine ⟨PySem.W.AllAlike.of fun a b => alike_lot a b, plA_lots ls, (fun d hd => ?_), ?_⟩
  · obtain ⟨l, _, rfl⟩ := List.mem_map.mp hd
    exact fun z => nomatch z
  · by_cases h : [] ∈ ls
    · exact .tup (fun d hd => by
        obtain ⟨l, _, rfl⟩ := List.mem_map.mp hd
        exact ⟨_, rfl⟩) (List.mem_map.mpr ⟨[], h, rfl⟩)
    · refine .inl (.inl fun d hd => ?_)
      obtain ⟨l, hl, rfl⟩ := List.mem_map.mp hd
      cases l with
      | nil => exact absurd hl h
      | cons x r => exact ⟨.int x, r.map PyData.int, rfl⟩
end K13
end
section
set_option maxHeartbeats 4000000
namespace K13
open PySem PySem.Spec PyProof.Rows L2 B
/-! P9a: what an exchange does. -/
theorem F_exch : ∀ a ∈ L6, ∀ b ∈ L6, (∀ t ∈ less b a, ∀ u ∈ less a b, (ins (drp b t) u).length = b.length ∧ (less (ins (drp b t) u) a).length < (less b a).length) ∧ (less b a = [] → b.length ≤ a.length) := by decide +kernel
end K13
end
section
set_option maxHeartbeats 4000000
namespace K13
open PySem PySem.Spec PyProof.Rows L2 B
/-! P11: what taking the next best reaches. -/
abbrev six : List Int := [0, 1, 2, 3, 4, 5]
theorem ext6 {a b : List Int} (ha : a ∈ L6) (hb : b ∈ L6) (h : ∀ t, t ∈ a ↔ t ∈ b) : a = b :=
  (perm_of_nodup (nd6 ha) (nd6 hb) h).eq_of_pairwise (fun x y _ _ h1 h2 => by omega) (L6_pw a ha).1 (L6_pw b hb).1
theorem mem6 {a : List Int} {t : Int} (ha : a ∈ L6) (ht : t ∈ a) : t ∈ six := F_mem a ha t ht
/-! ### the fold -/
/-! ### weights -/
/-! ### a few and a many -/
end K13
end
section
set_option maxHeartbeats 4000000
namespace K13
open PySem PySem.Spec PyProof.Rows L2 B
/-! P12: of a choice, taking the next best is best. -/
def cnt (ws : List Int) (c : Int) (l : List Int) : Nat := l.countP fun t => decide (c ≤ wAt ws t)
end K13
end
section
set_option maxHeartbeats 4000000
namespace K13
open PySem PySem.Spec PyProof.Rows L2 B
/-! M1: families of lots that can be augmented; their greatest lots can be exchanged. -/
structure MatJ (J : List Int → Prop) : Prop where
  perm : ∀ {X Y : List Int}, X.Perm Y → J X → J Y
  nil : J []
  sub : ∀ {x : Int} {X : List Int}, (x :: X).Nodup → J (x :: X) → J X
  aug : ∀ {X Y : List Int}, X.Nodup → Y.Nodup → J X → J Y → X.length < Y.length → ∃ y ∈ Y, y ∉ X ∧ J (y :: X)
theorem nd_erase {X : List Int} {t : Int} (hX : X.Nodup) : (X.erase t).Nodup := hX.erase t
theorem MatJ.drop {J : List Int → Prop} (h : MatJ J) {X : List Int} {t : Int} (hX : X.Nodup) (ht : t ∈ X) (j : J X) : J (X.erase t) := by
  have p := List.perm_cons_erase ht
  exact h.sub (p.nodup_iff.mp hX) (h.perm p j)
theorem erase_drp {a : List Int} {t : Int} (ha : a ∈ L6) (ht : t ∈ a) : (a.erase t).Perm (drp a t) :=
  (List.perm_cons t).mp ((List.perm_cons_erase ht).symm.trans (drp_perm ha ht))
/-- the greatest lots can be exchanged -/
theorem great_good {J : List Int → Prop} (hJ : MatJ J) {many : Int} {fl : List (List Int)} {mx : Nat} (hm : ∀ l, l ∈ fl ↔ l ∈ L6 ∧ (∀ t ∈ l, t < many) ∧ J l ∧ l.length = mx) : GoodH fl := by
  refine ⟨fun a ha b hb => ?_, fun a ha b hb t ht => ?_⟩
  · have h1 := ((hm a).mp ha).2.2.2
    have h2 := ((hm b).mp hb).2.2.2
    omega
  · obtain ⟨a6, am, ja, la⟩ := (hm a).mp ha
    obtain ⟨b6, bm, jb, lb⟩ := (hm b).mp hb
    obtain ⟨hta, htb⟩ := less_iff.mp ht
    have le : (a.erase t).length + 1 = a.length := by
      have := (List.perm_cons_erase hta).length_eq
      rw [List.length_cons] at this
      omega
    obtain ⟨y, hy, hyn, jy⟩ := hJ.aug (nd_erase (nd6 a6)) (nd6 b6) (hJ.drop (nd6 a6) hta ja) jb (by omega)
    have hd6 := F_drp5 a a6 t hta
    have hyd : y ∉ drp a t := fun h => hyn ((erase_drp a6 hta).mem_iff.mpr h)
    have hya : y ∉ a := fun h => hyd (drp_mem.mpr ⟨h, fun e => htb (by rw [← e]; exact hy)⟩)
    have hy6 := mem6 b6 hy
    have p : (ins (drp a t) y).Perm (y :: a.erase t) := (ins_perm hd6 hy6 hyd).trans ((erase_drp a6 hta).symm.cons y)
    unfold goB
    refine List.any_eq_true.mpr ⟨y, less_iff.mpr ⟨hy, hya⟩, List.contains_iff_mem.mpr ((hm _).mpr ⟨(F_ins _ hd6 y hy6).2, fun x hx => ?_, hJ.perm p.symm jy, ?_⟩)⟩
    · rcases (ins_mem hd6 hy6).mp hx with h | h
      · exact am x (drp_mem.mp h).1
      · rw [h]; exact bm y hy
    · rw [p.length_eq, List.length_cons]
      omega
/-! ### wishes -/
/-- persons' things: each thing of the lot to another person -/
def JW : List (List Int) → List Int → Prop
  | [], X => X = []
  | l :: ls, X => JW ls X ∨ ∃ t ∈ X, t ∈ l ∧ JW ls (X.erase t)
theorem JW.perm : ∀ {ls : List (List Int)} {X Y : List Int}, X.Perm Y → JW ls X → JW ls Y
  | [], X, Y, p, h => by
    have h' : X = [] := h
    subst h'
    exact p.symm.eq_nil
  | l :: ls, X, Y, p, h => by
    rcases h with h | ⟨t, ht, hl, h⟩
    · exact .inl (JW.perm p h)
    · exact .inr ⟨t, p.mem_iff.mp ht, hl, JW.perm (p.erase t) h⟩
theorem JW.nil : ∀ {ls : List (List Int)}, JW ls []
  | [] => rfl
  | _ :: ls => .inl (JW.nil (ls := ls))
def JP (l : List Int) (J : List Int → Prop) (X : List Int) : Prop := J X ∨ ∃ t ∈ X, t ∈ l ∧ J (X.erase t)
theorem len_erase {X : List Int} {t : Int} (ht : t ∈ X) : (X.erase t).length + 1 = X.length := by
  have := (List.perm_cons_erase ht).length_eq
  rw [List.length_cons] at this
  omega
theorem erase_out {X : List Int} {t : Int} (hX : X.Nodup) : t ∉ X.erase t := fun h => ((hX.mem_erase_iff).mp h).1 rfl
theorem cons_erase_ne {X : List Int} {z t : Int} (h : z ≠ t) : (z :: X).erase t = z :: X.erase t := by
  rw [List.erase_cons_tail]
  simpa using h
/-- one more person -/
theorem MatJ.more {J : List Int → Prop} (h : MatJ J) (l : List Int) : MatJ (JP l J) := by
  have left : ∀ {X Y : List Int}, X.Nodup → Y.Nodup → J X → JP l J Y → X.length < Y.length → ∃ y ∈ Y, y ∉ X ∧ JP l J (y :: X) := fun {X Y} nX nY jx jy hl => by
    rcases jy with jy | ⟨y, hy, hyl, jy⟩
    · obtain ⟨z, h1, h2, h3⟩ := h.aug nX nY jx jy hl
      exact ⟨z, h1, h2, .inl h3⟩
    · by_cases hyX : y ∈ X
      · have ly := len_erase hy
        by_cases hlt : X.length < (Y.erase y).length
        · obtain ⟨z, h1, h2, h3⟩ := h.aug nX (nY.erase y) jx jy hlt
          exact ⟨z, List.mem_of_mem_erase h1, h2, .inl h3⟩
        · have lx := len_erase hyX
          obtain ⟨z, h1, h2, h3⟩ := h.aug (nX.erase y) (nY.erase y) (h.drop nX hyX jx) jy (by omega)
          have hzy : z ≠ y := fun e => by rw [e] at h1; exact erase_out nY h1
          refine ⟨z, List.mem_of_mem_erase h1, fun hz => h2 ((nX.mem_erase_iff).mpr ⟨hzy, hz⟩), .inr ⟨y, List.mem_cons_of_mem _ hyX, hyl, ?_⟩⟩
          rw [cons_erase_ne hzy]
          exact h3
      · refine ⟨y, hy, hyX, .inr ⟨y, List.mem_cons_self, hyl, ?_⟩⟩
        rw [List.erase_cons_head]
        exact jx
  refine ⟨fun {X Y} p j => ?_, .inl h.nil, fun {x X} n j => ?_, fun {X Y} nX nY jx jy hl => ?_⟩
  · rcases j with j | ⟨t, ht, hl, j⟩
    · exact .inl (h.perm p j)
    · exact .inr ⟨t, p.mem_iff.mp ht, hl, h.perm (p.erase t) j⟩
  · rcases j with j | ⟨t, ht, hl, j⟩
    · exact .inl (h.sub n j)
    · by_cases e : x = t
      · subst e
        rw [List.erase_cons_head] at j
        exact .inl j
      · rcases List.mem_cons.mp ht with e2 | ht
        · exact absurd e2.symm e
        · rw [cons_erase_ne e] at j
          refine .inr ⟨t, ht, hl, h.sub (List.nodup_cons.mpr ⟨fun z => (List.nodup_cons.mp n).1 (List.mem_of_mem_erase z), (List.nodup_cons.mp n).2.erase t⟩) j⟩
  · rcases jx with jx | ⟨x, hx, hxl, jx⟩
    · exact left nX nY jx jy hl
    · have lx := len_erase hx
      have go : ∀ z, z ∈ Y → z ∉ X.erase x → J (z :: X.erase x) → ∃ y ∈ Y, y ∉ X ∧ JP l J (y :: X) := fun z h1 h2 h3 => by
        by_cases e : z = x
        · subst e
          exact left nX nY (h.perm (List.perm_cons_erase hx).symm h3) jy hl
        · refine ⟨z, h1, fun hz => h2 ((nX.mem_erase_iff).mpr ⟨e, hz⟩), .inr ⟨x, List.mem_cons_of_mem _ hx, hxl, ?_⟩⟩
          rw [cons_erase_ne e]
          exact h3
      rcases jy with jy | ⟨y, hy, hyl, jy⟩
      · obtain ⟨z, h1, h2, h3⟩ := h.aug (nX.erase x) nY jx jy (by omega)
        exact go z h1 h2 h3
      · have ly := len_erase hy
        obtain ⟨z, h1, h2, h3⟩ := h.aug (nX.erase x) (nY.erase y) jx jy (by omega)
        exact go z (List.mem_of_mem_erase h1) h2 h3
theorem matJ_wishes : ∀ ls : List (List Int), MatJ (JW ls)
  | [] => ⟨fun {X Y} p j => JW.perm p j, rfl, (fun {x X} n j => absurd (show x :: X = [] from j) (List.cons_ne_nil _ _)), fun {X Y} nX nY jx jy hl => by
    have e : Y = [] := jy
    subst e
    exact absurd hl (Nat.not_lt_zero _)⟩
  | l :: ls => (matJ_wishes ls).more l
/-- the law's own words: the first thing to some person, the others to the others -/
theorem JW_cons : ∀ {ls : List (List Int)} {x : Int} {r : List Int}, (x :: r).Nodup → (JW ls (x :: r) ↔ ∃ i l, ls[i]? = some l ∧ x ∈ l ∧ JW (ls.eraseIdx i) r)
  | [], x, r, _ => by
    constructor
    · intro h
      exact nomatch (show x :: r = [] from h)
    · rintro ⟨i, l, e, _⟩
      simp at e
  | l :: ls, x, r, n => by
    obtain ⟨hxr, nr⟩ := List.nodup_cons.mp n
    constructor
    · rintro (h | ⟨t, ht, hl, h⟩)
      · obtain ⟨i, l', e, hx, hj⟩ := (JW_cons n).mp h
        exact ⟨i + 1, l', e, hx, .inl hj⟩
      · by_cases e : x = t
        · subst e
          rw [List.erase_cons_head] at h
          exact ⟨0, l, rfl, hl, h⟩
        · rcases List.mem_cons.mp ht with e2 | ht
          · exact absurd e2.symm e
          · rw [cons_erase_ne e] at h
            obtain ⟨i, l', e', hx, hj⟩ := (JW_cons (List.nodup_cons.mpr ⟨fun z => hxr (List.mem_of_mem_erase z), nr.erase t⟩)).mp h
            exact ⟨i + 1, l', e', hx, .inr ⟨t, ht, hl, hj⟩⟩
    · rintro ⟨i, l', e, hx, hj⟩
      cases i with
      | zero =>
        have e' : l = l' := by simpa using e
        subst e'
        exact .inr ⟨x, List.mem_cons_self, hx, by rw [List.erase_cons_head]; exact hj⟩
      | succ i =>
        have e' : ls[i]? = some l' := by simpa using e
        rcases hj with hj | ⟨t, ht, hl, hj⟩
        · exact .inl ((JW_cons n).mpr ⟨i, l', e', hx, hj⟩)
        · have hxt : x ≠ t := fun z => hxr (by rw [z]; exact ht)
          refine .inr ⟨t, List.mem_cons_of_mem _ ht, hl, ?_⟩
          rw [cons_erase_ne hxt]
          exact (JW_cons (List.nodup_cons.mpr ⟨fun z => hxr (List.mem_of_mem_erase z), nr.erase t⟩)).mpr ⟨i, l', e', hx, hj⟩
end K13
end
section
set_option maxHeartbeats 4000000
namespace K13
open PySem PySem.Spec PyProof.Rows L2 B
/-! W12: the greatest lots that are taken. -/
/-- what asks of a lot answers a bool; of the empty one: True -/
def o_taken (J : List Int → Prop) (many : Int) : PO' := fun gs R => ∃ l, l ∈ L6 ∧ (∀ t ∈ l, t < many) ∧ gs = [.d (lotD l)] ∧ ∀ b : Bool, (b = true ↔ J l) → R (.d (.bool b))
theorem F_lots_in : ∀ m ∈ List.range 7, ∀ l ∈ L6, (∀ t ∈ l, t < (m : Int)) → l ∈ lotsOf (m : Nat) := by decide +kernel
section
variable {P : Program} {w : World} {K : PySem.W.Frag} {mg : Str → Option Value} {base : Heap}
def o_greatest (P : Program) (w : World) (K : PySem.W.Frag) (mg : Str → Option Value) (base : Heap) : ON := fun gs M Q => ∃ many f J, MatJ J ∧ gs = [.d (.int many), .op (.ref f)] ∧ M f = some (.gen (CloG P w K mg base 9 f (o_taken J many))) ∧ 0 ≤ many ∧ many ≤ 6 ∧ ∀ fulls, ChoiceI many fulls → Q (.d (.tuple [.int many, lotsD fulls])) M
theorem ok_greatest (gl : Gl K mg) : Fn P w K mg base 10 "_law_greatest" (o_greatest P w K mg base) := by
  refine okf (d := d__law_greatest) (N := ["many", "is_taken", "taken", "most", "lot"]) (ps := ["many", "is_taken"]) gl 35 rfl (fun _ _ _ _ _ _ us hl => match us, hl with | [_, _], _ => rfl) (by decide +kernel) (fun gs M Q ⟨_, _, _, _, e, _⟩ => by rw [e]; rfl) (fun gs M Q ⟨many, f, J, hJ, e, hf, h0, h5, q⟩ => ?_)
  subst e
  obtain ⟨m, rfl⟩ : ∃ m : Nat, many = (m : Nat) := ⟨many.toNat, by omega⟩
  obtain ⟨F1, F2, F3, F4, _⟩ := F_lots m (by rw [List.mem_range]; omega)
  refine ds_cons (d1_setLc 2 (own := [("lot", 4)]) (lcP_nd (fun l b => (b = true ↔ J l)) (fun l : List Int => B.G.d (lotD l)) (lotsOf (m : Nat)) (fun l => lotD l) (pit_list (ds := (lotsOf (m : Nat)).map lotD) (pd_call (ok_lots gl) (da1 (pd_var 0)) ⟨(m : Nat), rfl, by omega, by omega, rfl, rfl⟩) (.d _)) (by rw [List.map_map]; rfl) (by show _ ≤ 16777216; omega)
    (fun M' e l hl => dc_name 4 ⟨rfl, dt_val (de_callV (k := 9) (f := f) (o := o_taken J ((m : Nat) : Int)) 1 (e _ _ hf) (PD.de (pd_var 4) ⟨rfl, fun g => ∃ b : Bool, g = .d (.bool b) ∧ (b = true ↔ J l), ⟨l, (F1 l hl).1, (F1 l hl).2, rfl, fun b hb => ⟨b, rfl, hb⟩⟩, fun g ⟨b, eb, hb⟩ => ⟨b, eb, rfl, hb, pd_var 4⟩⟩))⟩) fun ys hsub hin htr => .frz ?_) (blkOk_by (by kernel_rfl)))
  have hnil : [] ∈ ys := hin [] F3 fun z => by have := z.mpr hJ.nil; cases this
  have hne : ys ≠ [] := fun z => by rw [z] at hnil; cases hnil
  have hy : ∀ l ∈ ys, l ∈ L6 ∧ ∀ t ∈ l, t < ((m : Nat) : Int) := fun l hl => F1 l (hsub.subset hl)
  have hyn : ys.Nodup := F2.sublist hsub
  have hyl : ys.length ≤ 64 := Nat.le_trans hsub.length_le F4
  refine ds_cons (d1_set 3 (PD.de (g := .d (.int (maxI (ys.map fun l => ((l.length : Nat) : Int))))) (pd_callB o_maxL (n_max gl) rfl (da1 (pd_mapc [("lot", 4)] (fun l : List Int => B.G.d (lotD l)) ys (fun l => .int ((l.length : Nat) : Int)) (pit_list (ds := ys.map lotD) (pd_var 2) (.d _)) (by rw [List.map_map]; rfl) (by show _ ≤ 16777216; omega) fun M' e l hl => dc_name 4 ⟨rfl, PD.to (pd_len (n_len gl) (pd_var 4) (.t _)) (by rw [List.length_map])⟩)) ⟨_, ys.map fun l => ((l.length : Nat) : Int), rfl, ?_, by simpa using hne, rfl, rfl⟩) ?_))
  · rw [List.map_map]; exact .d _
  obtain ⟨mx, emx⟩ : ∃ mx, maxI (ys.map fun l => ((l.length : Nat) : Int)) = mx := ⟨_, rfl⟩
  rw [emx]
  have hmx : ∃ l ∈ ys, ((l.length : Nat) : Int) = mx := by
    have := (maxI_spec (ns := ys.map fun l => ((l.length : Nat) : Int)) (by simpa using hne)).1
    rw [emx] at this
    obtain ⟨l, hl, e⟩ := List.mem_map.mp this
    exact ⟨l, hl, e⟩
  obtain ⟨fl, efl⟩ : ∃ fl, ys.filter (fun l => decide (((l.length : Nat) : Int) = mx)) = fl := ⟨_, rfl⟩
  have cho : ChoiceOk ((m : Nat) : Int) fl := by
    subst efl
    refine ⟨fun z => ?_, fun l hl => hy l (List.mem_filter.mp hl).1, hyn.filter _, fun a ha b hb => ?_, great_good hJ (many := ((m : Nat) : Int)) (mx := mx.toNat) fun l => ?_⟩
    · obtain ⟨l, hl, e⟩ := hmx
      have : l ∈ ys.filter (fun l => decide (((l.length : Nat) : Int) = mx)) := List.mem_filter.mpr ⟨hl, by simp [e]⟩
      rw [z] at this
      cases this
    · have h1 := (List.mem_filter.mp ha).2
      have h2 := (List.mem_filter.mp hb).2
      rw [decide_eq_true_eq] at h1 h2
      omega
    · rw [List.mem_filter, decide_eq_true_eq]
      obtain ⟨l0, _, e0⟩ := hmx
      constructor
      · rintro ⟨h1, h2⟩
        exact ⟨(hy l h1).1, (hy l h1).2, (htr l h1).mp rfl, by omega⟩
      · rintro ⟨h1, h2, h3, h4⟩
        exact ⟨hin l (F_lots_in m (by rw [List.mem_range]; omega) l h1 h2) (fun z => by have := z.mpr h3; cases this), by omega⟩
  have hfl5 : ∀ l ∈ fl, l ∈ L6 := fun l hl => (cho.mem l hl).1
  have hfll : fl.length ≤ 64 := by rw [← efl]; exact Nat.le_trans (List.length_filter_le _ _) hyl
  refine ds_cons (d1_ret (PD.de (pd_tup (ds := [.int ((m : Nat) : Int), lotsD (sortLots fl)]) (.cons (pd_var 0) (da1 (pd_tup1 (n_tuple gl) (PD.to (pd_sorted (n_sorted gl) (pd_filc [("lot", 4)] (fun l : List Int => B.G.d (lotD l)) ys (fun l => decide (((l.length : Nat) : Int) = mx)) (fun l => lotD l) (pit_list (ds := ys.map lotD) (pd_var 2) (.d _)) (by rw [List.map_map]; rfl) (by show _ ≤ 16777216; omega)
    fun M' e l hl => dc_name 4 ⟨rfl, pb_cmp o_eq (pd_len (n_len gl) (pd_var 4) (.t _)) (pd_var 3) ⟨_, _, .d _, .d _, pl_int _, pl_int _, by rw [eqv_int, List.length_map], rfl⟩, fun _ => pd_var 4⟩) (.l (.d _)) (by rw [efl]; exact canSort_lots cho.eqn cho.nd) (by rw [efl, List.length_map]; show _ ≤ 16777216; omega)) (by rw [efl, sortD_lots hfl5])))))) (q _ cho.sorted)))
end
end K13
end
section
set_option maxHeartbeats 4000000
namespace K13
open PySem PySem.Spec PyProof.Rows L2 B
/-! W13: what is asked of lots. -/
section
variable {P : Program} {w : World} {K : PySem.W.Frag} {mg : Str → Option Value} {base : Heap}
def o_given (n : Nat) : ON := fun gs M Q => ∃ (l : List Int) (ls : List (List Int)), gs = [.d (lotD l), .d (.list (ls.map lotD))] ∧ l.length = n ∧ n ≤ 6 ∧ ls.length ≤ 10 ∧ l.Nodup ∧ ∀ b : Bool, (b = true ↔ JW ls l) → Q (.d (.bool b)) M
theorem at_lot (x : Int) (r : List Int) : (atI ((x :: r).map PyData.int) (0 : Int)) = some (PyData.int x) := by
  exact atI_nat (xs := (x :: r).map PyData.int) (i := 0) rfl
theorem ok_given' (gl : Gl K mg) (n : Nat) (ih : ∀ m, m + 1 = n → Fn P w K mg base (m + 1) "_law_can_be_given" (o_given m)) : Fn P w K mg base (n + 1) "_law_can_be_given" (o_given n) := by
    refine okf (d := d__law_can_be_given) (N := ["lot", "lists", "at", "wished"]) (ps := ["lot", "lists"]) gl 38 rfl (fun _ _ _ _ _ _ us hl => match us, hl with | [_, _], _ => rfl) (by decide +kernel) (fun gs M Q ⟨_, _, e, _⟩ => by rw [e]; rfl) (fun gs M Q ⟨l, ls, e, hn, hn5, hz, hnd, q⟩ => ?_)
    subst e
    refine ds_cons (d1_ifB (k := l.isEmpty) (pb_cmp o_eq (pd_var 0) (pd_tup (ds := []) .nil) ⟨_, _, .d _, .d _, pl_lot l, ⟨by rw [PyData.plain]; rfl, by rw [PyData.depth, PyData.depthAll]; omega⟩, ?_, rfl⟩) (fun h => ?_) (fun h => ?_))
    · cases l <;> rfl
    · have el : l = [] := List.isEmpty_iff.mp h
      exact ds_cons (d1_ret (PD.de pd_bl (q true ⟨fun _ => by rw [el]; exact JW.nil, fun _ => rfl⟩)))
    · obtain ⟨x, r, rfl⟩ : ∃ x r, l = x :: r := by
        cases l with
        | nil => cases h
        | cons x r => exact ⟨x, r, rfl⟩
      have hnr := (List.nodup_cons.mp hnd).2
      obtain ⟨m, rfl⟩ : ∃ m, n = m + 1 := ⟨r.length, hn.symm⟩
      have hr : r.length = m := by
        have : r.length + 1 = m + 1 := hn
        omega
      refine ds_nil (ds_cons (d1_for (di_enum (n_enumerate gl) (PD.de (pd_var 1) ⟨ls.map lotD, .d _, fun i ρ M' => M' = M ∧ (∀ i', i' < i → ∀ l', ls[i']? = some l' → x ∈ l' → ¬ JW (ls.eraseIdx i') r) ∧ ∃ x2 x3, ρ = [some (.d (lotD (x :: r))), some (.d (.list (ls.map lotD))), x2, x3], ⟨rfl, fun i' hi' => absurd hi' (Nat.not_lt_zero _), _, _, rfl⟩, fun _ _ _ _ _ => .d _, ?_, ?_⟩))))
      · rintro i g ρ M' eg ⟨rfl, hno, x2, x3, rfl⟩
        obtain ⟨d, e1, e2⟩ := enumG_get eg
        rw [List.getElem?_map] at e1
        cases ea : ls[i]? with
        | none => rw [ea] at e1; cases e1
        | some a =>
          rw [ea] at e1
          cases e1
          rw [Nat.zero_add] at e2
          subst e2
          refine dg_tup (ds := [.int (i : Nat), lotD a]) (n := 2) (dgs_cons (dg_name 2 (dgs_cons (dg_name 3 (dgs_nil ?_))))) rfl
          refine ds_cons (d1_if (DW.dt (dw_and (PB.dt (pb_cmp o_in (pd_at (pd_var 0) pd_int (at_lot _ _)) (pd_var 3) ⟨.int x, a.map PyData.int, .d _, .t _, pl_int _, plA_ints a, rfl, rfl⟩) ?_))))
          have step : (x ∈ a → ¬ JW (ls.eraseIdx i) r) → ∀ i', i' < i + 1 → ∀ l', ls[i']? = some l' → x ∈ l' → ¬ JW (ls.eraseIdx i') r := fun hs i' hi' l' el hx => by
            by_cases e : i' = i
            · subst e
              rw [ea] at el
              cases el
              exact hs hx
            · exact hno i' (by omega) l' el hx
          have hkk := isIn_ints x a
          generalize isIn (PyData.int x) (a.map PyData.int) = kk at hkk ⊢
          cases kk with
          | false => exact ifF rfl (ifF rfl (ds_nil (ds_nil ⟨rfl, step (fun hx => by rw [List.contains_iff_mem.mpr hx] at hkk; cases hkk), _, _, rfl⟩)))
          | true =>
            refine ifT rfl (dw_and1 (dt_val (de_call (ih m rfl) (da_cons (PD.de (pd_slT (pd_var 0) (.some pd_int) .none) (da_cons ?_))) (hk := Nat.le_refl _))))
            refine PD.de (pd_bin o_catL (pd_slL (pd_var 1) (.d _) .none (.some (pd_var 2))) (pd_slL (pd_var 1) (.d _) (.some (pd_bin o_add (pd_var 2) pd_int ⟨_, _, rfl, rfl, rfl, rfl⟩)) .none) ⟨_, _, .d _, .d _, ?_, .frz ⟨rfl, rfl⟩⟩) (da_nil ⟨r, ls.eraseIdx i, ?_, hr, by omega, ?_, hnr, fun b hb => ⟨b, rfl, ?_⟩⟩)
            · rw [cut_to, show B.cutD (ls.map lotD) (some ((fun i j => i + j) ((i : Nat) : Int) 1)) none = (ls.map lotD).drop (i + 1) from cut_from _ (i + 1), List.length_take, List.length_drop, List.length_map]
              exact Nat.le_trans (by omega : _ ≤ 10 + 10) (Nat.le_of_ble_eq_true rfl)
            · rw [cut_to, show B.cutD (ls.map lotD) (some ((fun i j => i + j) ((i : Nat) : Int) 1)) none = (ls.map lotD).drop (i + 1) from cut_from _ (i + 1), ← List.map_take, ← List.map_drop, ← List.map_append, cut_from1, List.eraseIdx_eq_take_drop_succ]
              rfl
            · exact Nat.le_trans (List.length_eraseIdx_le _ _) hz
            · cases b with
              | true => exact ifT rfl (ds_cons (d1_ret (PD.de pd_bl (q true ⟨fun _ => (JW_cons hnd).mpr ⟨i, a, ea, List.contains_iff_mem.mp hkk.symm, hb.mp rfl⟩, fun _ => rfl⟩))))
              | false => exact ifF rfl (ds_nil (ds_nil ⟨rfl, step (fun _ hj => by have := hb.mpr hj; cases this), _, _, rfl⟩))
      · rintro ρ M' ⟨rfl, hno, x2, x3, rfl⟩
        refine ds_cons (d1_ret (PD.de pd_bl (q false ⟨(fun z => nomatch z), fun hj => ?_⟩)))
        obtain ⟨i, l', e, hx, hj⟩ := (JW_cons hnd).mp hj
        refine absurd hj (hno i ?_ l' e hx)
        have := (List.getElem?_eq_some_iff.mp e).1
        rw [enumG_length, List.length_map]
        exact this
theorem ok_given (gl : Gl K mg) : ∀ n, Fn P w K mg base (n + 1) "_law_can_be_given" (o_given n)
  | 0 => ok_given' gl 0 fun m hm => nomatch hm
  | n + 1 => ok_given' gl (n + 1) fun m hm => by
    cases hm
    exact ok_given gl n
end
end K13
end
section
set_option maxHeartbeats 4000000
namespace K13
open PySem PySem.Spec PyProof.Rows L2 B
/-! M2: vectors of numbers by a prime; independent lists of them. -/
abbrev Vec := Nat → Int
/-- every number that p does not divide has an inverse -/
structure Pri (p : Int) : Prop where
  one : ¬ p ∣ 1
  inv : ∀ a : Int, ¬ p ∣ a → ∃ b, p ∣ a * b - 1
theorem pri2 : Pri 2 := ⟨by omega, fun a h => ⟨1, by omega⟩⟩
theorem pri3 : Pri 3 := ⟨by omega, fun a h => by
  rcases (show a % 3 = 1 ∨ a % 3 = 2 by omega) with e | e
  · exact ⟨1, by omega⟩
  · exact ⟨2, by omega⟩⟩
theorem pri5 : Pri 5 := ⟨by omega, fun a h => by
  rcases (show a % 5 = 1 ∨ a % 5 = 2 ∨ a % 5 = 3 ∨ a % 5 = 4 by omega) with e | e | e | e
  · exact ⟨1, by omega⟩
  · exact ⟨3, by omega⟩
  · exact ⟨2, by omega⟩
  · exact ⟨4, by omega⟩⟩
theorem Pri.cut {p : Int} (h : Pri p) {a c : Int} (ha : ¬ p ∣ a) (hd : p ∣ c * a) : p ∣ c := by
  obtain ⟨b, hb⟩ := h.inv a ha
  have e : c = c * a * b - c * (a * b - 1) := by
    rw [Int.mul_sub, Int.mul_assoc, Int.mul_one]
    omega
  rw [e]
  exact Int.dvd_sub (Int.dvd_mul_of_dvd_left hd) (Int.dvd_mul_of_dvd_right hb)
/-- a sum of multiples -/
def Sm : List (Int × Vec) → Vec
  | [], _ => 0
  | w :: ws, i => w.1 * w.2 i + Sm ws i
def IndP (p : Int) (h : Nat) (vs : List Vec) : Prop := ∀ ws : List (Int × Vec), ws.map (·.2) = vs → (∀ i, i < h → p ∣ Sm ws i) → ∀ w ∈ ws, p ∣ w.1
theorem IndP.nil {p : Int} {h : Nat} : IndP p h [] := fun ws e _ w hw => by
  rw [List.map_eq_nil_iff.mp e] at hw
  cases hw
theorem Sm_perm {ws vs : List (Int × Vec)} (p : ws.Perm vs) (i : Nat) : Sm ws i = Sm vs i := by
  induction p with
  | nil => rfl
  | cons x _ ih => show _ + _ = _ + _; rw [ih]
  | swap x y l => show _ + (_ + _) = _ + (_ + _); omega
  | trans _ _ a b => exact a.trans b
theorem map_lift {α β : Type} {f : α → β} {vs vs' : List β} (p : vs.Perm vs') : ∀ ws' : List α, ws'.map f = vs' → ∃ ws : List α, ws.Perm ws' ∧ ws.map f = vs := by
  induction p with
  | nil => exact fun ws' e => ⟨ws', .refl _, e⟩
  | cons x _ ih =>
    intro ws' e
    obtain ⟨a, r, rfl, ea, er⟩ := List.map_eq_cons_iff.mp e
    obtain ⟨ws, p, e'⟩ := ih r er
    exact ⟨a :: ws, p.cons a, by rw [List.map_cons, ea, e']⟩
  | swap x y l =>
    intro ws' e
    obtain ⟨a, r, rfl, ea, er⟩ := List.map_eq_cons_iff.mp e
    obtain ⟨b, r, rfl, eb, er⟩ := List.map_eq_cons_iff.mp er
    exact ⟨b :: a :: r, .swap _ _ _, by rw [List.map_cons, List.map_cons, ea, eb, er]⟩
  | trans _ _ a b =>
    intro ws' e
    obtain ⟨w1, p1, e1⟩ := b ws' e
    obtain ⟨w2, p2, e2⟩ := a w1 e1
    exact ⟨w2, p2.trans p1, e2⟩
theorem IndP.perm {p : Int} {h : Nat} {vs vs' : List Vec} (q : vs.Perm vs') (j : IndP p h vs) : IndP p h vs' := fun ws' e hs w hw => by
  obtain ⟨ws, q', e'⟩ := map_lift q ws' e
  exact j ws e' (fun i hi => by rw [Sm_perm q']; exact hs i hi) w (q'.mem_iff.mpr hw)
theorem IndP.tail {p : Int} {h : Nat} {v : Vec} {vs : List Vec} (j : IndP p h (v :: vs)) : IndP p h vs := fun ws e hs w hw =>
  j ((0, v) :: ws) (by rw [List.map_cons, e]) (fun i hi => by show p ∣ 0 * _ + _; rw [Int.zero_mul, Int.zero_add]; exact hs i hi) w (List.mem_cons_of_mem _ hw)
/-- as long lists; each of the one list and its fellow -/
inductive All2 {α β : Type} (r : α → β → Prop) : List α → List β → Prop
  | nil : All2 r [] []
  | cons {a b as bs} : r a b → All2 r as bs → All2 r (a :: as) (b :: bs)
theorem All2.flip {α β : Type} {r : α → β → Prop} {s : β → α → Prop} (h : ∀ a b, r a b → s b a) : ∀ {as bs}, All2 r as bs → All2 s bs as
  | _, _, .nil => .nil
  | _, _, .cons a b => .cons (h _ _ a) (b.flip h)
theorem All2.len {α β : Type} {r : α → β → Prop} : ∀ {as : List α} {bs : List β}, All2 r as bs → as.length = bs.length
  | _, _, .nil => rfl
  | _, _, .cons _ b => by rw [List.length_cons, List.length_cons, b.len]
/-- v' is v and a multiple of u -/
def Add (p : Int) (h : Nat) (u : Vec) (v v' : Vec) : Prop := ∃ m : Int, ∀ i, i < h → p ∣ v' i - (v i + m * u i)
theorem Add.symm {p : Int} {h : Nat} {u v v' : Vec} (a : Add p h u v v') : Add p h u v' v := by
  obtain ⟨m, hm⟩ := a
  refine ⟨-m, fun i hi => ?_⟩
  have := Int.dvd_neg.mpr (hm i hi)
  rw [show v i - (v' i + -m * u i) = -(v' i - (v i + m * u i)) by rw [Int.neg_mul]; omega]
  exact this
theorem IndP.add {p : Int} {h : Nat} {u : Vec} {vs vs' : List Vec} (a : All2 (Add p h u) vs vs') (j : IndP p h (u :: vs)) : IndP p h (u :: vs') := fun ws' e hs w hw => by
  obtain ⟨⟨c, u'⟩, r, rfl, eu, er⟩ := List.map_eq_cons_iff.mp e
  have eu' : u' = u := eu
  subst eu'
  have key : ∀ {vs vs' : List Vec}, All2 (Add p h u') vs vs' → ∀ r : List (Int × Vec), r.map (·.2) = vs' → ∃ (ws : List (Int × Vec)) (d : Int), ws.map (·.2) = vs ∧ ws.map (·.1) = r.map (·.1) ∧ ∀ i, i < h → p ∣ Sm r i - (Sm ws i + d * u' i) := by
    intro vs vs' a
    induction a with
    | nil =>
      intro r er
      rw [List.map_eq_nil_iff.mp er]
      exact ⟨[], 0, rfl, rfl, fun i hi => by show p ∣ 0 - (0 + 0 * _); rw [Int.zero_mul]; exact ⟨0, by omega⟩⟩
    | @cons v v' vs vs' a1 _ ih =>
      intro r er
      obtain ⟨⟨c, v2⟩, r, rfl, ev, er'⟩ := List.map_eq_cons_iff.mp er
      have ev' : v2 = v' := ev
      subst ev'
      obtain ⟨ws, d, e1, e2, e3⟩ := ih r er'
      obtain ⟨m, hm⟩ := a1
      refine ⟨(c, v) :: ws, d + c * m, by rw [List.map_cons, e1], by rw [List.map_cons, List.map_cons, e2], fun i hi => ?_⟩
      show p ∣ (c * v2 i + Sm r i) - ((c * v i + Sm ws i) + (d + c * m) * u' i)
      have h1 : p ∣ c * (v2 i - (v i + m * u' i)) := Int.dvd_mul_of_dvd_right (hm i hi)
      have h2 := Int.dvd_add h1 (e3 i hi)
      rw [Int.mul_sub, Int.mul_add, ← Int.mul_assoc] at h2
      rw [Int.add_mul]
      rw [show c * v2 i + Sm r i - (c * v i + Sm ws i + (d * u' i + c * m * u' i)) = c * v2 i - (c * v i + c * m * u' i) + (Sm r i - (Sm ws i + d * u' i)) by omega]
      exact h2
  obtain ⟨ws, d, e1, e2, e3⟩ := key a r er
  have hj := j ((c + d, u') :: ws) (by rw [List.map_cons, e1]) fun i hi => by
    show p ∣ (c + d) * u' i + Sm ws i
    have h1 : p ∣ c * u' i + Sm r i := hs i hi
    have h2 := Int.dvd_sub h1 (e3 i hi)
    rw [Int.add_mul]
    rw [show c * u' i + d * u' i + Sm ws i = c * u' i + Sm r i - (Sm r i - (Sm ws i + d * u' i)) by omega]
    exact h2
  have hr : ∀ w ∈ r, p ∣ w.1 := fun w hw => by
    have : w.1 ∈ ws.map (·.1) := by rw [e2]; exact List.mem_map_of_mem hw
    obtain ⟨w', hw', ew⟩ := List.mem_map.mp this
    have := hj w' (List.mem_cons_of_mem _ hw')
    rw [ew] at this
    exact this
  rcases List.mem_cons.mp hw with rfl | hw
  · exact j ((c, u') :: (vs.map fun v => (0, v))) (by rw [List.map_cons, List.map_map]; exact congrArg _ (List.map_id _)) (fun i hi => by
      have z : ∀ vs : List Vec, Sm (vs.map fun v => ((0 : Int), v)) i = 0 := fun vs => by
        induction vs with
        | nil => rfl
        | cons v vs ih => show 0 * v i + Sm _ i = 0; rw [ih, Int.zero_mul]; rfl
      have zr : ∀ r : List (Int × Vec), (∀ w ∈ r, p ∣ w.1) → p ∣ Sm r i := fun r hr => by
        induction r with
        | nil => exact Int.dvd_zero p
        | cons w r ih => exact Int.dvd_add (Int.dvd_mul_of_dvd_left (hr w (by simp))) (ih fun w hw => hr w (by simp [hw]))
      show p ∣ c * u' i + Sm _ i
      rw [z, Int.add_zero]
      have h1 : p ∣ c * u' i + Sm r i := hs i hi
      have := Int.dvd_sub h1 (zr r hr)
      rw [Int.add_sub_cancel] at this
      exact this) (c, u') List.mem_cons_self
  · exact hr w hw
theorem IndP.add_iff {p : Int} {h : Nat} {u : Vec} {vs vs' : List Vec} (a : All2 (Add p h u) vs vs') : IndP p h (u :: vs) ↔ IndP p h (u :: vs') :=
  ⟨fun j => j.add a, fun j => j.add (a.flip fun _ _ x => x.symm)⟩
theorem Sm_zero {p : Int} {t : Nat} : ∀ {ws : List (Int × Vec)}, (∀ w ∈ ws, p ∣ w.2 t) → p ∣ Sm ws t
  | [], _ => Int.dvd_zero p
  | w :: ws, h => Int.dvd_add (Int.dvd_mul_of_dvd_right (h w (by simp))) (Sm_zero fun w hw => h w (by simp [hw]))
/-- a head alone at a place -/
theorem IndP.pivot {p : Int} (hp : Pri p) {h t : Nat} (ht : t < h) {u : Vec} {vs : List Vec} (hu : ¬ p ∣ u t) (hv : ∀ v ∈ vs, p ∣ v t) : IndP p h (u :: vs) ↔ IndP p h vs := by
  refine ⟨IndP.tail, fun j ws e hs => ?_⟩
  obtain ⟨⟨c, u'⟩, r, rfl, eu, er⟩ := List.map_eq_cons_iff.mp e
  have eu' : u' = u := eu
  subst eu'
  have hr0 : p ∣ Sm r t := Sm_zero fun w hw => hv w.2 (by rw [← er]; exact List.mem_map_of_mem hw)
  have hc : p ∣ c := by
    have h1 : p ∣ c * u' t + Sm r t := hs t ht
    have := Int.dvd_sub h1 hr0
    rw [Int.add_sub_cancel] at this
    exact hp.cut hu this
  have hr := j r er fun i hi => by
    have h1 : p ∣ c * u' i + Sm r i := hs i hi
    have := Int.dvd_sub h1 (Int.dvd_mul_of_dvd_left (c := u' i) hc)
    rw [show c * u' i + Sm r i - c * u' i = Sm r i by omega] at this
    exact this
  intro w hw
  rcases List.mem_cons.mp hw with rfl | hw
  · exact hc
  · exact hr w hw
theorem IndP.zero {p : Int} (hp : Pri p) {h : Nat} {vs : List Vec} (hv : ∀ v ∈ vs, ∀ i, i < h → p ∣ v i) (j : IndP p h vs) : vs = [] := by
  cases vs with
  | nil => rfl
  | cons v vs =>
    have := j ((v :: vs).map fun v => (1, v)) (by rw [List.map_map]; exact List.map_id _) (fun i hi => Sm_zero fun w hw => by
      obtain ⟨x, hx, rfl⟩ := List.mem_map.mp hw
      exact hv x hx i hi) (1, v) (by simp)
    exact absurd this hp.one
/-! ### sums of others -/
def Spn (p : Int) (h : Nat) (us : List Vec) (v : Vec) : Prop := ∃ ws : List (Int × Vec), ws.map (·.2) = us ∧ ∀ i, i < h → p ∣ v i - Sm ws i
/-- more vectors than those they are sums of are not independent -/
theorem steinitz {p : Int} (hp : Pri p) {h : Nat} : ∀ (us vs : List Vec), (∀ v ∈ vs, Spn p h us v) → us.length < vs.length → ¬ IndP p h vs
  | [], vs, hs, hl, j => by
    have e := IndP.zero hp (fun v hv i hi => by
      obtain ⟨ws, e, hw⟩ := hs v hv
      rw [List.map_eq_nil_iff.mp e] at hw
      have := hw i hi
      rw [show v i - Sm [] i = v i from Int.sub_zero _] at this
      exact this) j
    rw [e] at hl
    exact absurd hl (Nat.lt_irrefl _)
  | u :: us, vs, hs, hl, j => by
    have hs' : ∀ v ∈ vs, ∃ (a : Int) (w : Vec), Spn p h us w ∧ ∀ i, i < h → p ∣ v i - (a * u i + w i) := fun v hv => by
      obtain ⟨ws, e, hw⟩ := hs v hv
      obtain ⟨⟨c, u'⟩, r, rfl, eu, er⟩ := List.map_eq_cons_iff.mp e
      have eu' : u' = u := eu
      subst eu'
      exact ⟨c, Sm r, ⟨r, er, fun i hi => by rw [Int.sub_self]; exact Int.dvd_zero p⟩, hw⟩
    by_cases hz : ∀ v ∈ vs, Spn p h us v
    · exact steinitz hp us vs hz (by rw [List.length_cons] at hl; omega) j
    · obtain ⟨v0, h0, hn⟩ : ∃ v0, v0 ∈ vs ∧ ¬ Spn p h us v0 := by
        refine Classical.byContradiction fun z => hz fun v hv => Classical.byContradiction fun z2 => z ⟨v, hv, z2⟩
      obtain ⟨a, w0, ⟨ws0, e0, hw0⟩, ha⟩ := hs' v0 h0
      have hpa : ¬ p ∣ a := fun hd => hn ⟨ws0, e0, fun i hi => by
        have h1 := ha i hi
        have h2 := hw0 i hi
        have h3 := Int.dvd_mul_of_dvd_left (c := u i) hd
        have h4 := Int.dvd_add (Int.dvd_add h1 h2) h3
        rw [show v0 i - (a * u i + w0 i) + (w0 i - Sm ws0 i) + a * u i = v0 i - Sm ws0 i by omega] at h4
        exact h4⟩
      obtain ⟨b, hb⟩ := hp.inv a hpa
      obtain ⟨l1, l2, rfl⟩ := List.append_of_mem h0
      have pm : (l1 ++ v0 :: l2).Perm (v0 :: (l1 ++ l2)) := List.perm_middle
      have j' := j.perm pm
      have mk : ∀ l : List Vec, (∀ v ∈ l, v ∈ l1 ++ v0 :: l2) → ∃ l', All2 (Add p h v0) l l' ∧ ∀ v ∈ l', Spn p h us v := fun l => by
        induction l with
        | nil => exact fun _ => ⟨[], .nil, fun v hv => nomatch hv⟩
        | cons v l ih =>
          intro hm
          obtain ⟨l', a1, a2⟩ := ih fun v hv => hm v (by simp [hv])
          obtain ⟨c, w, ⟨ws, e, hw⟩, hc⟩ := hs' v (hm v (by simp))
          refine ⟨(fun i => v i + -(c * b) * v0 i) :: l', .cons ⟨-(c * b), fun i hi => by rw [Int.sub_self]; exact Int.dvd_zero p⟩ a1, fun v' hv' => ?_⟩
          rcases List.mem_cons.mp hv' with rfl | hv'
          · obtain ⟨wsA, eA, hA⟩ : ∃ wsA : List (Int × Vec), wsA.map (·.2) = us ∧ ∀ i, Sm wsA i = Sm ws i - c * b * Sm ws0 i := by
              have hlen : ∀ (us : List Vec) (ws ws0 : List (Int × Vec)), ws.map (·.2) = us → ws0.map (·.2) = us → ∃ wsA : List (Int × Vec), wsA.map (·.2) = us ∧ ∀ i, Sm wsA i = Sm ws i - c * b * Sm ws0 i := by
                intro us
                induction us with
                | nil =>
                  intro ws ws0 e e0
                  rw [List.map_eq_nil_iff.mp e, List.map_eq_nil_iff.mp e0]
                  exact ⟨[], rfl, fun i => by show (0 : Int) = 0 - _ * 0; rw [Int.mul_zero]; rfl⟩
                | cons x us ih =>
                  intro ws ws0 e e0
                  obtain ⟨⟨d, x1⟩, r, rfl, ex, er⟩ := List.map_eq_cons_iff.mp e
                  obtain ⟨⟨d0, x2⟩, r0, rfl, ex0, er0⟩ := List.map_eq_cons_iff.mp e0
                  obtain ⟨wsA, eA, hA⟩ := ih r r0 er er0
                  have ex' : x1 = x := ex
                  have ex0' : x2 = x := ex0
                  subst ex'
                  subst ex0'
                  refine ⟨(d - c * b * d0, x2) :: wsA, by rw [List.map_cons, eA], fun i => ?_⟩
                  show (d - c * b * d0) * x2 i + Sm wsA i = (d * x2 i + Sm r i) - c * b * (d0 * x2 i + Sm r0 i)
                  rw [hA, Int.sub_mul, Int.mul_add, Int.mul_assoc (c * b) d0 (x2 i)]
                  omega
              exact hlen us ws ws0 e e0
            refine ⟨wsA, eA, fun i hi => ?_⟩
            rw [hA]
            have h1 := hc i hi
            have h2 := hw i hi
            have h3 : p ∣ c * b * (v0 i - (a * u i + w0 i)) := Int.dvd_mul_of_dvd_right (ha i hi)
            have h4 : p ∣ c * b * (w0 i - Sm ws0 i) := Int.dvd_mul_of_dvd_right (hw0 i hi)
            have h5 : p ∣ c * u i * (a * b - 1) := Int.dvd_mul_of_dvd_right hb
            have h6 := Int.dvd_sub (Int.dvd_sub (Int.dvd_sub (Int.dvd_add h1 h2) h3) h4) h5
            have e6 : v i - (c * u i + w i) + (w i - Sm ws i) - c * b * (v0 i - (a * u i + w0 i)) - c * b * (w0 i - Sm ws0 i) - c * u i * (a * b - 1) = v i + -(c * b) * v0 i - (Sm ws i - c * b * Sm ws0 i) := by
              have z : c * u i * (a * b) = c * b * (a * u i) := by
                simp only [Int.mul_comm, Int.mul_assoc, Int.mul_left_comm]
              rw [Int.mul_sub, Int.mul_sub, Int.mul_sub, Int.mul_add, z, Int.neg_mul, Int.mul_one]
              omega
            rw [e6] at h6
            exact h6
          · exact a2 v' hv'
      obtain ⟨l', a1, a2⟩ := mk (l1 ++ l2) fun v hv => by
        rcases List.mem_append.mp hv with h | h
        · exact List.mem_append_left _ h
        · exact List.mem_append_right _ (List.mem_cons_of_mem _ h)
      have hl' : us.length < l'.length := by
        rw [← a1.len]
        rw [List.length_cons, List.length_append, List.length_cons] at hl
        rw [List.length_append]
        omega
      exact steinitz hp us l' a2 hl' (IndP.tail (j'.add a1))
theorem spn_of {p : Int} (hp : Pri p) {h : Nat} {us : List Vec} {v : Vec} (hu : IndP p h us) (hn : ¬ IndP p h (v :: us)) : Spn p h us v := by
  refine Classical.byContradiction fun z => hn fun ws e hs w hw => ?_
  obtain ⟨⟨c, v'⟩, r, rfl, ev, er⟩ := List.map_eq_cons_iff.mp e
  have ev' : v' = v := ev
  subst ev'
  have hc : p ∣ c := by
    refine Classical.byContradiction fun hc => z ?_
    obtain ⟨b, hb⟩ := hp.inv c hc
    have hlen : ∀ (us : List Vec) (r : List (Int × Vec)), r.map (·.2) = us → ∃ wsA : List (Int × Vec), wsA.map (·.2) = us ∧ ∀ i, Sm wsA i = -b * Sm r i := by
      intro us
      induction us with
      | nil =>
        intro r er
        rw [List.map_eq_nil_iff.mp er]
        exact ⟨[], rfl, fun i => by show (0 : Int) = _ * 0; rw [Int.mul_zero]⟩
      | cons x us ih =>
        intro r er
        obtain ⟨⟨d, x1⟩, r, rfl, ex, er'⟩ := List.map_eq_cons_iff.mp er
        have ex' : x1 = x := ex
        subst ex'
        obtain ⟨wsA, eA, hA⟩ := ih r er'
        refine ⟨(-b * d, x1) :: wsA, by rw [List.map_cons, eA], fun i => ?_⟩
        show -b * d * x1 i + Sm wsA i = -b * (d * x1 i + Sm r i)
        rw [hA, Int.mul_add, Int.mul_assoc]
    obtain ⟨wsA, eA, hA⟩ := hlen us r er
    refine ⟨wsA, eA, fun i hi => ?_⟩
    rw [hA]
    have h1 : p ∣ b * (c * v' i + Sm r i) := Int.dvd_mul_of_dvd_right (hs i hi)
    have h2 : p ∣ (c * b - 1) * v' i := Int.dvd_mul_of_dvd_left hb
    have h3 := Int.dvd_sub h1 h2
    rw [Int.mul_add, Int.sub_mul, ← Int.mul_assoc, Int.mul_comm b c] at h3
    rw [show c * b * v' i + b * Sm r i - (c * b * v' i - 1 * v' i) = v' i - -b * Sm r i by rw [Int.neg_mul]; omega] at h3
    exact h3
  have hr := hu r er fun i hi => by
    have h1 : p ∣ c * v' i + Sm r i := hs i hi
    have := Int.dvd_sub h1 (Int.dvd_mul_of_dvd_left (c := v' i) hc)
    rw [show c * v' i + Sm r i - c * v' i = Sm r i by omega] at this
    exact this
  rcases List.mem_cons.mp hw with rfl | hw
  · exact hc
  · exact hr w hw
theorem spn_mem {p : Int} {h : Nat} : ∀ {us : List Vec} {v : Vec}, v ∈ us → Spn p h us v
  | u :: us, v, hv => by
    have z : ∀ (us : List Vec) i, Sm (us.map fun v => ((0 : Int), v)) i = 0 := fun us i => by
      induction us with
      | nil => rfl
      | cons v us ih => show 0 * v i + Sm _ i = 0; rw [ih, Int.zero_mul]; rfl
    by_cases e : v = u
    · subst e
      refine ⟨(1, v) :: us.map fun v => (0, v), by rw [List.map_cons, List.map_map]; exact congrArg _ (List.map_id _), fun i hi => ?_⟩
      show p ∣ v i - (1 * v i + Sm _ i)
      rw [z, Int.one_mul, Int.add_zero, Int.sub_self]
      exact Int.dvd_zero p
    · rcases List.mem_cons.mp hv with e2 | hv
      · exact absurd e2 e
      · obtain ⟨ws, e1, hw⟩ := spn_mem (p := p) (h := h) hv
        refine ⟨(0, u) :: ws, by rw [List.map_cons, e1], fun i hi => ?_⟩
        show p ∣ v i - (0 * u i + Sm ws i)
        rw [Int.zero_mul, Int.zero_add]
        exact hw i hi
/-- things with vectors -/
theorem matJ_lin {p : Int} (hp : Pri p) (h : Nat) (col : Int → Vec) : MatJ fun X => IndP p h (X.map col) :=
  ⟨fun q j => j.perm (q.map col), IndP.nil, fun _ j => j.tail, fun {X Y} nX nY jx jy hl => by
    refine Classical.byContradiction fun z => ?_
    refine steinitz hp (X.map col) (Y.map col) (fun v hv => ?_) (by rw [List.length_map, List.length_map]; exact hl) jy
    obtain ⟨y, hy, rfl⟩ := List.mem_map.mp hv
    by_cases hx : y ∈ X
    · exact spn_mem (List.mem_map_of_mem hx)
    · exact spn_of hp jx fun hj => z ⟨y, hy, hx, hj⟩⟩
end K13
end
section
set_option maxHeartbeats 4000000
namespace K13
open PySem PySem.Spec PyProof.Rows L2 B
/-! M3: rows, made nought place by place. -/
def vc (r : List Int) : Vec := fun i => r.getD i 0
def mixR (pr m : Int) (a b : List Int) : List Int := (a.zip b).map fun p => (p.1 + m * p.2) % pr
theorem vc_mix {pr m : Int} {a b : List Int} {h i : Nat} (ha : a.length = h) (hb : b.length = h) (hi : i < h) : vc (mixR pr m a b) i = (vc a i + m * vc b i) % pr := by
  unfold vc mixR
  have e1 : a[i]? = some a[i] := List.getElem?_eq_getElem (by omega)
  have e2 : b[i]? = some b[i] := List.getElem?_eq_getElem (by omega)
  rw [List.getD_eq_getElem?_getD, List.getD_eq_getElem?_getD, List.getD_eq_getElem?_getD, List.getElem?_map, List.zip, List.getElem?_zipWith, e1, e2]
  rfl
theorem add_rfl {p : Int} {h : Nat} {u : Vec} (v : Vec) : Add p h u v v := ⟨0, fun i hi => by rw [Int.zero_mul, Int.add_zero, Int.sub_self]; exact Int.dvd_zero p⟩
theorem all_rfl {p : Int} {h : Nat} {u : Vec} : ∀ T : List Vec, All2 (Add p h u) T T
  | [] => .nil
  | x :: T => .cons (add_rfl x) (all_rfl T)
theorem all_set {p : Int} {h : Nat} {u v' : Vec} : ∀ {T : List Vec} {j : Nat} {v : Vec}, T[j]? = some v → Add p h u v v' → All2 (Add p h u) T (T.set j v')
  | [], j, v, e, a => by simp at e
  | x :: T, 0, v, e, a => by
    have e' : x = v := by simpa using e
    subst e'
    exact .cons a (all_rfl T)
  | x :: T, j + 1, v, e, a => .cons (add_rfl x) (all_set (by simpa using e) a)
theorem IndP.set1 {p : Int} {h : Nat} {u v' : Vec} {T : List Vec} {j : Nat} {v : Vec} (e : T[j]? = some v) (a : Add p h u v v') : IndP p h (u :: T) ↔ IndP p h (u :: T.set j v') := IndP.add_iff (all_set e a)
structure EO (p : Int) (h : Nat) (cols rs : List (List Int)) (f i : Nat) : Prop where
  iff : IndP p h (cols.map vc) ↔ IndP p h ((rs.drop f).map vc)
  nul : ∀ k r, f ≤ k → rs[k]? = some r → ∀ j, j < i → p ∣ vc r j
structure EI (p : Int) (h : Nat) (cols rs : List (List Int)) (ra : List Int) (f i m : Nat) : Prop where
  eo : EO p h cols rs f i
  hd : rs[f]? = some ra
  nul : ∀ k r, f < k → k < f + 1 + m → rs[k]? = some r → p ∣ vc r i
theorem EO.start {p : Int} {h : Nat} {cols : List (List Int)} : EO p h cols cols 0 0 := ⟨Iff.rfl, fun k r _ _ j hj => absurd hj (Nat.not_lt_zero _)⟩
theorem EO.skip {p : Int} {h f i : Nat} {cols rs : List (List Int)} (e : EO p h cols rs f i) (hz : ∀ k r, f ≤ k → rs[k]? = some r → p ∣ vc r i) : EO p h cols rs f (i + 1) :=
  ⟨e.iff, fun k r hk er j hj => by
    by_cases hji : j = i
    · rw [hji]; exact hz k r hk er
    · exact e.nul k r hk er j (by omega)⟩
theorem EO.swap {p : Int} {h f i j0 : Nat} {cols rs : List (List Int)} {ra rb : List Int} (e : EO p h cols rs f i) (ha : rs[f + j0]? = some ra) (hb : rs[f]? = some rb) : EI p h cols ((rs.set f ra).set (f + j0) rb) ra f i 0 := by
  have hfl := (List.getElem?_eq_some_iff.mp hb).1
  have hjl := (List.getElem?_eq_some_iff.mp ha).1
  have hl : ((rs.set f ra).set (f + j0) rb).length = rs.length := by rw [List.length_set, List.length_set]
  have hperm : (((rs.set f ra).set (f + j0) rb).drop f).Perm (rs.drop f) := by
    have e1 : ((rs.set f ra).set (f + j0) rb).drop f = ((rs.drop f).set 0 ra).set j0 rb := by
      rw [List.drop_set, if_neg (by omega), List.drop_set, if_neg (by omega), Nat.sub_self, Nat.add_sub_cancel_left]
    rw [e1]
    have h0 : 0 < (rs.drop f).length := by rw [List.length_drop]; omega
    have h1 : j0 < (rs.drop f).length := by rw [List.length_drop]; omega
    have ea : (rs.drop f)[j0] = ra := by
      have : (rs.drop f)[j0]? = some ra := by rw [List.getElem?_drop]; exact ha
      rw [List.getElem?_eq_getElem h1] at this
      exact Option.some.inj this
    have eb : (rs.drop f)[0] = rb := by
      have : (rs.drop f)[0]? = some rb := by rw [List.getElem?_drop]; exact hb
      rw [List.getElem?_eq_getElem h0] at this
      exact Option.some.inj this
    have := List.set_set_perm (as := rs.drop f) h0 h1
    rw [ea, eb] at this
    exact this
  refine ⟨⟨e.iff.trans ⟨fun j => j.perm (hperm.symm.map vc), fun j => j.perm (hperm.map vc)⟩, fun k r hk er j hj => ?_⟩, ?_, fun k r h1 h2 => by omega⟩
  · have hm : r ∈ ((rs.set f ra).set (f + j0) rb).drop f := by
      refine List.mem_of_getElem? (i := k - f) ?_
      rw [List.getElem?_drop, show f + (k - f) = k by omega]
      exact er
    obtain ⟨k', hk'⟩ := List.getElem?_of_mem (hperm.mem_iff.mp hm)
    rw [List.getElem?_drop] at hk'
    exact e.nul _ r (by omega) hk' j hj
  · by_cases c : j0 = 0
    · subst c
      rw [Nat.add_zero] at ha ⊢
      rw [hb] at ha
      cases ha
      rw [List.getElem?_set_self (by rw [List.length_set]; exact hfl)]
    · rw [List.getElem?_set_ne (by omega), List.getElem?_set_self hfl]
theorem dvd_emod {p x y : Int} : p ∣ x % p - x := by
  rw [Int.emod_def]
  exact ⟨-(x / p), by rw [Int.mul_neg]; omega⟩
theorem EI.step {p : Int} {h f i m : Nat} {mm : Int} {cols rs : List (List Int)} {ra r : List Int} (e : EI p h cols rs ra f i m) (ih : i < h) (er : rs[f + 1 + m]? = some r) (hr : r.length = h) (ha : ra.length = h) (hz : p ∣ vc r i + mm * vc ra i) : EI p h cols (rs.set (f + 1 + m) (mixR p mm r ra)) ra f i (m + 1) := by
  have hfl := (List.getElem?_eq_some_iff.mp e.hd).1
  have hml := (List.getElem?_eq_some_iff.mp er).1
  have ed : rs.drop f = ra :: rs.drop (f + 1) := by
    rw [List.drop_eq_getElem_cons hfl]
    congr 1
    have := e.hd
    rw [List.getElem?_eq_getElem hfl] at this
    exact Option.some.inj this
  refine ⟨⟨e.eo.iff.trans ?_, fun k r' hk er' j hj => ?_⟩, ?_, fun k r' h1 h2 er' => ?_⟩
  · rw [List.drop_set, if_neg (by omega), ed, show f + 1 + m - f = m + 1 by omega, List.set_cons_succ, List.map_cons, List.map_cons, List.map_set]
    refine IndP.set1 (v := vc r) (by rw [List.getElem?_map, List.getElem?_drop, er]; rfl) ⟨mm, fun j hj => ?_⟩
    rw [vc_mix hr ha hj]
    exact dvd_emod (y := 0)
  · by_cases c : k = f + 1 + m
    · subst c
      rw [List.getElem?_set_self hml] at er'
      cases er'
      rw [vc_mix hr ha (by omega)]
      have h1 := e.eo.nul _ r (by omega) er j hj
      have h2 := e.eo.nul f ra (Nat.le_refl _) e.hd j hj
      have h3 : p ∣ vc r j + mm * vc ra j := Int.dvd_add h1 (Int.dvd_mul_of_dvd_right h2)
      rw [Int.emod_eq_zero_of_dvd h3]
      exact Int.dvd_zero p
    · rw [List.getElem?_set_ne (by omega)] at er'
      exact e.eo.nul k r' hk er' j hj
  · rw [List.getElem?_set_ne (by omega)]
    exact e.hd
  · by_cases c : k = f + 1 + m
    · subst c
      rw [List.getElem?_set_self hml] at er'
      cases er'
      rw [vc_mix hr ha ih, Int.emod_eq_zero_of_dvd hz]
      exact Int.dvd_zero p
    · rw [List.getElem?_set_ne (by omega)] at er'
      exact e.nul k r' h1 (by omega) er'
theorem EI.close {p : Int} (hp : Pri p) {h f i m : Nat} {cols rs : List (List Int)} {ra : List Int} (e : EI p h cols rs ra f i m) (ih : i < h) (hn : ¬ p ∣ vc ra i) (hm : rs.length ≤ f + 1 + m) : EO p h cols rs (f + 1) (i + 1) := by
  have hfl := (List.getElem?_eq_some_iff.mp e.hd).1
  have ed : rs.drop f = ra :: rs.drop (f + 1) := by
    rw [List.drop_eq_getElem_cons hfl]
    congr 1
    have := e.hd
    rw [List.getElem?_eq_getElem hfl] at this
    exact Option.some.inj this
  have hz : ∀ k r, f < k → rs[k]? = some r → p ∣ vc r i := fun k r hk er => by
    have := (List.getElem?_eq_some_iff.mp er).1
    exact e.nul k r hk (by omega) er
  refine ⟨e.eo.iff.trans ?_, fun k r hk er j hj => ?_⟩
  · rw [ed, List.map_cons]
    refine IndP.pivot hp ih hn fun v hv => ?_
    obtain ⟨r, hr, rfl⟩ := List.mem_map.mp hv
    obtain ⟨k, hk⟩ := List.getElem?_of_mem hr
    rw [List.getElem?_drop] at hk
    exact hz _ r (by omega) hk
  · by_cases hji : j = i
    · rw [hji]; exact hz k r (by omega) er
    · exact e.eo.nul k r (by omega) er j (by omega)
theorem EO.finish {p : Int} (hp : Pri p) {h f : Nat} {cols rs : List (List Int)} (e : EO p h cols rs f h) : IndP p h (cols.map vc) ↔ rs.length ≤ f := by
  refine e.iff.trans ⟨fun j => ?_, fun hl => by rw [List.drop_eq_nil_of_le hl]; exact IndP.nil⟩
  have := IndP.zero hp (fun v hv i hi => by
    obtain ⟨r, hr, rfl⟩ := List.mem_map.mp hv
    obtain ⟨k, hk⟩ := List.getElem?_of_mem hr
    rw [List.getElem?_drop] at hk
    exact e.nul _ r (by omega) hk i hi) j
  exact List.drop_eq_nil_iff.mp (List.map_eq_nil_iff.mp this)
end K13
end
section
set_option maxHeartbeats 4000000
namespace K13
open PySem PySem.Spec PyProof.Rows L2 B
/-! M4: graphs: rings and independent edges. -/
theorem Sm_lin (k : Int) : ∀ (us : List Vec) (ws ws0 : List (Int × Vec)), ws.map (·.2) = us → ws0.map (·.2) = us → ∃ wsA : List (Int × Vec), wsA.map (·.2) = us ∧ ∀ i, Sm wsA i = Sm ws i + k * Sm ws0 i := by
  intro us
  induction us with
  | nil =>
    intro ws ws0 e e0
    rw [List.map_eq_nil_iff.mp e, List.map_eq_nil_iff.mp e0]
    exact ⟨[], rfl, fun i => by show (0 : Int) = 0 + _ * 0; rw [Int.mul_zero]; rfl⟩
  | cons x us ih =>
    intro ws ws0 e e0
    obtain ⟨⟨d, x1⟩, r, rfl, ex, er⟩ := List.map_eq_cons_iff.mp e
    obtain ⟨⟨d0, x2⟩, r0, rfl, ex0, er0⟩ := List.map_eq_cons_iff.mp e0
    obtain ⟨wsA, eA, hA⟩ := ih r r0 er er0
    have ex' : x1 = x := ex
    have ex0' : x2 = x := ex0
    subst ex'
    subst ex0'
    refine ⟨(d + k * d0, x2) :: wsA, by rw [List.map_cons, eA], fun i => ?_⟩
    show (d + k * d0) * x2 i + Sm wsA i = (d * x2 i + Sm r i) + k * (d0 * x2 i + Sm r0 i)
    rw [hA, Int.add_mul, Int.mul_add, Int.mul_assoc k d0 (x2 i)]
    omega
theorem spn_add {p : Int} {h : Nat} {us : List Vec} {v w x : Vec} (a : Spn p h us v) (b : Spn p h us w) (e : ∀ i, i < h → p ∣ x i - (v i + w i)) : Spn p h us x := by
  obtain ⟨ws, e1, h1⟩ := a
  obtain ⟨ws0, e2, h2⟩ := b
  obtain ⟨wsA, eA, hA⟩ := Sm_lin 1 us ws ws0 e1 e2
  refine ⟨wsA, eA, fun i hi => ?_⟩
  rw [hA]
  have := Int.dvd_add (Int.dvd_add (h1 i hi) (h2 i hi)) (e i hi)
  rw [show v i - Sm ws i + (w i - Sm ws0 i) + (x i - (v i + w i)) = x i - (Sm ws i + 1 * Sm ws0 i) by omega] at this
  exact this
theorem spn_more {p : Int} {h : Nat} {us : List Vec} {u v : Vec} (a : Spn p h us v) : Spn p h (u :: us) v := by
  obtain ⟨ws, e1, h1⟩ := a
  refine ⟨(0, u) :: ws, by rw [List.map_cons, e1], fun i hi => ?_⟩
  show p ∣ v i - (0 * u i + Sm ws i)
  rw [Int.zero_mul, Int.zero_add]
  exact h1 i hi
theorem spn_dep {p : Int} (hp : Pri p) {h : Nat} {us : List Vec} {v : Vec} (a : Spn p h us v) : ¬ IndP p h (v :: us) := fun j => by
  obtain ⟨ws, e1, h1⟩ := a
  have hneg : ∀ ws : List (Int × Vec), ∃ ws' : List (Int × Vec), ws'.map (·.2) = ws.map (·.2) ∧ ∀ i, Sm ws' i = - Sm ws i := fun ws => by
    induction ws with
    | nil => exact ⟨[], rfl, fun i => rfl⟩
    | cons w ws ih =>
      obtain ⟨ws', e, he⟩ := ih
      refine ⟨(-w.1, w.2) :: ws', by rw [List.map_cons, List.map_cons, e], fun i => ?_⟩
      show -w.1 * w.2 i + Sm ws' i = -(w.1 * w.2 i + Sm ws i)
      rw [he, Int.neg_mul]
      omega
  obtain ⟨ws', e2, h2⟩ := hneg ws
  have := j ((1, v) :: ws') (by rw [List.map_cons, e2, e1]) (fun i hi => by
    show p ∣ 1 * v i + Sm ws' i
    rw [h2, Int.one_mul]
    exact h1 i hi) (1, v) List.mem_cons_self
  exact hp.one this
theorem IndP.suffix {p : Int} {h : Nat} : ∀ {l r : List Vec}, IndP p h (l ++ r) → IndP p h r
  | [], _, j => j
  | _ :: l, _, j => IndP.suffix (l := l) j.tail
def inc (e : Int × Int) : Vec := fun i => (if e.1 = (i : Nat) then 1 else 0) + (if e.2 = (i : Nat) then 1 else 0)
/-- a sum over a lot -/
def Sg (g : List Int) (v : Vec) : Int := (g.map fun x => v x.toNat).sum
theorem Sg_lin (g : List Int) (c : Int) (u v : Vec) : Sg g (fun i => c * u i + v i) = c * Sg g u + Sg g v := by
  unfold Sg
  induction g with
  | nil => show (0 : Int) = _ * 0 + 0; rw [Int.mul_zero]; rfl
  | cons x g ih =>
    simp only [List.map_cons, List.sum_cons]
    rw [ih, Int.mul_add]
    omega
theorem Sg_dvd {p : Int} {N : Nat} {g : List Int} {v : Vec} (hg : ∀ x ∈ g, 0 ≤ x ∧ x < (N : Nat)) (h : ∀ i, i < N → p ∣ v i) : p ∣ Sg g v := by
  unfold Sg
  induction g with
  | nil => exact Int.dvd_zero p
  | cons x g ih =>
    simp only [List.map_cons, List.sum_cons]
    have := hg x (by simp)
    exact Int.dvd_add (h _ (by omega)) (ih fun y hy => hg y (by simp [hy]))
theorem Sg_one {g : List Int} (hn : g.Nodup) (hg : ∀ x ∈ g, 0 ≤ x) (a : Int) : Sg g (fun i => if a = (i : Nat) then 1 else 0) = if a ∈ g then 1 else 0 := by
  unfold Sg
  induction g with
  | nil => rfl
  | cons x g ih =>
    simp only [List.map_cons, List.sum_cons]
    have h0 := hg x (by simp)
    rw [ih (List.nodup_cons.mp hn).2 fun y hy => hg y (by simp [hy]), show ((x.toNat : Nat) : Int) = x by omega]
    by_cases c : a = x
    · subst c
      rw [if_pos rfl, if_neg (List.nodup_cons.mp hn).1, if_pos List.mem_cons_self]
      rfl
    · rw [if_neg c]
      by_cases c2 : a ∈ g
      · rw [if_pos c2, if_pos (List.mem_cons_of_mem _ c2)]; rfl
      · rw [if_neg c2, if_neg (fun z => by rcases List.mem_cons.mp z with z | z; exact c z; exact c2 z)]; rfl
theorem Sg_inc {g : List Int} (hn : g.Nodup) (hg : ∀ x ∈ g, 0 ≤ x) (e : Int × Int) : Sg g (inc e) = (if e.1 ∈ g then 1 else 0) + (if e.2 ∈ g then 1 else 0) := by
  have := Sg_lin g 1 (fun i => if e.1 = (i : Nat) then 1 else 0) (fun i => if e.2 = (i : Nat) then 1 else 0)
  rw [Sg_one hn hg, Sg_one hn hg, Int.one_mul] at this
  rw [← this]
  unfold inc
  congr 1
  funext i
  rw [Int.one_mul]
structure GInv (N : Nat) (es : List (Int × Int)) (g : Int → List Int) : Prop where
  self : ∀ x, x ∈ g x
  same : ∀ x y, y ∈ g x → g y = g x
  nd : ∀ x, (g x).Nodup
  spn : ∀ x y, y ∈ g x → Spn 2 N (es.map inc) (inc (x, y))
  edge : ∀ e ∈ es, e.2 ∈ g e.1
  ind : IndP 2 N (es.map inc)
  bnd : ∀ x : Int, 0 ≤ x → x < (N : Nat) → ∀ y ∈ g x, 0 ≤ y ∧ y < (N : Nat)
theorem inc_self (x : Int) (i : Nat) : (2 : Int) ∣ inc (x, x) i := by
  unfold inc
  by_cases c : x = (i : Nat)
  · rw [if_pos c]; exact ⟨1, rfl⟩
  · rw [if_neg c]; exact ⟨0, rfl⟩
theorem spn_zero {p : Int} {h : Nat} : ∀ {us : List Vec} {v : Vec}, (∀ i, i < h → p ∣ v i) → Spn p h us v
  | [], v, hv => ⟨[], rfl, fun i hi => by show p ∣ v i - 0; rw [Int.sub_zero]; exact hv i hi⟩
  | _ :: us, v, hv => spn_more (spn_zero (us := us) hv)
theorem GInv.start {N : Nat} : GInv N [] fun x => [x] :=
  ⟨fun x => by simp, fun x y h => by rw [List.mem_singleton.mp h], fun x => by simp, fun x y h => by
    rw [List.mem_singleton.mp h]
    exact spn_zero fun i _ => inc_self x i, fun e he => (by cases he), IndP.nil, fun x h1 h2 y hy => by rw [List.mem_singleton.mp hy]; exact ⟨h1, h2⟩⟩
theorem inc_tri (x y z : Int) (i : Nat) : (2 : Int) ∣ inc (x, z) i - (inc (x, y) i + inc (y, z) i) := by
  unfold inc
  refine ⟨-(if y = (i : Nat) then 1 else 0), ?_⟩
  show _ + _ - (_ + _ + (_ + _)) = _
  omega
theorem inc_comm (x y : Int) : inc (x, y) = inc (y, x) := by
  funext i
  unfold inc
  exact Int.add_comm _ _
theorem GInv.ring {N : Nat} {es : List (Int × Int)} {g : Int → List Int} (h : GInv N es g) {e : Int × Int} (he : e.1 = e.2 ∨ e.1 ∈ g e.2) : ¬ IndP 2 N ((e :: es).map inc) := by
  refine spn_dep pri2 ?_
  have : e.2 ∈ g e.1 := by
    rcases he with z | z
    · rw [z]; exact h.self _
    · rw [h.same _ _ z]; exact h.self _
  exact h.spn _ _ this
theorem GInv.step {N : Nat} {es : List (Int × Int)} {g g' : Int → List Int} (h : GInv N es g) {e : Int × Int} (hn : e.1 ∉ g e.2) (hb : 0 ≤ e.1 ∧ e.1 < (N : Nat) ∧ 0 ≤ e.2 ∧ e.2 < (N : Nat)) (hg : ∀ x, g' x = if x ∈ g e.1 ++ g e.2 then g e.1 ++ g e.2 else g x) : GInv N (e :: es) g' := by
  obtain ⟨a, b⟩ := e
  have hn' : b ∉ g a := fun z => hn (by show a ∈ g b; rw [h.same _ _ z]; exact h.self a)
  have hn : a ∉ g b := hn
  have hg : ∀ x, g' x = if x ∈ g a ++ g b then g a ++ g b else g x := hg
  have hdis : ∀ y, y ∈ g a → y ∉ g b := fun y h1 h2 => hn (by rw [← h.same _ _ h2, h.same _ _ h1]; exact h.self a)
  have hb1 := h.bnd a hb.1 hb.2.1
  have hm : ∀ x, x ∈ g a ++ g b → g' x = g a ++ g b := fun x hx => by rw [hg, if_pos hx]
  have ho : ∀ x, x ∉ g a ++ g b → g' x = g x := fun x hx => by rw [hg, if_neg hx]
  have hab : Spn 2 N (((a, b) :: es).map inc) (inc (a, b)) := spn_mem (by simp)
  have lift : ∀ {v}, Spn 2 N (es.map inc) v → Spn 2 N (((a, b) :: es).map inc) v := fun s => spn_more s
  refine ⟨fun x => ?_, fun x y hy => ?_, fun x => ?_, fun x y hy => ?_, fun e he => ?_, ?_, fun x h1 h2 y hy => ?_⟩
  · by_cases c : x ∈ g a ++ g b
    · rw [hm x c]; exact c
    · rw [ho x c]; exact h.self x
  · by_cases c : x ∈ g a ++ g b
    · rw [hm x c] at hy ⊢
      exact hm y hy
    · rw [ho x c] at hy ⊢
      rw [ho y, h.same _ _ hy]
      intro z
      refine c ?_
      rcases List.mem_append.mp z with z | z
      · refine List.mem_append_left _ ?_
        rw [← h.same _ _ z, h.same _ _ hy]
        exact h.self x
      · refine List.mem_append_right _ ?_
        rw [← h.same _ _ z, h.same _ _ hy]
        exact h.self x
  · by_cases c : x ∈ g a ++ g b
    · rw [hm x c]
      refine List.nodup_append.mpr ⟨h.nd a, h.nd b, fun u hu v hv e => ?_⟩
      subst e
      exact hdis _ hu hv
    · rw [ho x c]; exact h.nd x
  · by_cases c : x ∈ g a ++ g b
    · rw [hm x c] at hy
      rcases List.mem_append.mp c with cx | cx <;> rcases List.mem_append.mp hy with cy | cy
      · refine lift (h.spn x y ?_)
        rw [h.same _ _ cx]; exact cy
      · have s1 : Spn 2 N (es.map inc) (inc (x, a)) := h.spn x a (by rw [h.same _ _ cx]; exact h.self a)
        have s2 : Spn 2 N (es.map inc) (inc (b, y)) := h.spn b y cy
        exact spn_add (spn_add (lift s1) hab fun i _ => inc_tri x a b i) (lift s2) fun i _ => inc_tri x b y i
      · have s1 : Spn 2 N (es.map inc) (inc (x, b)) := h.spn x b (by rw [h.same _ _ cx]; exact h.self b)
        have s2 : Spn 2 N (es.map inc) (inc (a, y)) := h.spn a y cy
        exact spn_add (spn_add (lift s1) (inc_comm a b ▸ hab) fun i _ => inc_tri x b a i) (lift s2) fun i _ => inc_tri x a y i
      · refine lift (h.spn x y ?_)
        rw [h.same _ _ cx]; exact cy
    · rw [ho x c] at hy
      exact lift (h.spn x y hy)
  · rcases List.mem_cons.mp he with rfl | he
    · show b ∈ g' a
      rw [hm a (List.mem_append_left _ (h.self a))]
      exact List.mem_append_right _ (h.self b)
    · have hd := h.edge e he
      by_cases c : e.1 ∈ g a ++ g b
      · rw [hm _ c]
        rcases List.mem_append.mp c with z | z
        · rw [h.same _ _ z] at hd; exact List.mem_append_left _ hd
        · rw [h.same _ _ z] at hd; exact List.mem_append_right _ hd
      · rw [ho _ c]; exact hd
  · intro ws ew hs
    obtain ⟨⟨c, v'⟩, r, rfl, ev, er⟩ := List.map_eq_cons_iff.mp ew
    have ev' : v' = inc (a, b) := ev
    subst ev'
    have hg0 : ∀ x ∈ g a, 0 ≤ x := fun x hx => (hb1 x hx).1
    have hr : ∀ (es' : List (Int × Int)) (r : List (Int × Vec)), (∀ e ∈ es', e ∈ es) → r.map (·.2) = es'.map inc → (2 : Int) ∣ Sg (g a) (Sm r) := by
      intro es'
      induction es' with
      | nil =>
        intro r _ er
        rw [List.map_eq_nil_iff.mp er]
        exact Sg_dvd (N := N) hb1 fun i _ => Int.dvd_zero _
      | cons x es' ih =>
        intro r hin er
        obtain ⟨⟨d, v⟩, r, rfl, ev, er'⟩ := List.map_eq_cons_iff.mp er
        have ev' : v = inc x := ev
        subst ev'
        rw [show Sm ((d, inc x) :: r) = fun i => d * inc x i + Sm r i from rfl, Sg_lin, Sg_inc (h.nd a) hg0]
        refine Int.dvd_add (Int.dvd_mul_of_dvd_right ?_) (ih r (fun e he => hin e (by simp [he])) er')
        have hx := h.edge x (hin x (by simp))
        by_cases c1 : x.1 ∈ g a
        · have c2 : x.2 ∈ g a := by rw [← h.same _ _ c1]; exact hx
          rw [if_pos c1, if_pos c2]; exact ⟨1, rfl⟩
        · have c2 : x.2 ∉ g a := fun z => c1 (by rw [← h.same _ _ z, h.same _ _ hx]; exact h.self _)
          rw [if_neg c1, if_neg c2]; exact ⟨0, rfl⟩
    have hc : (2 : Int) ∣ c := by
      have h1 : (2 : Int) ∣ Sg (g a) (Sm ((c, inc (a, b)) :: r)) := Sg_dvd hb1 hs
      rw [show Sm ((c, inc (a, b)) :: r) = fun i => c * inc (a, b) i + Sm r i from rfl, Sg_lin, Sg_inc (h.nd a) hg0, if_pos (h.self a), if_neg hn'] at h1
      have := Int.dvd_sub h1 (hr es r (fun e he => he) er)
      rw [Int.add_sub_cancel] at this
      rw [show c * (1 + 0) = c by omega] at this
      exact this
    have hrr := h.ind r er fun i hi => by
      have h1 : (2 : Int) ∣ c * inc (a, b) i + Sm r i := hs i hi
      have := Int.dvd_sub h1 (Int.dvd_mul_of_dvd_left (c := inc (a, b) i) hc)
      rw [show c * inc (a, b) i + Sm r i - c * inc (a, b) i = Sm r i by omega] at this
      exact this
    intro w hw
    rcases List.mem_cons.mp hw with rfl | hw
    · exact hc
    · exact hrr w hw
  · by_cases c : x ∈ g a ++ g b
    · rw [hm x c] at hy
      rcases List.mem_append.mp hy with z | z
      · exact hb1 y z
      · exact h.bnd b hb.2.2.1 hb.2.2.2 y z
    · rw [ho x c] at hy
      exact h.bnd x h1 h2 y hy
end K13
end
section
set_option maxHeartbeats 4000000
namespace K13
open PySem PySem.Spec PyProof.Rows L2 B
/-! W14: has a graph a ring. -/
def edgeD (e : Int × Int) : PyData := .tuple [.int e.1, .int e.2]
def edgesD (es : List (Int × Int)) : PyData := .list (es.map edgeD)
theorem putG_get (m : List (Key × B.G)) (k k' : Key) (g : B.G) : valG (putG m k g) k' = if k = k' then some g else valG m k' := by
  unfold putG
  by_cases c : (m.any fun kv => decide (kv.1 = k)) = true
  · rw [if_pos c]
    unfold valG
    rw [List.find?_map]
    rw [show ((fun kv : Key × B.G => decide (kv.1 = k')) ∘ fun kv : Key × B.G => if kv.1 = k then (kv.1, g) else kv) = fun kv : Key × B.G => decide (kv.1 = k') by
      funext kv
      by_cases z : kv.1 = k <;> simp [z]]
    cases e : m.find? (fun kv => decide (kv.1 = k')) with
    | none =>
      rw [if_neg]
      · rfl
      · rintro rfl
        rw [List.any_eq_true] at c
        obtain ⟨x, hx, hk⟩ := c
        exact (List.find?_eq_none.mp e x hx) hk
    | some kv =>
      have hk : kv.1 = k' := by simpa using List.find?_some e
      by_cases z : k = k'
      · rw [if_pos z]
        show some (if kv.1 = k then (kv.1, g) else kv).2 = _
        rw [if_pos (hk.trans z.symm)]
      · rw [if_neg z]
        show some (if kv.1 = k then (kv.1, g) else kv).2 = _
        rw [if_neg (fun z2 => z (z2.symm.trans hk))]
        rfl
  · rw [if_neg c]
    unfold valG
    rw [List.find?_append]
    by_cases z : k = k'
    · subst z
      rw [if_pos rfl]
      have : m.find? (fun kv => decide (kv.1 = k)) = none := List.find?_eq_none.mpr fun x hx h => c (List.any_eq_true.mpr ⟨x, hx, h⟩)
      rw [this]
      simp
    · rw [if_neg z]
      cases m.find? (fun kv => decide (kv.1 = k')) with
      | some x => rfl
      | none => simp [z]
/-- what groups the dict tells -/
def GR (gs : List (Key × B.G)) (g : Int → List Int) : Prop := ∀ z : Int, (valG gs (.inl z)).getD (.d (lotD [z])) = .d (lotD (g z))
theorem GR.nil : GR [] fun x => [x] := fun z => rfl
theorem GR.put {gs : List (Key × B.G)} {g : Int → List Int} (h : GR gs g) (t : Int) (L : List Int) : GR (putG gs (.inl t) (.d (lotD L))) fun x => if x = t then L else g x := fun z => by
  rw [putG_get]
  show _ = B.G.d (lotD (if z = t then L else g z))
  by_cases c : z = t
  · subst c; rw [if_pos rfl, if_pos rfl]; rfl
  · rw [if_neg (fun e => c (by injection e with e; exact e.symm)), if_neg c]; exact h z
def GrpOk (n : Nat) (gs : List (Key × B.G)) : Prop := ∀ kv ∈ gs, ∃ l : List Int, kv.2 = .d (lotD l) ∧ l.length ≤ n
theorem GrpOk.get {n : Nat} {gs : List (Key × B.G)} (h : GrpOk n gs) (hn : 1 ≤ n) (k : Key) (z : Int) : ∃ l : List Int, (valG gs k).getD (.d (lotD [z])) = .d (lotD l) ∧ l.length ≤ n := by
  unfold valG
  cases e : gs.find? (fun kv => decide (kv.1 = k)) with
  | none => exact ⟨[z], rfl, hn⟩
  | some kv =>
    obtain ⟨l, e1, e2⟩ := h kv (List.mem_of_find?_eq_some e)
    exact ⟨l, e1, e2⟩
theorem GrpOk.put {n : Nat} {gs : List (Key × B.G)} (h : GrpOk n gs) (k : Key) (l : List Int) (hl : l.length ≤ n) : GrpOk n (putG gs k (.d (lotD l))) := by
  unfold putG
  split
  · intro kv hkv
    obtain ⟨x, hx, e⟩ := List.mem_map.mp hkv
    split at e
    · subst e
      exact ⟨l, rfl, hl⟩
    · subst e
      exact h x hx
  · intro kv hkv
    rcases List.mem_append.mp hkv with h1 | h1
    · exact h kv h1
    · rw [List.mem_singleton.mp h1]
      exact ⟨l, rfl, hl⟩
theorem putG_len (gs : List (Key × B.G)) (k : Key) (g : B.G) : (putG gs k g).length ≤ gs.length + 1 := by
  unfold putG
  split
  · rw [List.length_map]; omega
  · rw [List.length_append]; exact Nat.le_refl _
theorem GrpOk.mono {n m : Nat} {gs : List (Key × B.G)} (h : GrpOk n gs) (le : n ≤ m) : GrpOk m gs := fun kv hkv => by
  obtain ⟨l, e1, e2⟩ := h kv hkv
  exact ⟨l, e1, by omega⟩
theorem pow10 {i : Nat} (h : i ≤ 10) : 2 ^ i ≤ 1024 := Nat.pow_le_pow_right (by omega) h
theorem pb_or {Γ : Gam} {a b : Expr} {pos : Pos} {ρ : GEnv} {M : Sto} {k1 k2 : Bool} (h1 : PB Γ a ρ M k1) (h2 : PB Γ b ρ M k2) : PB Γ (.BoolOp .Or [a, b] pos) ρ M (k1 || k2) := DW.dt (dw_or (PB.dt h1 (by
  cases k1 with
  | true => exact ifT rfl ⟨rfl, rfl⟩
  | false => exact ifF rfl (dw_or1 (PB.dt h2 ⟨rfl, rfl⟩)))))
theorem pb_and {Γ : Gam} {a b : Expr} {pos : Pos} {ρ : GEnv} {M : Sto} {k1 k2 : Bool} (h1 : PB Γ a ρ M k1) (h2 : PB Γ b ρ M k2) : PB Γ (.BoolOp .And [a, b] pos) ρ M (k1 && k2) := DW.dt (dw_and (PB.dt h1 (by
  cases k1 with
  | false => exact ifF rfl ⟨rfl, rfl⟩
  | true => exact ifT rfl (dw_and1 (PB.dt h2 ⟨rfl, rfl⟩)))))
section
variable {P : Program} {w : World} {K : PySem.W.Frag} {mg : Str → Option Value} {base : Heap}
def o_ring : ON := fun gs M Q => ∃ es N, gs = [.d (edgesD es)] ∧ es.length ≤ 10 ∧ (∀ e ∈ es, 0 ≤ e.1 ∧ e.1 < ((N : Nat) : Int) ∧ 0 ≤ e.2 ∧ e.2 < ((N : Nat) : Int)) ∧ ∀ b : Bool, (b = true ↔ ¬ IndP 2 N (es.map inc)) → Q (.d (.bool b)) M
theorem ok_ring (gl : Gl K mg) : Fn P w K mg base 1 "_law_has_ring" o_ring := by
  refine okf (d := d__law_has_ring) (N := ["edges", "groups", "one", "other", "mine", "its", "node"]) (ps := ["edges"]) gl 37 rfl (fun _ _ _ _ _ _ us hl => match us, hl with | [_], _ => rfl) (by decide +kernel) (fun gs M Q ⟨_, _, e, _⟩ => by rw [e]; rfl) (fun gs M Q ⟨es, N, e, hn, hbn, q⟩ => ?_)
  subst e
  refine ds_cons (d1_set 1 (de_emptyD fun p hp => ?_))
  refine ds_cons (d1_for (di_list (PD.de (pd_var 0) ⟨es.map edgeD, .d _, fun i ρ M' => ∃ x2 x3 x4 x5 x6 gs, M' = put M p (.dK gs) ∧ (∃ g, GR gs g ∧ GInv N (es.take i).reverse g) ∧ GrpOk (2 ^ i) gs ∧ gs.length ≤ 2 ^ (i + 1) ∧
    ρ = [some (.d (edgesD es)), some (.op (.ref p)), x2, x3, x4, x5, x6], ⟨_, _, _, _, _, [], rfl, ⟨_, GR.nil, GInv.start⟩, fun kv h => (by cases h), Nat.zero_le _, rfl⟩, fun _ _ _ _ _ => .d _, ?_, ?_⟩)))
  · rintro i g ρ M' eg ⟨x2, x3, x4, x5, x6, gs, rfl, ⟨gf, hgr, hgi⟩, hg, hl, rfl⟩
    rw [List.getElem?_map, List.getElem?_map] at eg
    cases ea : es[i]? with
    | none => rw [ea] at eg; cases eg
    | some a =>
      rw [ea] at eg
      cases eg
      have hi : i < es.length := (List.getElem?_eq_some_iff.mp ea).1
      have etk : (es.take (i + 1)).reverse = a :: (es.take i).reverse := by
        rw [List.take_succ, ea]
        simp
      have hba := hbn a (List.mem_of_getElem? ea)
      refine dg_tup (ds := [.int a.1, .int a.2]) (n := 2) (dgs_cons (dg_name 2 (dgs_cons (dg_name 3 (dgs_nil ?_))))) rfl
      obtain ⟨l1, e1, b1⟩ := hg.get (Nat.one_le_two_pow) (.inl a.1) a.1
      obtain ⟨l2, e2, b2⟩ := hg.get (Nat.one_le_two_pow) (.inl a.2) a.2
      have el1 : l1 = gf a.1 := lotD_inj (by have := e1.symm.trans (hgr a.1); injection this)
      have el2 : l2 = gf a.2 := lotD_inj (by have := e2.symm.trans (hgr a.2); injection this)
      have hp10 := pow10 (i := i) (by omega)
      have hsz : l1.length + l2.length ≤ 16777216 := by omega
      refine ds_cons (d1_par 4 5 (da_cons (de_dget2 (PD.de (pd_var 1) ⟨p, gs, rfl, put_same, PD.de (pd_var 2) (PD.de (pd_tup (ds := [.int a.1]) (da1 (pd_var 2))) ⟨_, .inl a.1, gs, rfl, rfl, put_same, ?_⟩)⟩))))
      rw [show (valG gs (Sum.inl a.1)).getD (B.G.d (PyData.tuple [PyData.int a.1])) = .d (lotD l1) from e1]
      refine da_cons (de_dget2 (PD.de (pd_var 1) ⟨p, gs, rfl, put_same, PD.de (pd_var 3) (PD.de (pd_tup (ds := [.int a.2]) (da1 (pd_var 3))) ⟨_, .inl a.2, gs, rfl, rfl, put_same, ?_⟩)⟩))
      rw [show (valG gs (Sum.inl a.2)).getD (B.G.d (PyData.tuple [PyData.int a.2])) = .d (lotD l2) from e2]
      refine da_nil ⟨_, _, rfl, ?_⟩
      refine ds_cons (d1_ifB (pb_or (pb_cmp o_eq (pd_var 2) (pd_var 3) ⟨_, _, .d _, .d _, pl_int _, pl_int _, rfl, rfl⟩) (pb_cmp o_in (pd_var 2) (pd_var 5) ⟨_, _, .d _, .t _, pl_int _, plA_ints l2, rfl, rfl⟩)) (fun hyes => ?_) (fun hnot => ?_))
      · refine ds_cons (d1_ret (de_drop (PD.de pd_bl ⟨M, Ext.put hp, q true ⟨fun _ hj => ?_, fun _ => rfl⟩⟩)))
        rw [show (if false = true then !isIn (PyData.int a.1) (List.map PyData.int l2) else isIn (PyData.int a.1) (List.map PyData.int l2)) = l2.contains a.1 from isIn_ints a.1 l2, eqv_int, Bool.or_eq_true, decide_eq_true_eq, List.contains_iff_mem, el2] at hyes
        refine hgi.ring hyes ?_
        rw [← etk]
        refine (IndP.suffix (l := (es.drop (i + 1)).reverse.map inc) ?_)
        rw [← List.map_append]
        refine hj.perm (List.Perm.map inc ?_)
        refine List.Perm.trans ?_ ((List.reverse_perm _).symm.append (List.reverse_perm _).symm)
        refine List.Perm.trans ?_ List.perm_append_comm
        rw [List.take_append_drop]
      · refine ds_nil (ds_cons (d1_for (di_tup (PD.de (pd_bin o_catT (pd_var 4) (pd_var 5) ⟨_, _, rfl, rfl, ?_, rfl, rfl⟩) ⟨_, rfl, fun j ρ M' => ∃ x6 gs', M' = put M p (.dK gs') ∧ (∃ g', GR gs' g' ∧ ∀ x, g' x = if x ∈ (l1 ++ l2).take j then l1 ++ l2 else gf x) ∧ GrpOk (2 ^ (i + 1)) gs' ∧ gs'.length ≤ gs.length + j ∧
          ρ = [some (.d (edgesD es)), some (.op (.ref p)), some (.d (.int a.1)), some (.d (.int a.2)), some (.d (lotD l1)), some (.d (lotD l2)), x6], ⟨_, gs, rfl, ⟨gf, hgr, fun x => rfl⟩, hg.mono (by rw [Nat.pow_succ]; omega), Nat.le_refl _, rfl⟩, fun _ _ _ _ _ => trivial, ?_, ?_⟩))))
        · rw [List.length_map, List.length_map]; exact hsz
        · rintro j g ρ M' eg ⟨x6, gs', rfl, ⟨gf', hgr', hgx⟩, hg', hl', rfl⟩
          rw [← List.map_append, List.getElem?_map, List.getElem?_map] at eg
          cases eb : (l1 ++ l2)[j]? with
          | none => rw [eb] at eg; cases eg
          | some t =>
            rw [eb] at eg
            cases eg
            have hj : j < (l1 ++ l2).length := (List.getElem?_eq_some_iff.mp eb).1
            rw [List.length_append] at hj
            refine dg_name 6 (ds_cons (d1_dput (PD.de (pd_bin o_catT (pd_var 4) (pd_var 5) ⟨_, _, rfl, rfl, ?_, rfl, rfl⟩) (PD.de (pd_var 1) (PD.de (pd_var 6) ⟨p, gs', _, .inl t, rfl, put_same, rfl, rfl, ?_, ds_nil ⟨_, putG gs' (.inl t) (.d (lotD (l1 ++ l2))), ?_, ⟨_, hgr'.put t (l1 ++ l2), fun x => ?_⟩, hg'.put _ _ ?_, ?_, rfl⟩⟩)))))
            · rw [List.length_map, List.length_map]; exact hsz
            · show gs'.length < 16777216
              rw [Nat.pow_succ] at hl
              omega
            · rw [put_put]
              show put M p (.dK (putG gs' (.inl t) (.d (.tuple (l1.map PyData.int ++ l2.map PyData.int))))) = _
              rw [← List.map_append]
              rfl
            · rw [List.take_succ, eb, hgx x]
              by_cases c : x = t
              · subst c; rw [if_pos rfl, if_pos (by simp)]
              · rw [if_neg c]
                by_cases c2 : x ∈ (l1 ++ l2).take j
                · rw [if_pos c2, if_pos (List.mem_append_left _ c2)]
                · rw [if_neg c2, if_neg (fun z => by
                    rcases List.mem_append.mp z with z | z
                    · exact c2 z
                    · exact c (by simpa using z))]
            · rw [List.length_append, Nat.pow_succ]; omega
            · have := putG_len gs' (.inl t) (.d (lotD (l1 ++ l2)))
              omega
        · rintro ρ M' ⟨x6, gs', rfl, ⟨gf', hgr', hgx⟩, hg', hl', rfl⟩
          refine ds_nil ⟨_, _, _, _, _, gs', rfl, ⟨gf', hgr', ?_⟩, hg', ?_, rfl⟩
          · rw [etk]
            rw [show (if false = true then !isIn (PyData.int a.1) (List.map PyData.int l2) else isIn (PyData.int a.1) (List.map PyData.int l2)) = l2.contains a.1 from isIn_ints a.1 l2, eqv_int, Bool.or_eq_false_iff, decide_eq_false_iff_not] at hnot
            refine hgi.step (fun z => ?_) hba fun x => ?_
            · have := hnot.2
              rw [el2, List.contains_iff_mem.mpr z] at this
              cases this
            · rw [hgx x, List.length_map, List.length_append, List.length_map, List.length_map, ← List.length_append, List.take_length, el1, el2]
          rw [List.length_map, List.length_append, List.length_map, List.length_map] at hl'
          rw [Nat.pow_succ, Nat.pow_succ]
          rw [Nat.pow_succ] at hl
          omega
  · rintro ρ M' ⟨x2, x3, x4, x5, x6, gs, rfl, ⟨gf, hgr, hgi⟩, hg, hl, rfl⟩
    refine ds_cons (d1_ret (de_drop (PD.de pd_bl ⟨M, Ext.put hp, q false ⟨(fun z => nomatch z), fun z => absurd ?_ z⟩⟩)))
    rw [List.length_map, List.length_map, List.take_length] at hgi
    exact hgi.ind.perm ((List.reverse_perm es).map inc)
end
end K13
end
section
set_option maxHeartbeats 4000000
namespace K13
open PySem PySem.Spec PyProof.Rows L2 B
/-! W15: are columns apart. -/
def intsD (r : List Int) : PyData := .list (r.map PyData.int)
def rowsD (rs : List (List Int)) : PyData := .list (rs.map intsD)
def RowsOk (h : Nat) (pr : Int) (rs : List (List Int)) : Prop := ∀ r ∈ rs, r.length = h ∧ ∀ x ∈ r, 0 ≤ x ∧ x < pr
theorem rows_plain : ∀ rs : List (List Int), PyData.plainAll (rs.map intsD) = true ∧ PyData.depthAll (rs.map intsD) ≤ 1
  | [] => ⟨rfl, by rw [List.map_nil, PyData.depthAll]; omega⟩
  | r :: rs => by
    obtain ⟨h1, h2⟩ := rows_plain rs
    constructor
    · rw [List.map_cons, PyData.plainAll, h1, intsD, PyData.plain, ints_plain]; rfl
    · rw [List.map_cons, PyData.depthAll, intsD, PyData.depth, dep_ints]
      omega
theorem eqv_nilR (rs : List (List Int)) : PyData.eqv (.list (rs.map intsD)) (.list []) = rs.isEmpty := by
  cases rs <;> rfl
theorem RowsOk.set {h : Nat} {pr : Int} {rs : List (List Int)} (ok : RowsOk h pr rs) (i : Nat) {r : List Int} (hr : r.length = h ∧ ∀ x ∈ r, 0 ≤ x ∧ x < pr) : RowsOk h pr (rs.set i r) := fun a ha => by
  rcases List.mem_or_eq_of_mem_set ha with h1 | rfl
  · exact ok a h1
  · exact hr
theorem RowsOk.at {h : Nat} {pr : Int} {rs : List (List Int)} (ok : RowsOk h pr rs) {i : Nat} (hi : i < rs.length) {j : Nat} (hj : j < h) : ∃ r x, rs[i]? = some r ∧ r[j]? = some x ∧ r ∈ rs ∧ 0 ≤ x ∧ x < pr := by
  have h1 := List.getElem_mem hi
  obtain ⟨h2, h3⟩ := ok _ h1
  exact ⟨rs[i], (rs[i])[j], List.getElem?_eq_getElem hi, List.getElem?_eq_getElem (by omega), h1, h3 _ (List.getElem_mem _)⟩
theorem mixR_ok {h : Nat} {pr m : Int} {a b : List Int} (hp : 0 < pr) (ha : a.length = h) (hb : b.length = h) : (mixR pr m a b).length = h ∧ ∀ x ∈ mixR pr m a b, 0 ≤ x ∧ x < pr := by
  unfold mixR
  refine ⟨by rw [List.length_map, List.length_zip]; omega, fun x hx => ?_⟩
  obtain ⟨p, _, rfl⟩ := List.mem_map.mp hx
  exact ⟨Int.emod_nonneg _ (by omega), Int.emod_lt_of_pos _ hp⟩
theorem more_ex {pr a b : Int} (hp : pr = 2 ∨ pr = 3 ∨ pr = 5) (ha : 0 ≤ a ∧ a < pr) (hb : 0 ≤ b ∧ b < pr) (h : b % pr ≠ 0) : ∃ i : Nat, (i : Int) < pr ∧ (a + (i : Int) * b) % pr = 0 := by
  have hb0 : b ≠ 0 := fun z => by subst z; simp at h
  have e : ∃ n ∈ List.range 5, ((n : Nat) : Int) < pr ∧ (a + ((n : Nat) : Int) * b) % pr = 0 := by
    obtain ⟨x, rfl⟩ : ∃ x : Nat, a = x := ⟨a.toNat, by omega⟩
    obtain ⟨y, rfl⟩ : ∃ y : Nat, b = y := ⟨b.toNat, by omega⟩
    have key : ∀ p ∈ [2, 3, 5], ∀ x ∈ List.range p, ∀ y ∈ List.range p, y ≠ 0 → ∃ n ∈ List.range 5, n < p ∧ (x + n * y) % p = 0 := by decide
    rcases hp with rfl | rfl | rfl
    · obtain ⟨n, h1, h2, h3⟩ := key 2 (by decide) x (by rw [List.mem_range]; omega) y (by rw [List.mem_range]; omega) (by omega)
      exact ⟨n, h1, by omega, by have : ((x + n * y : Nat) : Int) % ((2 : Nat) : Int) = ((0 : Nat) : Int) := by rw [← Int.natCast_emod, h3]
                                 rw [Int.natCast_add, Int.natCast_mul] at this; exact this⟩
    · obtain ⟨n, h1, h2, h3⟩ := key 3 (by decide) x (by rw [List.mem_range]; omega) y (by rw [List.mem_range]; omega) (by omega)
      exact ⟨n, h1, by omega, by have : ((x + n * y : Nat) : Int) % ((3 : Nat) : Int) = ((0 : Nat) : Int) := by rw [← Int.natCast_emod, h3]
                                 rw [Int.natCast_add, Int.natCast_mul] at this; exact this⟩
    · obtain ⟨n, h1, h2, h3⟩ := key 5 (by decide) x (by rw [List.mem_range]; omega) y (by rw [List.mem_range]; omega) (by omega)
      exact ⟨n, h1, by omega, by have : ((x + n * y : Nat) : Int) % ((5 : Nat) : Int) = ((0 : Nat) : Int) := by rw [← Int.natCast_emod, h3]
                                 rw [Int.natCast_add, Int.natCast_mul] at this; exact this⟩
  obtain ⟨n, _, h1, h2⟩ := e
  exact ⟨n, h1, h2⟩
theorem at_rows {rs : List (List Int)} {i : Nat} {r : List Int} (h : rs[i]? = some r) : atI (rs.map intsD) (i : Nat) = some (intsD r) := B.atI_nat (by rw [List.getElem?_map, h]; rfl)
theorem at_ints {r : List Int} {i : Nat} {x : Int} (h : r[i]? = some x) : atI (r.map PyData.int) (i : Nat) = some (.int x) := B.atI_nat (by rw [List.getElem?_map, h]; rfl)
abbrev RS (rs : List (List Int)) : MO := .lst ((rs.map intsD).map B.G.d)
theorem RS_set (rs : List (List Int)) (i : Nat) (r : List Int) : (((rs.map intsD).map B.G.d).set i (.d (intsD r))) = (((rs.set i r).map intsD).map B.G.d) := by
  rw [List.map_set, List.map_set]
theorem ixN_lt {n i : Nat} (h : i < n) : ixN n (i : Nat) = some i := by
  unfold ixN
  rw [if_pos (by omega), if_pos (by omega)]
  rfl
theorem swap_get {rs : List (List Int)} {f g : Nat} {ra rb : List Int} (hf : rs[f]? = some rb) (hg : rs[g]? = some ra) : ((rs.set f ra).set g rb)[f]? = some ra := by
  have h1 := (List.getElem?_eq_some_iff.mp hf).1
  by_cases c : g = f
  · subst c
    rw [hf] at hg
    cases hg
    rw [List.getElem?_set_self (by rw [List.length_set]; exact h1)]
  · rw [List.getElem?_set_ne c, List.getElem?_set_self h1]
theorem zip_ints (a b : List Int) : zipG (a.map PyData.int) (b.map PyData.int) = (a.zip b).map fun p => B.G.d (.tuple [.int p.1, .int p.2]) := by
  rw [zipG_eq, List.zip_map, List.map_map]
  rfl
section
variable {P : Program} {w : World} {K : PySem.W.Frag} {mg : Str → Option Value} {base : Heap}
def o_apart : ON := fun gs M Q => ∃ cols pr h, gs = [.d (rowsD cols), .d (.int pr)] ∧ (pr = 2 ∨ pr = 3 ∨ pr = 5) ∧ cols.length ≤ 10 ∧ h ≤ 10 ∧ RowsOk h pr cols ∧ ∀ b : Bool, (b = true ↔ IndP pr h (cols.map vc)) → Q (.d (.bool b)) M
theorem ok_apart (gl : Gl K mg) : Fn P w K mg base 1 "_law_are_apart" o_apart := by
  refine okf (d := d__law_are_apart) (N := ["columns", "prime", "rows", "found", "at", "number", "heads", "head", "more", "column", "one", "mine", "its"]) (ps := ["columns", "prime"]) gl 36 rfl (fun _ _ _ _ _ _ us hl => match us, hl with | [_, _], _ => rfl) (by decide +kernel) (fun gs M Q ⟨_, _, _, e, _⟩ => by rw [e]; rfl) (fun gs M Q ⟨cols, pr, h, e, hp, hn, hh, hok, q⟩ => ?_)
  subst e
  have hpr : 0 < pr ∧ pr ≤ 6 := by omega
  have hpri : Pri pr := by rcases hp with rfl | rfl | rfl; exact pri2; exact pri3; exact pri5
  refine ds_cons (d1_asgT (n := 2) (da_cons (de_lc (lcP_map (fun r : List Int => B.G.d (intsD r)) cols (fun r => intsD r) (pit_list (ds := cols.map intsD) (pd_var 0) (.d _)) (by rw [List.map_map]; rfl) (by show _ ≤ 16777216; omega)
    (fun M' e r hr => dc_name 9 ⟨rfl, pd_callT o_list (n_list gl) rfl (da1 (pd_var 9)) ⟨_, r.map PyData.int, rfl, .l (.d _), .frz ⟨rfl, rfl⟩⟩⟩) (.mut fun p hp0 => ?_)) (blkOk_by (own := [("column", 9)]) (by kernel_rfl)))))
  refine da_cons (PD.de pd_int (da_nil ⟨rfl, Nat.le_of_ble_eq_true rfl, dgs_cons (dg_name 2 (dgs_cons (dg_name 3 (dgs_nil ?_))))⟩))
  refine ds_cons (d1_for (di_range1 (n_range gl) (DE.mono (Q := fun g M1 => M1 = put M p (RS cols) ∧ ∃ N : Nat, N ≤ h ∧ (cols = [] ∨ N = h) ∧ g = .d (.int (N : Nat))) ?_ ?_)))
  · refine de_ifB (k := !cols.isEmpty) (pb_cmp o_ne (pd_var 2) (pd_list (ds := []) .nil) ⟨_, _, .l put_same, .d _, ⟨?_, ?_⟩, ⟨by rw [PyData.plain]; rfl, by rw [PyData.depth, PyData.depthAll]; omega⟩, by rw [eqv_nilR], rfl⟩) (fun hne => ?_) (fun hne => PD.de pd_int ⟨rfl, 0, Nat.zero_le _, .inl (by cases cols with | nil => rfl | cons a b => cases hne), rfl⟩)
    · rw [PyData.plain]; exact (rows_plain cols).1
    · rw [PyData.depth]; have : PyData.depthAll (List.map (fun r => intsD r) cols) ≤ 1 := (rows_plain cols).2; omega
    · cases hc : cols with
      | nil => rw [hc] at hne; cases hne
      | cons r rs =>
        have hr := (hok r (by rw [hc]; exact List.mem_cons_self)).1
        exact PD.de (pd_len (n_len gl) (pd_atL (pd_var 2) (.l put_same) pd_int (at_rows (i := 0) (rs := r :: rs) rfl)) (.l (.d _))) ⟨rfl, h, Nat.le_refl _, .inr rfl, by rw [List.length_map, hr]⟩
  rintro g M1 ⟨rfl, N, hN, hNh, rfl⟩
  refine ⟨(N : Nat), rfl, by omega, by omega, fun i ρ M' => ∃ (found : Nat) (rs : List (List Int)) (x4 x5 x6 x7 x8 : Option B.G), M' = put M p (RS rs) ∧ RowsOk h pr rs ∧ rs.length = cols.length ∧ found ≤ rs.length ∧ EO pr h cols rs found i ∧
    ρ = [some (.d (rowsD cols)), some (.d (.int pr)), some (.op (.ref p)), some (.d (.int (found : Nat))), x4, x5, x6, x7, x8, none, none, none, none], ⟨0, cols, none, none, none, none, none, rfl, hok, rfl, Nat.zero_le _, EO.start, rfl⟩, fun _ _ _ _ _ => trivial, ?_, ?_⟩
  · rintro i g ρ M' eg ⟨found, rs, x4, x5, x6, x7, x8, rfl, ok, hl, hf, heo, rfl⟩
    obtain ⟨hi, rfl⟩ := rangeG_get eg
    rw [Int.zero_add]
    refine dg_name 4 ?_
    refine ds_cons (d1_filc [("number", 5)] 6 (fun j : Nat => B.G.d (.int ((found + j : Nat) : Int))) (List.range (rs.length - found)) (fun j => !decide (((rs.getD (found + j) []).getD i 0) % pr = 0)) (fun j => .int ((found + j : Nat) : Int)) (pit_range2 (n_range gl) (pd_var 3) (pd_len (n_len gl) (pd_var 2) (.l (.l put_same))) (by omega) ?_) ?_ ?_ (fun M' e j hj => dc_name 5 ⟨rfl, ?_, fun _ => pd_var 5⟩) (.frz ?_))
    · rw [List.length_map]; omega
    · rw [rangeG_eq, List.length_map]
      have : (((rs.length : Nat) : Int) - ((found : Nat) : Int)).toNat = rs.length - found := by omega
      rw [this]
      exact List.map_congr_left fun j _ => by rw [Int.natCast_add]
    · rw [List.length_range]; show _ ≤ 16777216; omega
    · rw [List.mem_range] at hj
      obtain ⟨r, x, e1, e2, e3, e4⟩ := ok.at (i := found + j) (j := i) (by omega) (by omega)
      refine PB.to (pb_cmp o_ne (pd_bin o_mod (pd_atL (pd_atL (pd_var 2) (.l (e _ _ put_same)) (pd_var 5) (at_rows (i := found + j) e1)) (.d _) (pd_var 4) (at_ints e2)) (pd_var 1) ⟨x, pr, rfl, rfl, hpr.1, rfl, rfl⟩) pd_int ⟨_, _, .d _, .d _, pl_int _, pl_int _, rfl, rfl⟩) ?_
      rw [eqv_int, List.getD_eq_getElem?_getD, List.getD_eq_getElem?_getD, e1]
      show _ = !decide ((r[i]?.getD 0) % pr = 0)
      rw [e2]
      rfl
    · obtain ⟨hs, ehs⟩ : ∃ hs, (List.range (rs.length - found)).filter (fun j => !decide (((rs.getD (found + j) []).getD i 0) % pr = 0)) = hs := ⟨_, rfl⟩
      rw [ehs]
      have emap : hs.map (fun j => PyData.int ((found + j : Nat) : Int)) = (hs.map fun j => ((found + j : Nat) : Int)).map PyData.int := by rw [List.map_map]; rfl
      have enil : PyData.eqv (.list (hs.map (fun j => PyData.int ((found + j : Nat) : Int)))) (.list []) = hs.isEmpty := by rw [emap, eqv_nil]; cases hs <;> rfl
      refine ds_cons (d1_ifB (k := hs.isEmpty) (pb_cmp o_eq (pd_var 6) (pd_list (ds := []) .nil) ⟨_, _, .d _, .d _, ⟨?_, ?_⟩, ⟨by rw [PyData.plain]; rfl, by rw [PyData.depth, PyData.depthAll]; omega⟩, by rw [enil], rfl⟩) (fun hemp => ds_cons (d1_cont ⟨found, rs, _, _, _, _, _, rfl, ok, hl, hf, ?_, rfl⟩)) (fun hne => ?_))
      · rw [PyData.plain, emap]; exact ints_plain _
      · rw [PyData.depth, emap, dep_ints]; omega
      · refine heo.skip fun k r hk er => ?_
        have hkl := (List.getElem?_eq_some_iff.mp er).1
        have hnil : hs = [] := List.isEmpty_iff.mp hemp
        rw [hnil, List.filter_eq_nil_iff] at ehs
        have := ehs (k - found) (by rw [List.mem_range]; omega)
        rw [show found + (k - found) = k by omega, List.getD_eq_getElem?_getD (l := rs), er] at this
        refine Int.dvd_of_emod_eq_zero ?_
        unfold vc
        rw [List.getD_eq_getElem?_getD]
        simpa using this
      obtain ⟨j0, ht, rfl⟩ : ∃ j0 ht, hs = j0 :: ht := by
        cases hs with
        | nil => cases hne
        | cons a b => exact ⟨a, b, rfl⟩
      have hj0 : j0 ∈ (List.range (rs.length - found)).filter (fun j => !decide (((rs.getD (found + j) []).getD i 0) % pr = 0)) := by rw [ehs]; exact List.mem_cons_self
      obtain ⟨hj1, hj2⟩ := List.mem_filter.mp hj0
      rw [List.mem_range] at hj1
      obtain ⟨ra, xa, ea1, ea2, ea3, ea4⟩ := ok.at (i := found + j0) (j := i) (by omega) (by omega)
      obtain ⟨rb, xb, eb1, eb2, eb3, eb4⟩ := ok.at (i := found) (j := i) (by omega) (by omega)
      have hxa : xa % pr ≠ 0 := by
        rw [List.getD_eq_getElem?_getD, List.getD_eq_getElem?_getD, ea1] at hj2
        have : (!decide ((ra[i]?.getD 0) % pr = 0)) = true := hj2
        rw [ea2] at this
        simpa using this
      have hfn : found < rs.length := by omega
      have sl : ∀ (a b : List Int) (k : Nat), (rs.set k a).length = rs.length := fun a b k => List.length_set
      refine ds_nil (ds_cons (d1_asgT (n := 2) (da_cons (PD.de (pd_atL (pd_var 2) (.l put_same) (pd_atL (pd_var 6) (.d _) pd_int (B.atI_nat (i := 0) rfl)) (at_rows (i := found + j0) ea1)) (da_cons (PD.de (pd_atL (pd_var 2) (.l put_same) (pd_var 3) (at_rows eb1)) (da_nil ⟨rfl, Nat.le_of_ble_eq_true rfl, ?_⟩)))))))
      refine dgs_cons (dg_subL (PD.de (pd_var 2) (PD.de (pd_var 3) ⟨p, _, _, found, rfl, put_same, rfl, ixN_lt (by rw [List.length_map, List.length_map]; exact hfn), ?_⟩)))
      rw [put_put, RS_set]
      refine dgs_cons (dg_subL (PD.de (pd_var 2) (PD.de (pd_atL (pd_var 6) (.d _) pd_int (B.atI_nat (i := 0) rfl)) ⟨p, _, _, found + j0, rfl, put_same, rfl, ixN_lt (by rw [List.length_map, List.length_map, List.length_set]; omega), ?_⟩)))
      rw [put_put, RS_set]
      refine dgs_nil ?_
      have ok2 : RowsOk h pr ((rs.set found ra).set (found + j0) rb) := (ok.set found (ok _ ea3)).set _ (ok _ eb3)
      have hl2 : ((rs.set found ra).set (found + j0) rb).length = rs.length := by rw [List.length_set, List.length_set]
      have hd2 := swap_get eb1 ea1
      have hei := heo.swap ea1 eb1
      generalize (rs.set found ra).set (found + j0) rb = rs2 at ok2 hl2 hd2 hei ⊢
      refine ds_cons (d1_set 7 (PD.de (pd_atL (pd_var 2) (.l put_same) (pd_var 3) (at_rows hd2)) ?_))
      refine ds_cons (d1_for (di_range2 (n_range gl) (da_cons (PD.de (pd_bin o_add (pd_var 3) pd_int ⟨_, _, rfl, rfl, rfl, rfl⟩) (da_cons (PD.de (pd_len (n_len gl) (pd_var 2) (.l (.l put_same))) (da_nil ⟨_, _, rfl, ⟨?_, ?_, ?_, ?_⟩, fun j ρ M' => ∃ (rs' : List (List Int)) (x5 x8 : Option B.G), M' = put M p (RS rs') ∧ RowsOk h pr rs' ∧ rs'.length = rs.length ∧ EI pr h cols rs' ra found i j ∧
        ρ = [some (.d (rowsD cols)), some (.d (.int pr)), some (.op (.ref p)), some (.d (.int (found : Nat))), some (.d (.int (i : Nat))), x5, some (.d (.list (List.map (fun j => PyData.int ((found + j : Nat) : Int)) (j0 :: ht)))), some (.d (intsD ra)), x8, none, none, none, none], ⟨rs2, _, _, rfl, ok2, hl2, hei, rfl⟩, fun _ _ _ _ _ => trivial, ?_, ?_⟩)))))))
      · show ((found : Nat) : Int) + 1 ≤ 2 ^ 60; omega
      · show -(2 ^ 60) ≤ ((found : Nat) : Int) + 1; omega
      · rw [List.length_map]; omega
      · rw [List.length_map]; omega
      · rintro j g ρ M' eg ⟨rs', x5, x8, rfl, ok', hl', hei', rfl⟩
        obtain ⟨hj, rfl⟩ := rangeG_get eg
        rw [List.length_map] at hj
        have hj : j < (((rs2.length : Nat) : Int) - (((found : Nat) : Int) + 1)).toNat := hj
        have hj' : found + 1 + j < rs'.length := by omega
        rw [show ((fun i j => i + j) ((found : Nat) : Int) 1 : Int) + ((j : Nat) : Int) = ((found + 1 + j : Nat) : Int) by rw [Int.natCast_add, Int.natCast_add]; rfl]
        refine dg_name 5 ?_
        obtain ⟨r, x, e1, e2, e3, e4⟩ := ok'.at (i := found + 1 + j) (j := i) hj' (by omega)
        obtain ⟨one0, ho1, ho2⟩ := more_ex hp e4 ea4 hxa
        obtain ⟨os, eos⟩ : ∃ os, (List.range pr.toNat).filter (fun o : Nat => decide ((x + (o : Nat) * xa) % pr = 0)) = os := ⟨_, rfl⟩
        have hos : one0 ∈ os := by
          rw [← eos]
          exact List.mem_filter.mpr ⟨by rw [List.mem_range]; omega, by simp [ho2]⟩
        obtain ⟨m0, mt, rfl⟩ : ∃ m0 mt, os = m0 :: mt := by
          cases os with
          | nil => cases hos
          | cons a b => exact ⟨a, b, rfl⟩
        have hm0' : (x + (m0 : Nat) * xa) % pr = 0 := by
          have : m0 ∈ (List.range pr.toNat).filter (fun o : Nat => decide ((x + (o : Nat) * xa) % pr = 0)) := by rw [eos]; exact List.mem_cons_self
          simpa using (List.mem_filter.mp this).2
        have hm0 : m0 < pr.toNat := by
          have : m0 ∈ (List.range pr.toNat).filter (fun o : Nat => decide ((x + (o : Nat) * xa) % pr = 0)) := by rw [eos]; exact List.mem_cons_self
          exact List.mem_range.mp (List.mem_filter.mp this).1
        refine ds_cons (d1_set 8 (PD.de (g := .d (.int (m0 : Nat))) (pd_atL (ds := (m0 :: mt).map fun o : Nat => PyData.int (o : Nat)) (pd_filc [("one", 10)] (fun o : Nat => B.G.d (.int (o : Nat))) (List.range pr.toNat) (fun o : Nat => decide ((x + (o : Nat) * xa) % pr = 0)) (fun o : Nat => .int (o : Nat)) (pit_range1 (n_range gl) (pd_var 1) (by omega)) (by rw [rangeG_eq]; exact List.map_congr_left fun j _ => by rw [Int.zero_add]) (by rw [List.length_range]; show _ ≤ 16777216; omega) fun M' e o ho => dc_name 10 ⟨rfl, ?_, fun _ => pd_var 10⟩) (by rw [eos]; exact .d _) pd_int (B.atI_nat (i := 0) rfl)) ?_))
        · rw [List.mem_range] at ho
          have hoP : ((o : Nat) : Int) < 5 := by omega
          refine PB.to (pb_cmp o_eq (pd_bin o_mod (pd_bin o_add (pd_atL (pd_atL (pd_var 2) (.l (e _ _ put_same)) (pd_var 5) (at_rows e1)) (.d _) (pd_var 4) (at_ints e2)) (pd_bin o_mul (pd_var 10) (pd_atL (pd_var 7) (.d _) (pd_var 4) (at_ints ea2)) ⟨(o : Nat), xa, rfl, rfl, .inl ⟨by omega, by omega⟩, rfl, rfl⟩) ⟨_, _, rfl, rfl, rfl, rfl⟩) (pd_var 1) ⟨_, pr, rfl, rfl, hpr.1, rfl, rfl⟩) pd_int ⟨_, _, .d _, .d _, pl_int _, pl_int _, rfl, rfl⟩) ?_
          rw [eqv_int]
        · obtain ⟨hr1, hr2⟩ := ok' r e3
          obtain ⟨ha1, ha2⟩ := ok ra ea3
          refine ds_cons (d1_asg (PD.de (g := .d (intsD (mixR pr (m0 : Nat) r ra))) (PD.to (pd_mapc [("mine", 11), ("its", 12)] (fun p : Int × Int => B.G.d (.tuple [.int p.1, .int p.2])) (r.zip ra) (fun p => .int ((p.1 + (m0 : Nat) * p.2) % pr)) (pit_zipL (n_zip gl) (pd_atL (pd_var 2) (.l put_same) (pd_var 5) (at_rows e1)) (pd_var 7) (.d _) (.d _)) (zip_ints r ra) (by rw [List.length_zip]; show _ ≤ 16777216; omega) fun M' e t ht => ?_) ?_) ?_))
          · obtain ⟨m1, m2⟩ := List.of_mem_zip ht
            have := ha2 _ m2
            exact dc_tup (ds := [.int t.1, .int t.2]) (n := 2) (dcs_cons (dc_name 11 (dcs_cons (dc_name 12 (dcs_nil ⟨rfl, pd_bin o_mod (pd_bin o_add (pd_var 11) (pd_bin o_mul (pd_var 8) (pd_var 12) ⟨(m0 : Nat), t.2, rfl, rfl, .inr ⟨by omega, by omega⟩, rfl, rfl⟩) ⟨_, _, rfl, rfl, rfl, rfl⟩) (pd_var 1) ⟨_, pr, rfl, rfl, hpr.1, rfl, rfl⟩⟩))))) rfl
          · unfold intsD mixR
            rw [List.map_map]
            rfl
          · refine dg_subL (PD.de (pd_var 2) (PD.de (pd_var 5) ⟨p, _, _, found + 1 + j, rfl, put_same, rfl, ixN_lt (by rw [List.length_map, List.length_map]; exact hj'), ?_⟩))
            rw [put_put, RS_set]
            exact ds_nil ⟨_, _, _, rfl, ok'.set _ (mixR_ok hpr.1 hr1 ha1), by rw [List.length_set]; exact hl', hei'.step (by omega) e1 hr1 ha1 (by unfold vc; rw [List.getD_eq_getElem?_getD, List.getD_eq_getElem?_getD, e2, ea2]; exact Int.dvd_of_emod_eq_zero hm0'), rfl⟩
      · rintro ρ M' ⟨rs', x5, x8, rfl, ok', hl', hei', rfl⟩
        refine ds_cons (d1_set 3 (PD.de (pd_bin o_add (pd_var 3) pd_int ⟨_, _, rfl, rfl, rfl, rfl⟩) (ds_nil ⟨found + 1, rs', _, _, _, _, _, rfl, ok', by omega, by omega, hei'.close hpri (by omega) (fun z => hxa (by unfold vc at z; rw [List.getD_eq_getElem?_getD, ea2] at z; exact Int.emod_eq_zero_of_dvd z)) (by rw [rangeG_length, List.length_map, hl2, hl']; show _ ≤ _ + (((rs.length : Nat) : Int) - (((found : Nat) : Int) + 1)).toNat; omega), rfl⟩)))
  · rintro ρ M' ⟨found, rs, x4, x5, x6, x7, x8, rfl, ok, hl, hf, heo, rfl⟩
    refine ds_cons (d1_ret (de_drop (PD.de (pd_cmp o_eq (pd_var 3) (pd_len (n_len gl) (pd_var 2) (.l (.l put_same))) ⟨_, _, .d _, .d _, pl_int _, pl_int _, rfl, rfl⟩) ⟨M, Ext.put hp0, q _ ?_⟩)))
    rw [eqv_int, List.length_map, decide_eq_true_eq]
    rcases hNh with z | z
    · subst z
      have hr0 : rs.length = 0 := hl
      exact ⟨fun _ => IndP.nil, fun _ => by omega⟩
    · rw [rangeG_length, show ((N : Nat) : Int).toNat = N by omega, z] at heo
      rw [heo.finish hpri]
      omega
end
end K13
end
section
set_option maxHeartbeats 4000000
namespace K13
open PySem PySem.Spec PyProof.Rows L2 B
/-! M5: all lots of a length; duals. -/
theorem sub_len : ∀ {l m : List Int}, l.Nodup → (∀ x ∈ l, x ∈ m) → l.length ≤ m.length
  | [], _, _, _ => Nat.zero_le _
  | x :: l, m, n, h => by
    obtain ⟨n1, n2⟩ := List.nodup_cons.mp n
    have hx := h x List.mem_cons_self
    have := sub_len (l := l) (m := m.erase x) n2 fun y hy => by
      have : y ≠ x := fun e => n1 (e ▸ hy)
      exact (List.mem_erase_of_ne this).mpr (h y (List.mem_cons_of_mem _ hy))
    rw [List.length_erase_of_mem hx] at this
    have hp : 0 < m.length := List.length_pos_of_mem hx
    rw [List.length_cons]
    omega
theorem matJ_len (k : Nat) : MatJ fun X => X.length ≤ k :=
  ⟨fun p j => by rw [← p.length_eq]; exact j, Nat.zero_le _, fun _ j => by rw [List.length_cons] at j; omega, fun {X Y} nX nY jx jy hl => by
    refine Classical.byContradiction fun z => ?_
    have := sub_len nY (m := X) fun y hy => Classical.byContradiction fun hn => z ⟨y, hy, hn, by rw [List.length_cons]; omega⟩
    omega⟩
/-- exchanges the other way about -/
theorem back_go {F : List (List Int)} (h6 : ∀ l ∈ F, l ∈ L6) (hg : GoodH F) {A : List Int} (hA : A ∈ F) {t : Int} : ∀ (n : Nat) {B : List Int}, B ∈ F → (less B A).length = n + 1 → t ∈ less B A → ∃ C ∈ F, less C A = [t] ∧ (∀ x, x ∈ A → x ∉ C → x ∉ B)
  | 0, B, hB, hn, ht => by
    obtain ⟨x, hx⟩ := List.length_eq_one_iff.mp hn
    refine ⟨B, hB, ?_, fun x _ h => h⟩
    rw [hx, List.mem_singleton] at ht
    rw [hx, ht]
  | n + 1, B, hB, hn, ht => by
    obtain ⟨x, hx, hxt⟩ : ∃ x ∈ less B A, x ≠ t := by
      refine Classical.byContradiction fun z => ?_
      have : (less B A).length ≤ [t].length := sub_len ((nd6 (h6 B hB)).filter _) fun y hy => by
        rw [List.mem_singleton]
        exact Classical.byContradiction fun hne => z ⟨y, hy, hne⟩
      rw [List.length_singleton] at this
      omega
    have hgo := hg.2 B hB A hA x hx
    unfold goB at hgo
    obtain ⟨u, hu, hc⟩ := List.any_eq_true.mp hgo
    have hc := List.contains_iff_mem.mp hc
    obtain ⟨hxB, hxA⟩ := less_iff.mp hx
    obtain ⟨huA, huB⟩ := less_iff.mp hu
    have hd6 := F_drp5 B (h6 B hB) x hxB
    have hu6 := mem6 (h6 A hA) huA
    have hmem : ∀ y, y ∈ ins (drp B x) u ↔ (y ∈ B ∧ y ≠ x) ∨ y = u := fun y => by rw [ins_mem hd6 hu6, drp_mem]
    have hl : (less (ins (drp B x) u) A).length = n + 1 := by
      have h1 : (less (ins (drp B x) u) A).length + 1 ≤ (less B A).length := by
        have := sub_len (l := x :: less (ins (drp B x) u) A) (m := less B A) (List.nodup_cons.mpr ⟨fun z => by
          obtain ⟨z1, z2⟩ := less_iff.mp z
          rcases (hmem x).mp z1 with ⟨_, q⟩ | q
          · exact q rfl
          · rw [q] at hxB; exact huB hxB, (nd6 (h6 _ hc)).filter _⟩) fun y hy => by
            rcases List.mem_cons.mp hy with rfl | hy
            · exact hx
            · obtain ⟨z1, z2⟩ := less_iff.mp hy
              rcases (hmem y).mp z1 with ⟨q, _⟩ | q
              · exact less_iff.mpr ⟨q, z2⟩
              · rw [q] at z2; exact absurd huA z2
        rw [List.length_cons] at this
        exact this
      have h2 : (less B A).length ≤ (less (ins (drp B x) u) A).length + 1 := by
        have := sub_len (l := less B A) (m := x :: less (ins (drp B x) u) A) ((nd6 (h6 B hB)).filter _) fun y hy => by
          obtain ⟨z1, z2⟩ := less_iff.mp hy
          by_cases e : y = x
          · rw [e]; exact List.mem_cons_self
          · exact List.mem_cons_of_mem _ (less_iff.mpr ⟨(hmem y).mpr (.inl ⟨z1, e⟩), z2⟩)
        rw [List.length_cons] at this
        exact this
      omega
    obtain ⟨ht1, ht2⟩ := less_iff.mp ht
    obtain ⟨C, hC, e, hout⟩ := back_go h6 hg hA n (B := ins (drp B x) u) hc hl (less_iff.mpr ⟨(hmem t).mpr (.inl ⟨ht1, fun z => hxt z.symm⟩), ht2⟩)
    refine ⟨C, hC, e, fun y hy hyC hyB => hout y hy hyC ((hmem y).mpr (.inl ⟨hyB, fun z => ?_⟩))⟩
    rw [z] at hy
    exact hxA hy
/-- a thing of the one full and not of the other goes into the other one, for some thing of it -/
theorem good_back {F : List (List Int)} (h6 : ∀ l ∈ F, l ∈ L6) (hg : GoodH F) {A B : List Int} (hA : A ∈ F) (hB : B ∈ F) {t : Int} (ht : t ∈ less B A) : ∃ y ∈ less A B, ins (drp A y) t ∈ F := by
  have hpos := List.length_pos_of_mem ht
  obtain ⟨C, hC, e, hout⟩ := back_go h6 hg hA ((less B A).length - 1) hB (by omega) ht
  have htC : t ∈ C ∧ t ∉ A := less_iff.mp (by rw [e]; exact List.mem_singleton.mpr rfl)
  have hCA : ∀ x, x ∈ C → x ≠ t → x ∈ A := fun x hx hne => Classical.byContradiction fun hn => by
    have : x ∈ less C A := less_iff.mpr ⟨hx, hn⟩
    rw [e, List.mem_singleton] at this
    exact hne this
  have hlen : A.length = C.length := by
    have h1 := hg.1 A hA C hC
    have h2 := hg.1 C hC A hA
    omega
  obtain ⟨y, hy, hyC⟩ : ∃ y ∈ A, y ∉ C := by
    refine Classical.byContradiction fun z => ?_
    have := sub_len (l := t :: A) (m := C) (List.nodup_cons.mpr ⟨htC.2, nd6 (h6 A hA)⟩) fun x hx => by
      rcases List.mem_cons.mp hx with rfl | hx
      · exact htC.1
      · exact Classical.byContradiction fun hn => z ⟨x, hx, hn⟩
    rw [List.length_cons] at this
    omega
  refine ⟨y, less_iff.mpr ⟨hy, hout y hy hyC⟩, ?_⟩
  have hd6 := F_drp5 A (h6 A hA) y hy
  have ht6 := mem6 (h6 C hC) htC.1
  have hc1 : ∀ x, x ∈ C → x ∈ ins (drp A y) t := fun x hx => by
    rw [ins_mem hd6 ht6, drp_mem]
    by_cases ex : x = t
    · exact .inr ex
    · exact .inl ⟨hCA x hx ex, fun z => by rw [z] at hx; exact hyC hx⟩
  have hp := ins_perm hd6 ht6 (fun z => htC.2 (drp_mem.mp z).1)
  have hl2 : (ins (drp A y) t).length = C.length := by
    rw [hp.length_eq, List.length_cons, ← hlen]
    have := (drp_perm (h6 A hA) hy).length_eq
    rw [List.length_cons] at this
    omega
  have hi6 : ins (drp A y) t ∈ L6 := (F_ins _ hd6 t ht6).2
  have : ins (drp A y) t = C := ext6 hi6 (h6 C hC) fun x => ⟨fun hx => Classical.byContradiction fun hn => by
    have := sub_len (l := x :: C) (m := ins (drp A y) t) (List.nodup_cons.mpr ⟨hn, nd6 (h6 C hC)⟩) fun z hz => by
      rcases List.mem_cons.mp hz with rfl | hz
      · exact hx
      · exact hc1 z hz
    rw [List.length_cons] at this
    omega, hc1 x⟩
  rw [this]
  exact hC
end K13
end
section
set_option maxHeartbeats 4000000
namespace K13
open PySem PySem.Spec PyProof.Rows L2 B
/-! W16: a def that makes lambdas. -/
theorem F_some : ∀ m ∈ List.range 7, ∀ k ∈ List.range (m + 1), ∃ l ∈ lotsOf ((m : Nat) : Int), l.length = k := by decide +kernel
theorem ints_of {T : Int → Prop} : ∀ {ds : List PyData}, (∀ d ∈ ds, ∃ n : Int, d = .int n ∧ T n) → ∃ ws : List Int, ds = ws.map PyData.int ∧ ∀ x ∈ ws, T x
  | [], _ => ⟨[], rfl, fun x hx => by cases hx⟩
  | d :: ds, h => by
    obtain ⟨ws, e, hw⟩ := ints_of (ds := ds) fun d hd => h d (List.mem_cons_of_mem _ hd)
    obtain ⟨n, rfl, hn⟩ := h d List.mem_cons_self
    refine ⟨n :: ws, by rw [e]; rfl, fun x hx => ?_⟩
    rcases List.mem_cons.mp hx with e | e
    · rw [e]; exact hn
    · exact hw x e
theorem rows_of {T : List Int → Prop} : ∀ {ds : List PyData}, (∀ d ∈ ds, ∃ r : List Int, d = intsD r ∧ T r) → ∃ rs : List (List Int), ds = rs.map intsD ∧ ∀ x ∈ rs, T x
  | [], _ => ⟨[], rfl, fun x hx => by cases hx⟩
  | d :: ds, h => by
    obtain ⟨ws, e, hw⟩ := rows_of (ds := ds) fun d hd => h d (List.mem_cons_of_mem _ hd)
    obtain ⟨n, rfl, hn⟩ := h d List.mem_cons_self
    refine ⟨n :: ws, by rw [e]; rfl, fun x hx => ?_⟩
    rcases List.mem_cons.mp hx with e | e
    · rw [e]; exact hn
    · exact hw x e
theorem noGen_put {M : Sto} (h : NoGen M) (p : Addr) (l : List B.G) : NoGen (put M p (.lst l)) := fun b φ e => by
  unfold B.put at e
  split at e
  · cases e
  · exact h b φ e
theorem L6_nn : ∀ l ∈ L6, ∀ t ∈ l, 0 ≤ t := by decide +kernel
theorem edges_of {T : Int × Int → Prop} : ∀ {ds : List PyData}, (∀ d ∈ ds, ∃ e : Int × Int, d = edgeD e ∧ T e) → ∃ es : List (Int × Int), ds = es.map edgeD ∧ ∀ e ∈ es, T e
  | [], _ => ⟨[], rfl, fun e he => by cases he⟩
  | d :: ds, h => by
    obtain ⟨ws, e, hw⟩ := edges_of (ds := ds) fun d hd => h d (List.mem_cons_of_mem _ hd)
    obtain ⟨n, rfl, hn⟩ := h d List.mem_cons_self
    refine ⟨n :: ws, by rw [e]; rfl, fun x hx => ?_⟩
    rcases List.mem_cons.mp hx with e | e
    · rw [e]; exact hn
    · exact hw x e
section
variable {P : Program} {w : World} {K : PySem.W.Frag} {mg : Str → Option Value} {base : Heap}
/-- the def stands in the globals, cd is its code object -/
def CodeAt (K : PySem.W.Frag) (mg : Str → Option Value) (d : He.DefD) (cd : Addr) : Prop := ∃ f fd, FunD K d.name d.qual d.params d.body d.scope [] [] f fd ∧ mg d.name = some (.ref f) ∧ fd.code = .ref cd
theorem okfC {d : He.DefD} {N ps : List Str} {k : Nat} {o : ON} {cd : Addr} (hF : CodeAt K mg d cd)
    (hb : ∀ (kV doc pm : Value) (an : Option Addr) (cdv ct : Value) (us : List Value), us.length = ps.length → bindArgs (PySem.W.fnOf d.name d.qual d.params d.body d.scope .none kV doc pm an cdv ct) ⟨us, []⟩ = pure (ps.zip us))
    (S : C8.scC N ps d.scope = true) (len : ∀ gs M Q, o gs M Q → gs.length = ps.length)
    (h : ∀ gs M Q, o gs M Q → DS ⟨P, w, K, mg, base, N, d.scope, k, fun _ => true, some (cd, d.qual ++ ".<locals>."), fun _ => True⟩ d.body (startG N gs) M (dRet Q)) : Fn P w K mg base (k + 1) d.name o := by
  obtain ⟨f, fd, F, hm, hc⟩ := hF
  have b := F.bindsN hb
  have kp := F.kp
  obtain ⟨oc, od, dV, kV, doc, pm, an, cdv, ct, osl, rfl, lk, hcd, h1, h2⟩ := F.ex
  obtain rfl : cdv = .ref cd := hc
  exact ⟨f, _, ps, fnG_of (cd := some (cd, d.qual ++ ".<locals>.")) lk hcd (C8.fnScope_by S) len (fun p z => by cases z; exact ⟨rfl, rfl⟩) h, hm, kp, b⟩
def o_plain (Pt : Addr) : ON := fun gs M Q => ∃ p l c most, gs = [.op (.ref p), .d (.int most)] ∧ M p = some (.lst l) ∧ PotL l c ∧ c + 1000 ≤ 900000 ∧ 0 ≤ most ∧ most ≤ 6 ∧ M Pt = some (.tab ("_law_plain_choice" ++ ".<locals>." ++ "<lambda>")) ∧ NoGen M ∧
  ∀ many fulls l', 0 ≤ many → many ≤ most → ChoiceI many fulls → PotL l' (c + 100) → Q (.d (.tuple [.int many, lotsD fulls])) (put M p (.lst l'))
theorem ok_plain (gl : Gl K mg) {cd Pt : Addr} (hF : CodeAt K mg d__law_plain_choice cd) (TB : LamX.TabB base mg cd Pt) : Fn P w K mg base 11 "_law_plain_choice" (o_plain Pt) := by
  refine okfC (d := d__law_plain_choice) (N := ["pot", "most", "many", "kind", "k", "high", "nodes", "person", "columns", "edges", "lists", "prime", "lot", "thing", "row"]) (ps := ["pot", "most"]) hF (fun _ _ _ _ _ _ us hl => match us, hl with | [_, _], _ => rfl) (by decide +kernel) (fun gs M Q ⟨_, _, _, _, e, _⟩ => by rw [e]; rfl) (fun gs M Q ⟨p, l, c, most, e, hp, hl, hc, h0, h5, hT, hN, q⟩ => ?_)
  subst e
  have hpt : p ≠ Pt := fun z => by rw [z, hT] at hp; cases hp
  have q' : ∀ (l0 : List B.G) many fulls l', 0 ≤ many → many ≤ most → ChoiceI many fulls → PotL l' (c + 100) → Q (.d (.tuple [.int many, lotsD fulls])) (put (put M p (.lst l0)) p (.lst l')) := fun l0 many fulls l' a b d e => by
    rw [put_put]
    exact q many fulls l' a b d e
  refine ds_cons (d1_par 2 3 (da_cons (de_call (ok_take gl) (da_cons (PD.de (pd_var 0) (da_cons (PD.de (pd_bin o_add (pd_var 1) pd_int ⟨_, _, rfl, rfl, rfl, rfl⟩) (da_nil ⟨p, l, c, most + 1, rfl, hp, hl, by omega, by omega, by omega, fun many l1 hm0 hm1 hl1 => ?_⟩))))))))
  refine da_cons (de_call (ok_take gl) (da_cons (PD.de (pd_var 0) (da_cons (PD.de pd_int (da_nil ⟨p, l1, c + 1, 5, rfl, put_same, hl1, by omega, by omega, by omega, fun kind l2 hk0 hk1 hl2 => ?_⟩))))))
  rw [put_put]
  refine da_nil ⟨_, _, rfl, ?_⟩
  refine ds_cons (d1_ifB (k := decide (kind = 0)) (pb_cmp o_eq (pd_var 3) pd_int ⟨_, _, .d _, .d _, pl_int _, pl_int _, by rw [eqv_int], rfl⟩) (fun hz => ?_) (fun hz => ?_))
  · refine ds_cons (d1_set 4 (de_call (ok_take gl) (da_cons (PD.de (pd_var 0) (da_cons (PD.de (pd_bin o_add (pd_var 2) pd_int ⟨_, _, rfl, rfl, rfl, rfl⟩) (da_nil ⟨p, l2, c + 1 + 1, many + 1, rfl, put_same, hl2, by omega, by omega, by omega, fun k l3 hk0 hk1 hl3 => ?_⟩)))))))
    obtain ⟨m, rfl⟩ : ∃ m : Nat, many = (m : Nat) := ⟨many.toNat, by omega⟩
    obtain ⟨kn, rfl⟩ : ∃ kn : Nat, k = (kn : Nat) := ⟨k.toNat, by omega⟩
    obtain ⟨F1, F2, F3, F4, _⟩ := F_lots m (by rw [List.mem_range]; omega)
    obtain ⟨fl, efl⟩ : ∃ fl, (lotsOf ((m : Nat) : Int)).filter (fun l => decide (((l.length : Nat) : Int) = ((kn : Nat) : Int))) = fl := ⟨_, rfl⟩
    have cho : ChoiceOk ((m : Nat) : Int) fl := by
      subst efl
      refine ⟨fun z => ?_, fun l hl => F1 l (List.mem_filter.mp hl).1, F2.filter _, fun a ha b hb => ?_, great_good (matJ_len kn) (many := ((m : Nat) : Int)) (mx := kn) fun l => ?_⟩
      · obtain ⟨l, hl, e⟩ := F_some m (by rw [List.mem_range]; omega) kn (by rw [List.mem_range]; omega)
        have : l ∈ (lotsOf ((m : Nat) : Int)).filter (fun l => decide (((l.length : Nat) : Int) = ((kn : Nat) : Int))) := List.mem_filter.mpr ⟨hl, by simp [e]⟩
        rw [z] at this
        cases this
      · have h1 := (List.mem_filter.mp ha).2
        have h2 := (List.mem_filter.mp hb).2
        rw [decide_eq_true_eq] at h1 h2
        omega
      · rw [List.mem_filter, decide_eq_true_eq]
        constructor
        · rintro ⟨h1, h2⟩
          exact ⟨(F1 l h1).1, (F1 l h1).2, by omega, by omega⟩
        · rintro ⟨h1, h2, h3, h4⟩
          exact ⟨F_lots_in m (by rw [List.mem_range]; omega) l h1 h2, by omega⟩
    have hfl5 : ∀ l ∈ fl, l ∈ L6 := fun l hl => (cho.mem l hl).1
    have hfll : fl.length ≤ 64 := by rw [← efl]; exact Nat.le_trans (List.length_filter_le _ _) F4
    refine ds_cons (d1_ret (PD.de (pd_tup (ds := [.int ((m : Nat) : Int), lotsD (sortLots fl)]) (.cons (pd_callT o_int1 (n_int gl) rfl (da1 (pd_var 2)) (.inl ⟨_, rfl, rfl, rfl⟩)) (da1 (pd_tup1 (n_tuple gl) (PD.to (pd_sorted (n_sorted gl) (pd_filc [("lot", 12)] (fun l : List Int => B.G.d (lotD l)) (lotsOf ((m : Nat) : Int)) (fun l => decide (((l.length : Nat) : Int) = ((kn : Nat) : Int))) (fun l => lotD l) (pit_list (ds := (lotsOf ((m : Nat) : Int)).map lotD) (pd_call (ok_lots gl) (da1 (pd_var 2)) ⟨((m : Nat) : Int), rfl, by omega, by omega, rfl, rfl⟩) (.d _)) (by rw [List.map_map]; rfl) (by show _ ≤ 16777216; omega)
      fun M' e l hl => dc_name 12 ⟨rfl, pb_cmp o_eq (pd_len (n_len gl) (pd_var 12) (.t _)) (pd_var 4) ⟨_, _, .d _, .d _, pl_int _, pl_int _, by rw [eqv_int, List.length_map], rfl⟩, fun _ => pd_var 12⟩) (.l (.d _)) (by rw [efl]; exact canSort_lots cho.eqn cho.nd) (by rw [efl, List.length_map]; show _ ≤ 16777216; omega)) (by rw [efl, sortD_lots hfl5])))))) ?_))
    rw [put_put]
    exact q _ _ _ (by omega) (by omega) cho.sorted (hl3.up (by omega))
  refine ds_nil ?_
  refine ds_cons (d1_ifB (k := ([1, 2] : List Int).contains kind) (PB.to (pb_cmp o_in (pd_var 3) (pd_tup (ds := [.int 1, .int 2]) (.cons pd_int (da1 pd_int))) ⟨_, _, .d _, .t _, pl_int _, plA_ints [1, 2], rfl, rfl⟩) (isIn_ints kind [1, 2])) (fun hz2 => ?_) (fun hz2 => ?_))
  · refine ds_cons (d1_asgT (n := 2) (da_cons (de_call (ok_of gl) (da_cons (PD.de (pd_var 0) (da_cons (PD.de (pd_list (ds := [.int 2, .int 2, .int 3, .int 5]) (.cons pd_int (.cons pd_int (.cons pd_int (da1 pd_int)))) (Nat.le_of_ble_eq_true rfl)) (da_nil ⟨p, l2, c + 1 + 1, _, [.int 2, .int 2, .int 3, .int 5], rfl, .l (.d _), (fun z => nomatch z), Nat.le_of_ble_eq_true rfl, put_same, hl2, by omega, fun _ => .l (.d _), fun d hd l3 hl3 => ?_⟩))))))))
    obtain ⟨pr, rfl, hpr⟩ : ∃ u : Int, d = .int u ∧ (u = 2 ∨ u = 3 ∨ u = 5) := by
      simp only [List.mem_cons, List.not_mem_nil, or_false] at hd
      rcases hd with h | h | h | h <;> exact ⟨_, h, by omega⟩
    rw [put_put]
    refine da_cons (de_bin o_add (PD.de pd_int (de_call (ok_take gl) (da_cons (PD.de (pd_var 0) (da_cons (PD.de pd_int (da_nil ⟨p, l3, c + 1 + 1 + 1, 4, rfl, put_same, hl3, by omega, by omega, by omega, fun hi l4 hh0 hh1 hl4 => ?_⟩))))))))
    rw [put_put]
    refine ⟨_, _, rfl, rfl, da_nil ⟨rfl, Nat.le_of_ble_eq_true rfl, dgs_cons (dg_name 11 (dgs_cons (dg_name 5 (dgs_nil ?_))))⟩⟩
    have hi0 : 0 ≤ (fun i j : Int => i + j) 1 hi ∧ (fun i j : Int => i + j) 1 hi ≤ 4 := by
      show 0 ≤ 1 + hi ∧ 1 + hi ≤ 4
      omega
    generalize (fun i j : Int => i + j) 1 hi = high at hi0 ⊢
    refine ds_cons (d1_set 8 (de_lc (own := [("thing", 13)]) (lcP_eff (fun i l => PotL l (c + 4 + 4 * i)) (fun (_ : Nat) d => ∃ r : List Int, d = intsD r ∧ r.length = high.toNat ∧ ∀ x ∈ r, 0 ≤ x ∧ x < pr) p l4 (fun i : Nat => B.G.d (.int (0 + (i : Nat)))) (List.range many.toNat) put_same (hl4.up (by omega)) (pitx_range1 (n_range gl) (pd_var 2) ⟨by omega, by omega⟩) rfl ?_ ?_ ?_) (blkOk_by (by kernel_rfl))))
    · rw [List.length_range]; show _ ≤ 16777216; omega
    · intro i M' l5 hi _ hp5 hS x ex
      rw [List.length_range] at hi
      refine dc_name 13 ⟨rfl, de_lc (own := [("row", 14)]) (lcP_eff (fun j l => PotL l (c + 4 + 4 * i + j)) (fun (_ : Nat) d => ∃ n : Int, d = .int n ∧ 0 ≤ n ∧ n < pr) p l5 (fun i : Nat => B.G.d (.int (0 + (i : Nat)))) (List.range high.toNat) hp5 (hS.up (by omega)) (pitx_range1 (n_range gl) (pd_var 5) ⟨by omega, by omega⟩) rfl ?_ ?_ ?_) (blkOk_by (by kernel_rfl))⟩
      · rw [List.length_range]; show _ ≤ 16777216; omega
      · intro j M2 l6 hj _ hp6 hS6 x2 ex2
        rw [List.length_range] at hj
        exact dc_name 14 ⟨rfl, de_call (ok_take gl) (da_cons (PD.de (pd_var 0) (da_cons (PD.de (pd_var 11) (da_nil ⟨p, l6, c + 4 + 4 * i + j, pr, rfl, hp6, hS6, by omega, by omega, by omega, fun d l7 hd0 hd1 hl7 => ⟨_, l7, rfl, ⟨d, rfl, hd0, hd1⟩, hl7.up (by omega), rfl⟩⟩)))))⟩
      · intro ds l6 hl6 hR hS6
        rw [List.length_range] at hl6 hS6
        obtain ⟨r, rfl, hr⟩ := ints_of (T := fun n => 0 ≤ n ∧ n < pr) (fun d hd => (hR d hd).choose_spec.2)
        rw [List.length_map] at hl6
        exact .frz ⟨_, l6, rfl, ⟨r, rfl, hl6, hr⟩, hS6.up (by omega), rfl⟩
    · intro ds l5 hl5 hR hS
      rw [List.length_range] at hl5 hS
      obtain ⟨cols, rfl, hcols⟩ := rows_of (T := fun r => r.length = high.toNat ∧ ∀ x ∈ r, 0 ≤ x ∧ x < pr) (fun d hd => (hR d hd).choose_spec.2)
      rw [List.length_map] at hl5
      rw [put_put]
      refine .frz (ds_cons (d1_ret (de_callLam ["lot", "columns", "prime", "thing"] ["lot"] ["columns", "prime"] [8, 11] (kl := 8) (po := o_taken (fun X => IndP pr high.toNat (X.map fun t => vc (cols.getD t.toNat []))) many) (ok_greatest gl) rfl TB (by rw [put_ne (Ne.symm hpt)]; exact hT) (noGen_put hN p l5) ?_ ?_ (fun _ _ _ _ us hl => match us, hl with | [_], _ => rfl))))
      · exact PD.de (pd_callT o_int1 (n_int gl) rfl (da1 (pd_var 2)) (.inl ⟨many, rfl, rfl, rfl⟩)) ⟨rfl, fun f hf => ⟨many, f, _, matJ_lin (by rcases hpr with rfl | rfl | rfl; exact pri2; exact pri3; exact pri5) _ fun t => vc (cols.getD t.toNat []), rfl, put_same, by omega, by omega, fun fulls hfu => ⟨rfl, q many fulls l5 (by omega) (by omega) hfu (hS.up (by omega))⟩⟩⟩
      · rintro gs R ⟨l, hl5', hlt, rfl, hR⟩
        refine ⟨rfl, ?_⟩
        have hl0 := L6_nn l hl5'
        have hlen := F_len l hl5'
        have hcol : ∀ t ∈ l, ∃ r, cols[t.toNat]? = some r ∧ r ∈ cols ∧ ((t.toNat : Nat) : Int) = t := fun t ht => by
          have h1 := hlt t ht
          have h2 := hl0 t ht
          have h3 : t.toNat < cols.length := by omega
          exact ⟨cols[t.toNat], List.getElem?_eq_getElem h3, List.getElem_mem h3, by omega⟩
        refine de_call (ok_apart gl) (da_cons (PD.de (pd_mapc [("thing", 3)] (fun t : Int => B.G.d (.int t)) l (fun t => intsD (cols.getD t.toNat [])) (pit_tup (ds := l.map PyData.int) (pd_var 0)) (by rw [List.map_map]; rfl) (by show _ ≤ 16777216; omega) fun M' e t ht => ?_) (da_cons (PD.de (pd_var 2) (da_nil ⟨l.map fun t => cols.getD t.toNat [], pr, high.toNat, ?_, hpr, ?_, by omega, ?_, fun b hb => hR b (hb.trans (by rw [List.map_map]; exact Iff.rfl))⟩)))))
        · obtain ⟨r, e1, e2, e3⟩ := hcol t ht
          refine dc_name 3 ⟨rfl, pd_atL (pd_var 1) (.d _) (pd_var 3) ?_⟩
          rw [← e3, List.getD_eq_getElem?_getD]
          show _ = some (intsD (cols[t.toNat]?.getD []))
          rw [e1]
          exact at_rows e1
        · unfold rowsD
          rw [List.map_map]
          rfl
        · rw [List.length_map]; omega
        · intro r hr
          obtain ⟨t, ht, rfl⟩ := List.mem_map.mp hr
          obtain ⟨r, e1, e2, e3⟩ := hcol t ht
          show (cols.getD t.toNat []).length = _ ∧ _
          rw [List.getD_eq_getElem?_getD, e1]
          exact hcols r e2
  refine ds_nil ?_
  refine ds_cons (d1_ifB (k := decide (kind = 3)) (pb_cmp o_eq (pd_var 3) pd_int ⟨_, _, .d _, .d _, pl_int _, pl_int _, by rw [eqv_int], rfl⟩) (fun hz3 => ?_) (fun hz3 => ?_))
  · refine ds_cons (d1_set 6 (de_bin o_add (PD.de pd_int (de_call (ok_take gl) (da_cons (PD.de (pd_var 0) (da_cons (PD.de pd_int (da_nil ⟨p, l2, c + 1 + 1, 5, rfl, put_same, hl2, by omega, by omega, by omega, fun no l3 hh0 hh1 hl3 => ?_⟩)))))))))
    rw [put_put]
    refine ⟨_, _, rfl, rfl, ?_⟩
    have hi0 : 0 < (fun i j : Int => i + j) 1 no ∧ (fun i j : Int => i + j) 1 no ≤ 6 := by
      show 0 < 1 + no ∧ 1 + no ≤ 6
      omega
    generalize (fun i j : Int => i + j) 1 no = nodes at hi0 ⊢
    refine ds_cons (d1_set 9 (de_lc (own := [("thing", 13)]) (lcP_eff (fun i l => PotL l (c + 3 + 2 * i)) (fun (_ : Nat) d => ∃ e : Int × Int, d = edgeD e ∧ 0 ≤ e.1 ∧ e.1 < ((nodes.toNat : Nat) : Int) ∧ 0 ≤ e.2 ∧ e.2 < ((nodes.toNat : Nat) : Int)) p l3 (fun i : Nat => B.G.d (.int (0 + (i : Nat)))) (List.range many.toNat) put_same (hl3.up (by omega)) (pitx_range1 (n_range gl) (pd_var 2) ⟨by omega, by omega⟩) rfl ?_ ?_ ?_) (blkOk_by (by kernel_rfl))))
    · rw [List.length_range]; show _ ≤ 16777216; omega
    · intro i M' l5 hi _ hp5 hS x ex
      rw [List.length_range] at hi
      refine dc_name 13 ⟨rfl, de_tup (da_cons (de_call (ok_take gl) (da_cons (PD.de (pd_var 0) (da_cons (PD.de (pd_var 6) (da_nil ⟨p, l5, c + 3 + 2 * i, nodes, rfl, hp5, hS, by omega, by omega, by omega, fun d l6 hd0 hd1 hl6 => ?_⟩)))))))⟩
      refine da_cons (de_call (ok_take gl) (da_cons (PD.de (pd_var 0) (da_cons (PD.de (pd_var 6) (da_nil ⟨p, l6, c + 3 + 2 * i + 1, nodes, rfl, put_same, hl6, by omega, by omega, by omega, fun d2 l7 hd20 hd21 hl7 => da_nil ⟨[.int d, .int d2], rfl, Nat.le_of_ble_eq_true rfl, _, l7, rfl, ⟨(d, d2), rfl, hd0, by show d < _; omega, hd20, by show d2 < _; omega⟩, hl7.up (by omega), ?_⟩⟩))))))
      rw [put_put]
    · intro ds l5 hl5 hR hS
      rw [List.length_range] at hl5 hS
      obtain ⟨es, rfl, hes⟩ := edges_of (T := fun e => 0 ≤ e.1 ∧ e.1 < ((nodes.toNat : Nat) : Int) ∧ 0 ≤ e.2 ∧ e.2 < ((nodes.toNat : Nat) : Int)) (fun d hd => (hR d hd).choose_spec.2)
      rw [List.length_map] at hl5
      rw [put_put]
      refine .frz (ds_cons (d1_ret (de_callLam ["lot", "edges", "thing"] ["lot"] ["edges"] [9] (kl := 8) (po := o_taken (fun X => IndP 2 nodes.toNat (X.map fun t => inc (es.getD t.toNat (0, 0)))) many) (ok_greatest gl) rfl TB (by rw [put_ne (Ne.symm hpt)]; exact hT) (noGen_put hN p l5) ?_ ?_ (fun _ _ _ _ us hl => match us, hl with | [_], _ => rfl))))
      · exact PD.de (pd_callT o_int1 (n_int gl) rfl (da1 (pd_var 2)) (.inl ⟨many, rfl, rfl, rfl⟩)) ⟨rfl, fun f hf => ⟨many, f, _, matJ_lin pri2 _ fun t => inc (es.getD t.toNat (0, 0)), rfl, put_same, by omega, by omega, fun fulls hfu => ⟨rfl, q many fulls l5 (by omega) (by omega) hfu (hS.up (by omega))⟩⟩⟩
      · rintro gs R ⟨l, hl5', hlt, rfl, hR⟩
        refine ⟨rfl, ?_⟩
        have hl0 := L6_nn l hl5'
        have hlen := F_len l hl5'
        refine de_notV (de_call (ok_ring gl) (da_cons (PD.de (pd_mapc [("thing", 2)] (fun t : Int => B.G.d (.int t)) l (fun t => edgeD (es.getD t.toNat (0, 0))) (pit_tup (ds := l.map PyData.int) (pd_var 0)) (by rw [List.map_map]; rfl) (by show _ ≤ 16777216; omega) fun M' e t ht => ?_) (da_nil ⟨l.map fun t => es.getD t.toNat (0, 0), nodes.toNat, ?_, ?_, ?_, fun b hb => ⟨b, rfl, hR _ ?_⟩⟩))))
        · have h1 := hlt t ht
          have h2 := hl0 t ht
          have h3 : t.toNat < es.length := by omega
          have e3 : ((t.toNat : Nat) : Int) = t := by omega
          refine dc_name 2 ⟨rfl, pd_atL (pd_var 1) (.d _) (pd_var 2) ?_⟩
          rw [← e3, List.getD_eq_getElem?_getD]
          show _ = some (edgeD (es[t.toNat]?.getD (0, 0)))
          rw [List.getElem?_eq_getElem h3]
          exact B.atI_nat (by rw [List.getElem?_map, List.getElem?_eq_getElem h3]; rfl)
        · unfold edgesD
          rw [List.map_map]
          rfl
        · rw [List.length_map]; omega
        · intro e he
          obtain ⟨t, ht, rfl⟩ := List.mem_map.mp he
          have h1 := hlt t ht
          have h2 := hl0 t ht
          have h3 : t.toNat < es.length := by omega
          refine hes _ ?_
          rw [List.getD_eq_getElem?_getD, List.getElem?_eq_getElem h3]
          exact List.getElem_mem h3
        · rw [List.map_map] at hb
          show _ ↔ IndP 2 nodes.toNat (l.map fun t => inc (es.getD t.toNat (0, 0)))
          have hb' : b = true ↔ ¬ IndP 2 nodes.toNat (l.map fun t => inc (es.getD t.toNat (0, 0))) := hb
          cases b with
          | true => exact ⟨(fun z => nomatch z), fun z => absurd z (hb'.mp rfl)⟩
          | false => exact ⟨fun _ => Classical.byContradiction fun z => (by have := hb'.mpr z; cases this), fun _ => rfl⟩
  refine ds_nil ?_
  refine ds_cons (d1_set 10 (de_listM (da_nil ⟨Nat.le_of_ble_eq_true rfl, fun b hb => ?_⟩)))
  have hpb : p ≠ b := ne_free put_same hb
  have hbM : M b = none := by rw [put_ne (Ne.symm hpb)] at hb; exact hb
  refine ds_cons (d1_for (di_range1 (n_range gl) (de_call (ok_take gl) (da_cons (PD.de (pd_var 0) (da_cons (PD.de pd_int (da_nil ⟨p, l2, c + 1 + 1, 5, rfl, by rw [put_ne hpb]; exact put_same, hl2, by omega, by omega, by omega, fun n l3 hn0 hn1 hl3 => ?_⟩))))))))
  rw [put_put_ne hpb]
  refine ⟨n, rfl, by omega, by omega, fun i ρ M' => ∃ (l' : List B.G) (ls : List (List Int)) (x7 : Option B.G), M' = put (put M p (.lst l')) b (.lst ((ls.map lotD).map B.G.d)) ∧ PotL l' (c + 3 + 6 * i) ∧ ls.length = i ∧
    ρ = [some (.op (.ref p)), some (.d (.int most)), some (.d (.int many)), some (.d (.int kind)), none, none, none, x7, none, none, some (.op (.ref b)), none, none, none, none], ⟨l3, [], _, rfl, hl3.up (by omega), rfl, rfl⟩, fun _ _ _ _ _ => trivial, ?_, ?_⟩
  · rintro i g ρ M' eg ⟨l', ls, x7, rfl, hl', hls, rfl⟩
    obtain ⟨hi, rfl⟩ := rangeG_get eg
    refine dg_name 7 (ds_cons (d1_expr (de_append (PD.de (pd_var 10) ⟨b, _, rfl, put_same, de_callT o_tuple (n_tuple gl) rfl (da_cons (de_lc (own := [("thing", 13)]) (lcP_effT (fun j l => PotL l (c + 3 + 6 * i + j)) (fun j : Nat => .int (0 + (j : Nat))) p l' (fun i : Nat => B.G.d (.int (0 + (i : Nat)))) (List.range many.toNat) (by rw [put_ne hpb]; exact put_same) (hl'.up (by omega)) (pitx_range1 (n_range gl) (pd_var 2) ⟨by omega, by omega⟩) rfl ?_ ?_ ?_) (blkOk_by (by kernel_rfl))))⟩))))
    · rw [List.length_range]; show _ ≤ 16777216; omega
    · intro j M2 l6 hj _ hp6 hS6 x2 ex2
      rw [List.length_range] at hj
      exact dc_name 13 ⟨rfl, dt_cmp o_eq (de_call (ok_take gl) (da_cons (PD.de (pd_var 0) (da_cons (PD.de pd_int (da_nil ⟨p, l6, c + 3 + 6 * i + j, 2, rfl, hp6, hS6, by omega, by omega, by omega, fun d l7 hd0 hd1 hl7 => PD.de pd_int ⟨_, _, .d _, .d _, pl_int _, pl_int _, _, rfl, l7, hl7.up (by omega), rfl, pd_var 13⟩⟩))))))⟩
    · intro ys l6 hys hS6
      rw [List.length_range] at hS6
      have hyl : ys.length ≤ 6 := by
        have := hys.length_le
        rw [List.length_range] at this
        omega
      refine .frz (da_nil ⟨_, ys.map (fun j : Nat => PyData.int (0 + (j : Nat))), rfl, .l (.d _), _, by rw [put_ne (Ne.symm hpb)]; exact put_same, ?_, ?_⟩)
      · rw [List.length_map, List.length_map, hls]; show _ < 16777216; omega
      · refine ds_nil ⟨l6, ls ++ [ys.map fun j : Nat => 0 + ((j : Nat) : Int)], _, ?_, hS6.up (by omega), by rw [List.length_append, hls]; rfl, rfl⟩
        rw [put_put_ne hpb, put_put, List.map_append, List.map_append]
        congr 4
        unfold lotD
        rw [List.map_map]
        rfl
  · rintro ρ M' ⟨l', ls, x7, rfl, hl', hls, rfl⟩
    rw [rangeG_length] at hl' hls
    refine ds_frz 10 (a := b) (ds := ls.map lotD) put_same rfl ?_
    rw [del_put (by rw [put_ne (Ne.symm hpb)]; exact hbM)]
    refine ds_cons (d1_ret (de_callLam ["lot", "lists"] ["lot"] ["lists"] [10] (kl := 8) (po := o_taken (JW ls) many) (ok_greatest gl) rfl TB (by rw [put_ne (Ne.symm hpt)]; exact hT) (noGen_put hN p l') ?_ ?_ (fun _ _ _ _ us hl => match us, hl with | [_], _ => rfl)))
    · exact PD.de (pd_callT o_int1 (n_int gl) rfl (da1 (pd_var 2)) (.inl ⟨many, rfl, rfl, rfl⟩)) ⟨rfl, fun f hf => ⟨many, f, _, matJ_wishes ls, rfl, put_same, by omega, by omega, fun fulls hfu => ⟨rfl, q many fulls l' (by omega) (by omega) hfu (hl'.up (by omega))⟩⟩⟩
    · rintro gs R ⟨l, hl5', hlt, rfl, hR⟩
      have hlen := F_len l hl5'
      exact ⟨rfl, de_call (ok_given gl l.length) (da_cons (PD.de (pd_var 0) (da_cons (PD.de (pd_var 1) (da_nil ⟨l, ls, rfl, rfl, hlen, by omega, nd6 hl5', fun b hb => hR b hb⟩))))) (hk := by show l.length + 1 ≤ 8; omega)⟩
end
end K13
end
section
set_option maxHeartbeats 4000000
namespace K13
open PySem PySem.Spec PyProof.Rows L2 B
/-! GT: the tables of the code objects of lambdas. -/
def tabsL (a1 : Addr) : List (Addr × Str) := [(a1, "_law_plain_choice" ++ ".<locals>." ++ "<lambda>")]
structure Tabs (a1 : Addr) (M : Sto) : Prop where
  t1 : M a1 = some (.tab ("_law_plain_choice" ++ ".<locals>." ++ "<lambda>"))
  ng : NoGen M
def NoTab (o : Option MO) : Prop := ∀ q, o ≠ some (.tab q)
theorem noTab_lst {o : Option MO} {l : List B.G} (h : o = some (.lst l)) : NoTab o := fun q e => by rw [h] at e; cases e
theorem Tabs.put {a1 p : Addr} {M : Sto} (h : Tabs a1 M) (l : List B.G) (k : NoTab (M p)) : Tabs a1 (put M p (.lst l)) := by
  have ne : ∀ {b q}, M b = some (.tab q) → b ≠ p := fun {b q} e z => k q (by rw [← z]; exact e)
  exact ⟨by rw [put_ne (ne h.t1)]; exact h.t1, noGen_put h.ng _ _⟩
theorem Tabs.new {a1 p : Addr} {M : Sto} (h : Tabs a1 M) (l : List B.G) (k : M p = none) : Tabs a1 (B.put M p (.lst l)) := h.put l fun q e => by rw [k] at e; cases e
theorem Tabs.of {a1 : Addr} {M : Sto} (h : TabsIn (tabsL a1) M) (n : NoGen M) : Tabs a1 M := ⟨h.at (by unfold tabsL; simp), n⟩
def o_right (a1 : Addr) : ON := fun gs M Q => ∃ p l, gs = [.op (.ref p)] ∧ M p = some (.lst l) ∧ PotL l 0 ∧ Tabs a1 M ∧ ∀ l', Q (.d (.bool true)) (put M p (.lst l'))
end K13
end
section
set_option maxHeartbeats 4000000
namespace K13
open PySem PySem.Spec PyProof.Rows L2 B
/-! W17: the dual; choices drawn. -/
def dualL (m : Nat) (l : List Int) : List Int := (rangeI m).filter fun t => !l.contains t
theorem F_dual : ∀ m ∈ List.range 7, ∀ l ∈ L6, (∀ t ∈ l, t < ((m : Nat) : Int)) → dualL m l ∈ L6 ∧ (∀ t ∈ dualL m l, t < ((m : Nat) : Int)) ∧ (dualL m l).length + l.length = m ∧ dualL m (dualL m l) = l := by decide +kernel
theorem nodup_map_on {α β : Type} {f : α → β} : ∀ {l : List α}, (∀ a ∈ l, ∀ b ∈ l, f a = f b → a = b) → l.Nodup → (l.map f).Nodup
  | [], _, _ => List.nodup_nil
  | x :: l, h, n => by
    obtain ⟨n1, n2⟩ := List.nodup_cons.mp n
    rw [List.map_cons]
    refine List.nodup_cons.mpr ⟨fun hx => ?_, nodup_map_on (fun a ha b hb => h a (List.mem_cons_of_mem _ ha) b (List.mem_cons_of_mem _ hb)) n2⟩
    obtain ⟨y, hy, e⟩ := List.mem_map.mp hx
    have := h x List.mem_cons_self y (List.mem_cons_of_mem _ hy) e.symm
    rw [← this] at hy
    exact n1 hy
theorem ChoiceOk.dual {m : Nat} {fs : List (List Int)} (hm : m ≤ 6) (h : ChoiceOk ((m : Nat) : Int) fs) : ChoiceOk ((m : Nat) : Int) (fs.map (dualL m)) := by
  have F : ∀ l ∈ fs, _ := fun l hl => F_dual m (by rw [List.mem_range]; omega) l (h.mem l hl).1 (h.mem l hl).2
  have hlen : ∀ a ∈ fs.map (dualL m), ∀ b ∈ fs.map (dualL m), a.length = b.length := fun a ha b hb => by
    obtain ⟨x, hx, rfl⟩ := List.mem_map.mp ha
    obtain ⟨y, hy, rfl⟩ := List.mem_map.mp hb
    have := h.eqn x hx y hy
    have h1 := (F x hx).2.2.1
    have h2 := (F y hy).2.2.1
    omega
  refine ⟨fun z => h.ne (List.map_eq_nil_iff.mp z), fun l hl => ?_, nodup_map_on (fun a ha b hb e => ?_) h.nd, hlen, fun a ha b hb => by rw [hlen a ha b hb]; exact Nat.lt_irrefl _, fun a ha b hb t ht => ?_⟩
  · obtain ⟨x, hx, rfl⟩ := List.mem_map.mp hl
    exact ⟨(F x hx).1, (F x hx).2.1⟩
  · rw [← (F a ha).2.2.2, e, (F b hb).2.2.2]
  · obtain ⟨x, hx, rfl⟩ := List.mem_map.mp ha
    obtain ⟨y, hy, rfl⟩ := List.mem_map.mp hb
    have dm : ∀ (l : List Int) u, u ∈ dualL m l ↔ u ∈ rangeI m ∧ u ∉ l := fun l u => by
      unfold dualL
      rw [List.mem_filter]
      simp
    have rm : ∀ u, u ∈ rangeI m ↔ 0 ≤ u ∧ u < (m : Int) := fun u => by
      unfold rangeI
      rw [List.mem_map]
      constructor
      · rintro ⟨k, hk, rfl⟩
        rw [List.mem_range] at hk
        show 0 ≤ (k : Int) ∧ (k : Int) < _
        omega
      · rintro ⟨h1, h2⟩
        exact ⟨u.toNat, by rw [List.mem_range]; omega, by show ((u.toNat : Nat) : Int) = u; omega⟩
    obtain ⟨t1, t2⟩ := less_iff.mp ht
    have ht0 := ((dm _ _).mp t1).1
    have hty : t ∈ y := Classical.byContradiction fun z => t2 ((dm _ _).mpr ⟨ht0, z⟩)
    have htx : t ∉ x := ((dm _ _).mp t1).2
    obtain ⟨u, hu, hin⟩ := good_back (fun l hl => (h.mem l hl).1) h.good hx hy (less_iff.mpr ⟨hty, htx⟩)
    obtain ⟨hux, huy⟩ := less_iff.mp hu
    have hx6 := (h.mem x hx).1
    have hu0 : u ∈ rangeI m := (rm u).mpr ⟨((L6_pw x hx6).2 u hux).1, (h.mem x hx).2 u hux⟩
    unfold goB
    refine List.any_eq_true.mpr ⟨u, less_iff.mpr ⟨(dm _ _).mpr ⟨hu0, huy⟩, fun z => ((dm _ _).mp z).2 hux⟩, List.contains_iff_mem.mpr (List.mem_map.mpr ⟨_, hin, ?_⟩)⟩
    have hd6 := F_drp5 x hx6 u hux
    have ht6 := mem6 (h.mem y hy).1 hty
    have hdx6 := (F x hx).1
    have hdd6 := F_drp5 (dualL m x) hdx6 t t1
    have hu6 := mem6 hx6 hux
    refine ext6 (F _ hin).1 (F_ins _ hdd6 u hu6).2 fun v => ?_
    rw [dm, ins_mem hd6 ht6, drp_mem, ins_mem hdd6 hu6, drp_mem, dm]
    constructor
    · rintro ⟨h1, h2⟩
      by_cases e : v = u
      · exact .inr e
      · exact .inl ⟨⟨h1, fun z => h2 (.inl ⟨z, e⟩)⟩, fun z => h2 (.inr z)⟩
    · rintro (⟨⟨h1, h2⟩, h3⟩ | e)
      · exact ⟨h1, fun z => by
          rcases z with ⟨z, _⟩ | z
          · exact h2 z
          · exact h3 z⟩
      · rw [e]
        exact ⟨hu0, fun z => by
          rcases z with ⟨_, z⟩ | z
          · exact z rfl
          · rw [z] at hux; exact htx hux⟩
theorem nodup_sub_len {α : Type} [DecidableEq α] : ∀ {l m : List α}, l.Nodup → (∀ x ∈ l, x ∈ m) → l.length ≤ m.length
  | [], _, _, _ => Nat.zero_le _
  | x :: l, m, n, h => by
    obtain ⟨n1, n2⟩ := List.nodup_cons.mp n
    have hx := h x List.mem_cons_self
    have := nodup_sub_len (l := l) (m := m.erase x) n2 fun y hy => by
      have : y ≠ x := fun e => n1 (e ▸ hy)
      exact (List.mem_erase_of_ne this).mpr (h y (List.mem_cons_of_mem _ hy))
    rw [List.length_erase_of_mem hx] at this
    have hp : 0 < m.length := List.length_pos_of_mem hx
    rw [List.length_cons]
    omega
theorem F_same : ∀ k ∈ List.range 7, (L6.filter fun l => l.length == k).length ≤ 32 := by decide +kernel
theorem ChoiceOk.len {m : Int} {fs : List (List Int)} (h : ChoiceOk m fs) : fs.length ≤ 32 := by
  cases hf : fs with
  | nil => simp
  | cons a r =>
    rw [← hf]
    have ha : a ∈ fs := by rw [hf]; exact List.mem_cons_self
    have hk := F_len a (h.mem a ha).1
    have := nodup_sub_len (l := fs) (m := L6.filter fun l => l.length == a.length) h.nd fun l hl => List.mem_filter.mpr ⟨(h.mem l hl).1, by rw [h.eqn l hl a ha]; exact beq_self_eq_true _⟩
    exact Nat.le_trans this (F_same _ (by rw [List.mem_range]; omega))
section
variable {P : Program} {w : World} {K : PySem.W.Frag} {mg : Str → Option Value} {base : Heap}
def o_dual : ON := fun gs M Q => ∃ (m : Nat) (fs : List (List Int)), gs = [.d (.tuple [.int ((m : Nat) : Int), lotsD fs])] ∧ m ≤ 6 ∧ ChoiceOk ((m : Nat) : Int) fs ∧ ∀ fs', ChoiceI ((m : Nat) : Int) fs' → Q (.d (.tuple [.int ((m : Nat) : Int), lotsD fs'])) M
theorem ok_dual (gl : Gl K mg) : Fn P w K mg base 1 "_law_dual" o_dual := by
  refine okf (d := d__law_dual) (N := ["choice", "every", "full", "one"]) (ps := ["choice"]) gl 40 rfl (fun _ _ _ _ _ _ us hl => match us, hl with | [_], _ => rfl) (by decide +kernel) (fun gs M Q ⟨_, _, e, _⟩ => by rw [e]; rfl) (fun gs M Q ⟨m, fs, e, hm, ho, q⟩ => ?_)
  subst e
  have hlen := ho.len
  have hd := ho.dual hm
  have hd5 : ∀ l ∈ fs.map (dualL m), l ∈ L6 := fun l hl => (hd.mem l hl).1
  refine ds_cons (d1_set 1 (de_listRg (n_list gl) (n_range gl) (PD.de (pd_at (pd_var 0) pd_int rfl) ⟨((m : Nat) : Int), rfl, by omega, by omega, .frz ?_⟩)))
  rw [rangeD_ints]
  refine ds_cons (d1_ret (PD.de (pd_tup (ds := [.int ((m : Nat) : Int), lotsD (sortLots (fs.map (dualL m)))]) (.cons (pd_at (pd_var 0) pd_int rfl) (da1 (pd_tup1 (n_tuple gl) (PD.to (pd_sorted (ds := (fs.map (dualL m)).map lotD) (n_sorted gl) (PD.to (pd_mapc [("full", 2)] (fun l : List Int => B.G.d (lotD l)) fs (fun l => lotD (dualL m l)) (pit_tup (ds := fs.map lotD) (pd_at (pd_var 0) pd_int rfl)) (by rw [List.map_map]; rfl) (by show _ ≤ 16777216; omega) ?_) ?_) (.l (.d _)) (canSort_lots hd.eqn hd.nd) ?_) ?_))))) (q _ hd.sorted)))
  · intro M' e l hl
    have hll := F_len l (ho.mem l hl).1
    refine dc_name 2 ⟨rfl, PD.to (pd_tup1 (n_tuple gl) (pd_filc [("one", 3)] (fun t : Int => B.G.d (.int t)) (rangeI m) (fun t => !l.contains t) (fun t => .int t) (pit_list (ds := (rangeI m).map PyData.int) (pd_var 1) (.d _)) (by rw [List.map_map]; rfl) ?_ fun M2 e2 t ht => dc_name 3 ⟨rfl, pb_cmp o_notIn (pd_var 3) (pd_var 2) ⟨_, _, .d _, .t _, pl_int _, plA_ints l, ?_, rfl⟩, fun _ => pd_var 3⟩)) rfl⟩
    · unfold rangeI; rw [List.length_map, List.length_range]; show _ ≤ 16777216; omega
    · rw [isIn_ints]; rfl
  · rw [List.map_map]; rfl
  · rw [List.length_map, List.length_map]; show _ ≤ 16777216; omega
  · rw [sortD_lots hd5]
end
end K13
end
section
set_option maxHeartbeats 4000000
namespace K13
open PySem PySem.Spec PyProof.Rows L2 B
/-! W18: choices drawn. -/
def joinB (n : Int) (bs : List (List Int)) (a : List Int) : List (List Int) := bs.map fun m => a ++ m.map fun t => t + n
theorem join_mem {n1 n2 : Int} (h1 : 0 ≤ n1) (h2 : 0 ≤ n2) (h5 : n1 + n2 ≤ 6) {a b : List Int} (ha : a ∈ L6 ∧ ∀ t ∈ a, t < n1) (hb : b ∈ L6 ∧ ∀ t ∈ b, t < n2) : (a ++ b.map fun t => t + n1) ∈ L6 ∧ ∀ t ∈ (a ++ b.map fun t => t + n1), t < n1 + n2 := by
  obtain ⟨a1, a2⟩ := L6_pw a ha.1
  obtain ⟨b1, b2⟩ := L6_pw b hb.1
  have key : ∀ t ∈ (a ++ b.map fun t => t + n1), 0 ≤ t ∧ t < n1 + n2 := fun t ht => by
    rcases List.mem_append.mp ht with h | h
    · have := a2 t h
      have := ha.2 t h
      omega
    · obtain ⟨u, hu, rfl⟩ := List.mem_map.mp h
      have := b2 u hu
      have := hb.2 u hu
      omega
  refine ⟨L6_of (List.pairwise_append.mpr ⟨a1, List.pairwise_map.mpr (b1.imp fun h => by omega), fun x hx y hy => ?_⟩) fun t ht => ?_, fun t ht => (key t ht).2⟩
  · obtain ⟨u, hu, rfl⟩ := List.mem_map.mp hy
    have := b2 u hu
    have := ha.2 x hx
    omega
  · have := key t ht
    omega
theorem map_add_inj {n : Int} : ∀ {a b : List Int}, (a.map fun t => t + n) = (b.map fun t => t + n) → a = b
  | [], [], _ => rfl
  | [], _ :: _, h => by cases h
  | _ :: _, [], h => by cases h
  | x :: a, y :: b, h => by
    rw [List.map_cons, List.map_cons] at h
    injection h with h1 h2
    rw [map_add_inj h2, show x = y by omega]
theorem ChoiceOk.join {n1 n2 : Int} (h1 : 0 ≤ n1) (h2 : 0 ≤ n2) (h5 : n1 + n2 ≤ 6) {as bs : List (List Int)} (ha : ChoiceOk n1 as) (hb : ChoiceOk n2 bs) : ChoiceOk (n1 + n2) (as.flatMap (joinB n1 bs)) := by
  have hlen : ∀ x ∈ as.flatMap (joinB n1 bs), ∀ y ∈ as.flatMap (joinB n1 bs), x.length = y.length := fun x hx y hy => by
    obtain ⟨a, ea, h⟩ := List.mem_flatMap.mp hx
    obtain ⟨b, eb, rfl⟩ := List.mem_map.mp h
    obtain ⟨a', ea', h'⟩ := List.mem_flatMap.mp hy
    obtain ⟨b', eb', rfl⟩ := List.mem_map.mp h'
    rw [List.length_append, List.length_append, List.length_map, List.length_map, ha.eqn a ea a' ea', hb.eqn b eb b' eb']
  have mk : ∀ a ∈ as, ∀ b ∈ bs, (a ++ b.map fun t => t + n1) ∈ as.flatMap (joinB n1 bs) := fun a ea b eb => List.mem_flatMap.mpr ⟨a, ea, List.mem_map.mpr ⟨b, eb, rfl⟩⟩
  have big : ∀ {b : List Int}, b ∈ bs → ∀ {t}, t ∈ (b.map fun t => t + n1) ↔ (t - n1) ∈ b := fun {b} eb {t} => by
    rw [List.mem_map]
    constructor
    · rintro ⟨u, hu, rfl⟩
      rw [show u + n1 - n1 = u by omega]
      exact hu
    · exact fun h => ⟨t - n1, h, by omega⟩
  refine ⟨fun z => ?_, fun l hl => ?_, List.pairwise_flatMap.mpr ⟨fun a _ => nodup_map_on (fun x _ y _ e => map_add_inj (List.append_cancel_left e)) hb.nd, ?_⟩, hlen, fun a ha b hb => by rw [hlen a ha b hb]; exact Nat.lt_irrefl _, fun x hx y hy t ht => ?_⟩
  · obtain ⟨a, ea⟩ := List.exists_mem_of_ne_nil _ ha.ne
    obtain ⟨b, eb⟩ := List.exists_mem_of_ne_nil _ hb.ne
    have := mk a ea b eb
    rw [z] at this
    cases this
  · obtain ⟨a, ea, h⟩ := List.mem_flatMap.mp hl
    obtain ⟨b, eb, rfl⟩ := List.mem_map.mp h
    exact join_mem h1 h2 h5 (ha.mem a ea) (hb.mem b eb)
  · refine List.Pairwise.imp_of_mem ?_ ha.nd
    intro a a' ma ma' hne x hx y hy e
    obtain ⟨b, eb, rfl⟩ := List.mem_map.mp hx
    obtain ⟨b', eb', rfl⟩ := List.mem_map.mp hy
    exact hne (List.append_inj e (ha.eqn a ma a' ma')).1
  · obtain ⟨a, ea, h⟩ := List.mem_flatMap.mp hx
    obtain ⟨b, eb, rfl⟩ := List.mem_map.mp h
    obtain ⟨a', ea', h'⟩ := List.mem_flatMap.mp hy
    obtain ⟨b', eb', rfl⟩ := List.mem_map.mp h'
    obtain ⟨a6, an⟩ := ha.mem a ea
    obtain ⟨b6, bn⟩ := hb.mem b eb
    obtain ⟨a6', an'⟩ := ha.mem a' ea'
    obtain ⟨b6', bn'⟩ := hb.mem b' eb'
    have x6 := (join_mem h1 h2 h5 ⟨a6, an⟩ ⟨b6, bn⟩).1
    have xm : ∀ v, v ∈ (a ++ b.map fun t => t + n1) ↔ v ∈ a ∨ v - n1 ∈ b := fun v => by rw [List.mem_append, big eb]
    have ym : ∀ v, v ∈ (a' ++ b'.map fun t => t + n1) ↔ v ∈ a' ∨ v - n1 ∈ b' := fun v => by rw [List.mem_append, big eb']
    have la : ∀ v, v ∈ a → 0 ≤ v ∧ v < n1 := fun v hv => ⟨((L6_pw a a6).2 v hv).1, an v hv⟩
    have la' : ∀ v, v ∈ a' → 0 ≤ v ∧ v < n1 := fun v hv => ⟨((L6_pw a' a6').2 v hv).1, an' v hv⟩
    have lb : ∀ v, v ∈ b → 0 ≤ v := fun v hv => ((L6_pw b b6).2 v hv).1
    have lb' : ∀ v, v ∈ b' → 0 ≤ v := fun v hv => ((L6_pw b' b6').2 v hv).1
    obtain ⟨t1, t2⟩ := less_iff.mp ht
    rw [xm] at t1
    rw [ym] at t2
    have hd6 := F_drp5 _ x6 t ((xm t).mpr t1)
    unfold goB
    rcases t1 with t1 | t1
    · have hgo := ha.good.2 a ea a' ea' t (less_iff.mpr ⟨t1, fun z => t2 (.inl z)⟩)
      unfold goB at hgo
      obtain ⟨u, hu, hc⟩ := List.any_eq_true.mp hgo
      have hc := List.contains_iff_mem.mp hc
      obtain ⟨u1, u2⟩ := less_iff.mp hu
      have hu6 := mem6 a6' u1
      have hda := F_drp5 a a6 t t1
      refine List.any_eq_true.mpr ⟨u, less_iff.mpr ⟨(ym u).mpr (.inl u1), fun z => ?_⟩, List.contains_iff_mem.mpr ?_⟩
      · rcases (xm u).mp z with z | z
        · exact u2 z
        · have := lb _ z
          have := la' u u1
          omega
      · have := mk _ hc b eb
        rw [show ins (drp (a ++ b.map fun t => t + n1) t) u = ins (drp a t) u ++ b.map fun t => t + n1 from ext6 (F_ins _ hd6 u hu6).2 (join_mem h1 h2 h5 (ha.mem _ hc) ⟨b6, bn⟩).1 fun v => ?_]
        · exact this
        · rw [ins_mem hd6 hu6, drp_mem, xm, List.mem_append, big eb, ins_mem hda hu6, drp_mem]
          constructor
          · rintro (⟨z | z, z2⟩ | z)
            · exact .inl (.inl ⟨z, z2⟩)
            · exact .inr z
            · exact .inl (.inr z)
          · rintro ((⟨z, z2⟩ | z) | z)
            · exact .inl ⟨.inl z, z2⟩
            · exact .inr z
            · refine .inl ⟨.inr z, fun e => ?_⟩
              have := lb _ z
              have := la t t1
              omega
    · have hgo := hb.good.2 b eb b' eb' (t - n1) (less_iff.mpr ⟨t1, fun z => t2 (.inr z)⟩)
      unfold goB at hgo
      obtain ⟨u, hu, hc⟩ := List.any_eq_true.mp hgo
      have hc := List.contains_iff_mem.mp hc
      obtain ⟨u1, u2⟩ := less_iff.mp hu
      have hu6 := mem6 b6' u1
      have hdb := F_drp5 b b6 (t - n1) t1
      have hun := bn' u u1
      have hu0 := lb' u u1
      have hv6 : (u + n1) ∈ ([0, 1, 2, 3, 4, 5] : List Int) := by
        have h0 : 0 ≤ u + n1 := by omega
        have h6 : u + n1 < 6 := by omega
        simp only [List.mem_cons, List.not_mem_nil, or_false]
        omega
      refine List.any_eq_true.mpr ⟨u + n1, less_iff.mpr ⟨(ym _).mpr (.inr (by rw [show u + n1 - n1 = u by omega]; exact u1)), fun z => ?_⟩, List.contains_iff_mem.mpr ?_⟩
      · rcases (xm _).mp z with z | z
        · have := la _ z
          omega
        · rw [show u + n1 - n1 = u by omega] at z; exact u2 z
      · have := mk a ea _ hc
        rw [show ins (drp (a ++ b.map fun t => t + n1) t) (u + n1) = a ++ (ins (drp b (t - n1)) u).map fun t => t + n1 from ext6 (F_ins _ hd6 _ hv6).2 (join_mem h1 h2 h5 ⟨a6, an⟩ (hb.mem _ hc)).1 fun v => ?_]
        · exact this
        · rw [ins_mem hd6 hv6, drp_mem, xm, List.mem_append, big hc, ins_mem hdb hu6, drp_mem]
          constructor
          · rintro (⟨z | z, z2⟩ | z)
            · exact .inl z
            · exact .inr (.inl ⟨z, fun e => z2 (by omega)⟩)
            · exact .inr (.inr (by omega))
          · rintro (z | ⟨z, z2⟩ | z)
            · refine .inl ⟨.inl z, fun e => ?_⟩
              have := la v z
              have := lb _ t1
              omega
            · exact .inl ⟨.inr z, fun e => z2 (by omega)⟩
            · exact .inr (by omega)
section
variable {P : Program} {w : World} {K : PySem.W.Frag} {mg : Str → Option Value} {base : Heap}
def o_choice (Pt : Addr) : ON := fun gs M Q => ∃ p l c most, gs = [.op (.ref p), .d (.int most)] ∧ M p = some (.lst l) ∧ PotL l c ∧ c + 2000 ≤ 900000 ∧ 0 ≤ most ∧ most ≤ 6 ∧ M Pt = some (.tab ("_law_plain_choice" ++ ".<locals>." ++ "<lambda>")) ∧ NoGen M ∧
  ∀ (m : Nat) fulls l', (m : Int) ≤ most → ChoiceI ((m : Nat) : Int) fulls → PotL l' (c + 300) → Q (.d (.tuple [.int ((m : Nat) : Int), lotsD fulls])) (put M p (.lst l'))
theorem ok_choice (gl : Gl K mg) {cd Pt : Addr} (hF : CodeAt K mg d__law_plain_choice cd) (TB : LamX.TabB base mg cd Pt) : Fn P w K mg base 12 "_law_choice_drawn" (o_choice Pt) := by
  refine okf (d := d__law_choice_drawn) (N := ["pot", "most", "kind", "one", "other", "fulls", "full", "found", "more", "thing"]) (ps := ["pot", "most"]) gl 41 rfl (fun _ _ _ _ _ _ us hl => match us, hl with | [_, _], _ => rfl) (by decide +kernel) (fun gs M Q ⟨_, _, _, _, e, _⟩ => by rw [e]; rfl) (fun gs M Q ⟨p, l, c, most, e, hp, hl, hc, h0, h5, hT, hN, q⟩ => ?_)
  subst e
  have hpt : p ≠ Pt := fun z => by rw [z, hT] at hp; cases hp
  have tabP : ∀ x, put M p x Pt = some (.tab ("_law_plain_choice" ++ ".<locals>." ++ "<lambda>")) := fun x => by rw [put_ne (Ne.symm hpt)]; exact hT
  refine ds_cons (d1_set 2 (de_call (ok_take gl) (da_cons (PD.de (pd_var 0) (da_cons (PD.de pd_int (da_nil ⟨p, l, c, 6, rfl, hp, hl, by omega, by omega, by omega, fun kind l1 hk0 hk1 hl1 => ?_⟩)))))))
  refine ds_cons (d1_ifB (k := decide (kind = 0) && decide (1 < most)) (pb_and (pb_cmp o_eq (pd_var 2) pd_int ⟨_, _, .d _, .d _, pl_int _, pl_int _, by rw [eqv_int], rfl⟩) (pb_cmp o_gt (pd_var 1) pd_int ⟨_, _, rfl, rfl, rfl, rfl⟩)) (fun hz => ?_) (fun hz => ?_))
  · have hm : 0 ≤ most / 2 ∧ most / 2 ≤ 6 ∧ 0 ≤ most - most / 2 ∧ most - most / 2 ≤ 6 := by omega
    refine ds_cons (d1_asgT (n := 2) (da_cons (de_call (ok_plain gl hF TB) (da_cons (PD.de (pd_var 0) (da_cons (PD.de (pd_bin o_fdiv (pd_var 1) pd_int ⟨most, 2, rfl, rfl, ⟨by decide, by decide +kernel⟩, rfl, rfl⟩) (da_nil ⟨p, l1, c + 1, most / 2, rfl, put_same, hl1, by omega, hm.1, hm.2.1, tabP _, noGen_put hN p l1, fun n1 as l2 hn0 hn1 ⟨cA, _⟩ hl2 => ?_⟩))))))))
    rw [put_put]
    refine da_cons (de_call (ok_plain gl hF TB) (da_cons (PD.de (pd_var 0) (da_cons (PD.de (pd_bin o_sub (pd_var 1) (pd_bin o_fdiv (pd_var 1) pd_int ⟨most, 2, rfl, rfl, ⟨by decide, by decide +kernel⟩, rfl, rfl⟩) ⟨_, _, rfl, rfl, rfl, rfl⟩) (da_nil ⟨p, l2, c + 1 + 100, most - most / 2, rfl, put_same, hl2, by omega, hm.2.2.1, hm.2.2.2, tabP _, noGen_put hN p l2, fun n2 bs l3 hm0 hm1 ⟨cB, _⟩ hl3 => ?_⟩))))))
    rw [put_put]
    have hA := cA.len
    have hB := cB.len
    refine da_nil ⟨rfl, Nat.le_of_ble_eq_true rfl, dgs_cons (dg_name 3 (dgs_cons (dg_name 4 (dgs_nil ?_))))⟩
    refine ds_cons (d1_set 5 (de_listM (da_nil ⟨Nat.le_of_ble_eq_true rfl, fun b hb => ?_⟩)))
    have hpb : p ≠ b := ne_free put_same hb
    refine ds_cons (d1_for (di_tup (PD.de (pd_at (pd_var 3) pd_int rfl) ⟨as.map lotD, rfl, fun i ρ M' => ∃ x6, M' = put (put M p (.lst l3)) b (.lst ((((as.take i).flatMap (joinB n1 bs)).map lotD).map B.G.d)) ∧ ((as.take i).flatMap (joinB n1 bs)).length ≤ 64 * i ∧
      ρ = [some (.op (.ref p)), some (.d (.int most)), some (.d (.int kind)), some (.d (.tuple [.int n1, lotsD as])), some (.d (.tuple [.int n2, lotsD bs])), some (.op (.ref b)), x6, none, none, none], ⟨none, rfl, Nat.zero_le _, rfl⟩, fun _ _ _ _ _ => trivial, ?_, ?_⟩)))
    · rintro i g ρ M' eg ⟨x6, rfl, hlen, rfl⟩
      rw [List.getElem?_map, List.getElem?_map] at eg
      cases ea : as[i]? with
      | none => rw [ea] at eg; cases eg
      | some a =>
        rw [ea] at eg
        cases eg
        have hi := (List.getElem?_eq_some_iff.mp ea).1
        have hal := F_len a (cA.mem a (List.mem_of_getElem? ea)).1
        have htk : as.take (i + 1) = as.take i ++ [a] := by rw [List.take_add_one, ea]; rfl
        refine dg_name 6 (ds_cons (d1_expr (de_drop (de_extend (PD.de (pd_var 5) ⟨b, _, rfl, put_same, de_lc (own := [("more", 8)]) (lcP_map (fun m : List Int => B.G.d (lotD m)) bs (fun m => lotD (a ++ m.map fun t => t + n1)) (pit_tup (ds := bs.map lotD) (pd_at (pd_var 4) pd_int rfl)) (by rw [List.map_map]; rfl) (by show _ ≤ 16777216; omega) (fun M' e m hm => dc_name 8 ⟨rfl, ?_⟩) (.mut fun b2 hb2 => ?_)) (blkOk_by (by kernel_rfl))⟩)))))
        · have hml := F_len m (cB.mem m hm).1
          refine PD.to (pd_bin o_catT (pd_var 6) (pd_tup1 (n_tuple gl) (pd_mapc [("thing", 9)] (fun t : Int => B.G.d (.int t)) m (fun t => .int (t + n1)) (pit_tup (ds := m.map PyData.int) (pd_var 8)) (by rw [List.map_map]; rfl) (by show _ ≤ 16777216; omega) fun M2 e2 t ht => dc_name 9 ⟨rfl, pd_bin o_add (pd_var 9) (pd_at (pd_var 3) pd_int rfl) ⟨_, _, rfl, rfl, rfl, rfl⟩⟩)) ⟨a.map PyData.int, _, rfl, rfl, ?_, rfl, rfl⟩) ?_
          · rw [List.length_map, List.length_map]; show _ ≤ 16777216; omega
          · unfold lotD
            rw [List.map_append, List.map_map]
            rfl
        · have hbp : b ≠ b2 := ne_free put_same hb2
          refine ⟨b2, _, _, rfl, by rw [put_ne hbp, put_same], put_same, ?_, put (put M p (.lst l3)) b (.lst ((((as.take (i + 1)).flatMap (joinB n1 bs)).map lotD).map B.G.d)), ?_, ds_nil ⟨_, rfl, ?_, rfl⟩⟩
          · rw [List.length_map, List.length_map, List.length_map, List.length_map]
            show _ ≤ 16777216
            omega
          · rw [put_put_ne hbp, htk, List.flatMap_append, List.flatMap_singleton, List.map_append, List.map_append]
            have ej : (joinB n1 bs a).map lotD = bs.map fun m => lotD (a ++ m.map fun t => t + n1) := by unfold joinB; rw [List.map_map]; rfl
            rw [ej]
            exact Ext.put (by rw [put_ne (Ne.symm hbp)]; rw [put_ne (Ne.symm hbp)] at hb2; exact hb2)
          · rw [htk, List.flatMap_append, List.flatMap_singleton, List.length_append]
            have : (joinB n1 bs a).length = bs.length := List.length_map _
            omega
    · rintro ρ M' ⟨x6, rfl, hlen, rfl⟩
      rw [List.length_map, List.length_map, List.take_length]
      rw [List.length_map, List.length_map, List.take_length] at hlen
      have cj := ChoiceOk.join hn0 hm0 (by omega) cA cB
      obtain ⟨m, em⟩ : ∃ m : Nat, n1 + n2 = (m : Nat) := ⟨(n1 + n2).toNat, by omega⟩
      have qq := q m (sortLots (as.flatMap (joinB n1 bs))) l3 (by omega) (by rw [← em]; exact cj.sorted) (hl3.up (by omega))
      rw [← em] at qq
      refine ds_cons (d1_ret (de_drop (PD.de (pd_tup (ds := [.int (n1 + n2), lotsD (sortLots (as.flatMap (joinB n1 bs)))]) (.cons (pd_bin o_add (pd_at (pd_var 3) pd_int rfl) (pd_at (pd_var 4) pd_int rfl) ⟨_, _, rfl, rfl, rfl, rfl⟩) (da1 (pd_tup1 (n_tuple gl) (PD.to (pd_sorted (n_sorted gl) (pd_var 5) (.l (.l put_same)) (canSort_lots cj.eqn cj.nd) ?_) ?_))))) ⟨put M p (.lst l3), Ext.put hb, qq⟩)))
      · rw [List.length_map]; show _ ≤ 16777216; omega
      · rw [sortD_lots fun l hl => (cj.mem l hl).1]
  · refine ds_nil (ds_cons (d1_set 7 (de_call (ok_plain gl hF TB) (da_cons (PD.de (pd_var 0) (da_cons (PD.de (pd_var 1) (da_nil ⟨p, l1, c + 1, most, rfl, put_same, hl1, by omega, h0, h5, tabP _, noGen_put hN p l1, fun n as l2 hn0 hn1 cA hl2 => ?_⟩))))))))
    rw [put_put]
    obtain ⟨m, rfl⟩ : ∃ m : Nat, n = (m : Nat) := ⟨n.toNat, by omega⟩
    refine ds_cons (d1_ret (de_ifB (k := decide (kind = 1)) (pb_cmp o_eq (pd_var 2) pd_int ⟨_, _, .d _, .d _, pl_int _, pl_int _, by rw [eqv_int], rfl⟩) (fun _ => de_call (ok_dual gl) (da_cons (PD.de (pd_var 7) (da_nil ⟨m, as, rfl, by omega, cA.ok, fun fs' cF => q m fs' l2 (by omega) cF (hl2.up (by omega))⟩)))) (fun _ => PD.de (pd_var 7) (q m as l2 (by omega) cA (hl2.up (by omega))))))
end
end K13
end
section
set_option maxHeartbeats 4000000
namespace K13
open PySem PySem.Spec PyProof.Rows L2 B
/-! V1: values of any kind; a value with one thing otherwise. -/
theorem weightAll_len : ∀ xs : List PyData, xs.length ≤ PyData.weightAll xs
  | [] => Nat.le_refl _
  | x :: xs => by
    have := weightAll_len xs
    show xs.length + 1 ≤ x.weight + 1 + PyData.weightAll xs
    omega
/-- data of any kind, but dicts -/
structure G0 (n : Nat) (d : PyData) : Prop where
  pl : d.plain = true
  sh : d.showable = true
  ls : d.leavesShort 30 = true
  dp : d.depth ≤ n
theorem G0.mono {n m : Nat} {d : PyData} (h : G0 n d) (k : n ≤ m) : G0 m d := ⟨h.pl, h.sh, h.ls, Nat.le_trans h.dp k⟩
/-- a value: such data, or one of two dicts -/
structure Vo (d : PyData) : Prop where
  ex : (G0 60 d ∧ d.weight ≤ 400000) ∨ d = .dict [] ∨ d = .dict [(.str "a", .int 1)]
theorem Vo.sh {d : PyData} (h : Vo d) : ShA d := by
  rcases h.ex with ⟨g, w⟩ | rfl | rfl
  · refine ⟨g.sh, ?_, Nat.le_trans g.dp (by omega), .inl g.pl⟩
    have := PyData.shown_le 30 (by omega) d g.ls
    show _ ≤ 16777216
    have h2 : (30 + 2) * d.weight ≤ 32 * 400000 := Nat.mul_le_mul_left _ w
    omega
  · exact ⟨by decide +kernel, by decide +kernel, by decide +kernel, .inr ⟨_, rfl⟩⟩
  · exact ⟨by decide +kernel, by decide +kernel, by decide +kernel, .inr ⟨_, rfl⟩⟩
theorem Vo.of {n : Nat} {d : PyData} (h : G0 n d) (k : n ≤ 60) (w : d.weight ≤ 400000) : Vo d := ⟨.inl ⟨h.mono k, w⟩⟩
theorem Vo.len {ds : List PyData} (h : Vo (.tuple ds)) : ds.length ≤ 400000 := by
  rcases h.ex with ⟨g, w⟩ | h | h
  · exact Nat.le_trans (weightAll_len ds) w
  · cases h
  · cases h
theorem Vo.pl {ds : List PyData} (h : Vo (.tuple ds)) : Pl (.tuple ds) := by
  rcases h.ex with ⟨g, w⟩ | h | h
  · exact ⟨g.pl, Nat.le_trans g.dp (by omega)⟩
  · cases h
  · cases h
def odd1 : List PyData := [.none, .bool true, .bool false, .int 0, .int 1, .int (-1), .int 2, .int 10, .int (10 ^ 20), .str "", .str "a", .str "choice", .str "weights", .tuple [], .list [], .dict [], .tuple [.int 0], .tuple [.tuple []], .list [.int 0]]
def odd2 : List PyData := [.tuple [.int 0, .tuple [.tuple []]], .tuple [.int 1, .tuple [.tuple [.int 0]]], .tuple [.none], .dict [(.str "a", .int 1)], .tuple [.str "choice"], .tuple [.int 2, .tuple [.tuple [.int 0], .tuple [.int 1]]], .tuple [.tuple [.bool true]]]
def odd3 : List PyData := [.tuple [.str "tied", .tuple [.int 0]]]
def oddL : List PyData := odd1 ++ odd2 ++ odd3
end K13
end
section
set_option maxHeartbeats 4000000
namespace K13
open PySem PySem.Spec PyProof.Rows L2 B
/-! V3: what is a heap, of any value. -/
def tupV (v : PyData) : List PyData := match v with
  | .tuple ds => ds
  | _ => []
end K13
end
section
set_option maxHeartbeats 4000000
/-! D65: dicts with int keys: not in, d[k]; a name's value that stays. -/
namespace B
open PySem PySem.Spec PyProof.Rows L2
section
variable {Γ : Gam} {ρ : GEnv} {M : Sto} {pos : Pos} {a b : Expr}
/-- y not in d -/
def oDNot : O2 := fun x y M2 Q => ∃ d k p gs, x = .d d ∧ keyD d = some k ∧ y = .op (.ref p) ∧ M2 p = some (.dK gs) ∧ Q (.d (.bool (!(valG gs k).isSome))) M2
theorem o_dnot : Op2 Γ (compareOp .NotIn) oDNot := fun X f pins s σ H vx vy u1 u2 Qv I r1 r2 ⟨x, y, M, Q, rx, ry, hm, ⟨d, k, p, gs, e1, hk, e2, e3, q⟩, kk⟩ => by
  subst e1 e2
  cases ry
  obtain ⟨o, g, h1, h2⟩ := dict_look (Γ := Γ) hm e3 hk rx
  cases r2
  exact d_notIn (units1 f) I g r1 fun s3 I3 => ⟨.bl (!o.isSome), H, I3, rfl, by rw [some_iff h1 h2]; exact kk.here hm (rgd (Rp.bl _)) q⟩
/-- d[k], there -/
theorem de_dix {Q : G → Sto → Prop} (h : DE Γ a ρ M fun x M1 => DE Γ b ρ M1 fun y M2 => ∃ d k p gs g, x = .op (.ref p) ∧ M2 p = some (.dK gs) ∧ y = .d d ∧ keyD d = some k ∧ valG gs k = some g ∧ Q g M2) (hs : NoSl b := by intro _ _; rfl) : DE Γ (.Subscript a b pos) ρ M Q :=
  DE.of (fun X f => pe_dget (units1 f) (pe_all f a) (pe_all f b) hs) fun X f σ H Qv r h0 k => all_of h r h0 fun v H1 x M1 p1 r1 h1 rx d => all_of d r1 h1 fun u H2 y M2 p2 r2 h2 ry ⟨dd, kk, p, gs, g, e1, e2, e3, hk, hg, q⟩ => by
    subst e1 e3
    cases rx
    obtain ⟨o, hd, h3, _⟩ := dict_look (Γ := Γ) h2 e2 hk ry
    obtain ⟨v, ev, rv⟩ := h3 g hg
    subst ev
    exact ⟨p, v, rfl, hd, k v H2 g M2 (p1.trans p2) h2 rv q⟩
end
end B
end
section
set_option maxHeartbeats 4000000
namespace K13
open PySem PySem.Spec PyProof.Rows L2 B
/-! F1: ranks by sums of bits; what has been told. -/
/-- the things of a lot that are in another one -/
def inL (a b : List Int) : List Int := a.filter fun t => b.contains t
theorem F_and : ∀ a ∈ L6, ∀ b ∈ L6, Builtin.bitAnd (bits a) (bits b) = bits (inL a b) ∧ inL a b ∈ L6 := by decide +kernel
theorem F_low : ∀ a ∈ L6, a ≠ [] → Builtin.bitAnd (bits a) (bits a - 1) = bits (a.drop 1) ∧ a.drop 1 ∈ L6 ∧ 0 < bits a := by decide +kernel
theorem F_every : ∀ m ∈ List.range 7, rangeI m ∈ L6 ∧ (1 : Int) * 2 ^ ((m : Nat) : Int).toNat - 1 = bits (rangeI m) := by decide +kernel
/-- a lot's rank -/
def rk (ls : List (List Int)) (l : List Int) : Int := maxI (ls.map fun f => (((inL l f).length : Nat) : Int))
theorem rk_spec {ls : List (List Int)} (h : ls ≠ []) (l : List Int) : (∃ f ∈ ls, rk ls l = (((inL l f).length : Nat) : Int)) ∧ ∀ f ∈ ls, (((inL l f).length : Nat) : Int) ≤ rk ls l := by
  obtain ⟨h1, h2⟩ := maxI_spec (ns := ls.map fun f => (((inL l f).length : Nat) : Int)) (by simpa using h)
  obtain ⟨f, hf, e⟩ := List.mem_map.mp h1
  exact ⟨⟨f, hf, e.symm⟩, fun f hf => h2 _ (List.mem_map_of_mem hf)⟩
theorem inL_len (a b : List Int) : (inL a b).length ≤ a.length := List.length_filter_le _ _
theorem inL_all {a b : List Int} : (inL a b).length = a.length ↔ subL a b = true := by
  unfold inL subL
  rw [List.length_filter_eq_length_iff, List.all_eq_true]
/-- free: within a full -/
def freeB (ls : List (List Int)) (l : List Int) : Bool := ls.any fun f => subL l f
theorem free_rk {ls : List (List Int)} (h : ls ≠ []) (l : List Int) : decide (rk ls l = ((l.length : Nat) : Int)) = freeB ls l := by
  obtain ⟨⟨f, hf, e⟩, hm⟩ := rk_spec h l
  rw [Bool.eq_iff_iff, decide_eq_true_eq]
  unfold freeB
  rw [List.any_eq_true]
  constructor
  · intro q
    exact ⟨f, hf, inL_all.mp (by omega)⟩
  · rintro ⟨f', hf', hs⟩
    have h1 := inL_all.mpr hs
    have h2 := hm f' hf'
    have h3 := inL_len l f
    omega
theorem subs_len {α : Type} [DecidableEq α] : ∀ {l m : List α}, l.Nodup → (∀ x ∈ l, x ∈ m) → l.length ≤ m.length
  | [], _, _, _ => Nat.zero_le _
  | x :: l, m, n, h => by
    obtain ⟨n1, n2⟩ := List.nodup_cons.mp n
    have hx := h x List.mem_cons_self
    have := subs_len (l := l) (m := m.erase x) n2 fun y hy => by
      have : y ≠ x := fun e => n1 (e ▸ hy)
      exact (List.mem_erase_of_ne this).mpr (h y (List.mem_cons_of_mem _ hy))
    rw [List.length_erase_of_mem hx] at this
    have hp : 0 < m.length := List.length_pos_of_mem hx
    rw [List.length_cons]
    omega
/-- what is told of ranks -/
structure Memo (ls : List (List Int)) (kvs : List (Key × B.G)) : Prop where
  nd : (kvs.map (·.1)).Nodup
  ok : ∀ kv ∈ kvs, ∃ l ∈ L6, kv.1 = .inl (bits l) ∧ kv.2 = .d (.int (rk ls l))
theorem Memo.nil (ls : List (List Int)) : Memo ls [] := ⟨.nil, fun kv h => nomatch h⟩
theorem Memo.get {ls : List (List Int)} {kvs : List (Key × B.G)} (h : Memo ls kvs) {l : List Int} (hl : l ∈ L6) {g : B.G} (e : valG kvs (.inl (bits l)) = some g) : g = .d (.int (rk ls l)) := by
  unfold valG at e
  obtain ⟨kv, h1, h2⟩ := Option.map_eq_some_iff.mp e
  have h3 := List.find?_some h1
  have h4 := List.mem_of_find?_eq_some h1
  obtain ⟨l', hl', e1, e2⟩ := h.ok kv h4
  rw [decide_eq_true_eq, e1] at h3
  injection h3 with h3
  have := F_inj l' hl' l hl h3
  subst this
  rw [← h2, e2]
theorem Memo.len {ls : List (List Int)} {kvs : List (Key × B.G)} (h : Memo ls kvs) : kvs.length ≤ 64 := by
  have := subs_len (l := kvs.map (·.1)) (m := L6.map fun l => (Sum.inl (bits l) : Key)) h.nd fun k hk => by
    obtain ⟨kv, hkv, rfl⟩ := List.mem_map.mp hk
    obtain ⟨l, hl, e1, _⟩ := h.ok kv hkv
    rw [e1]
    exact List.mem_map_of_mem (f := fun l => (Sum.inl (bits l) : Key)) hl
  rw [List.length_map, List.length_map] at this
  exact Nat.le_trans this (by decide)
theorem valG_no {kvs : List (Key × B.G)} {k : Key} (h : (valG kvs k).isSome = false) : ∀ kv ∈ kvs, kv.1 ≠ k := fun kv hk e => by
  unfold valG at h
  rw [Option.isSome_map] at h
  have : (kvs.find? fun kv => decide (kv.1 = k)).isSome = true := by
    rw [List.find?_isSome]
    exact ⟨kv, hk, decide_eq_true e⟩
  rw [this] at h
  cases h
theorem Memo.put {ls : List (List Int)} {kvs : List (Key × B.G)} (h : Memo ls kvs) {l : List Int} (hl : l ∈ L6) (e : (valG kvs (.inl (bits l))).isSome = false) : Memo ls (putG kvs (.inl (bits l)) (.d (.int (rk ls l)))) := by
  have hn := valG_no e
  have hf : (kvs.any fun kv => decide (kv.1 = .inl (bits l))) = false := by
    rw [List.any_eq_false]
    intro kv hk
    rw [decide_eq_true_eq]
    exact hn kv hk
  unfold putG
  rw [hf, if_neg Bool.false_ne_true]
  refine ⟨?_, fun kv hk => ?_⟩
  · rw [List.map_append, List.nodup_append]
    refine ⟨h.nd, by simp, fun x hx y hy => ?_⟩
    obtain ⟨kv, hkv, rfl⟩ := List.mem_map.mp hx
    simp only [List.map_cons, List.map_nil, List.mem_singleton] at hy
    rw [hy]
    exact hn kv hkv
  · rcases List.mem_append.mp hk with hk | hk
    · exact h.ok kv hk
    · rw [List.mem_singleton.mp hk]
      exact ⟨l, hl, rfl, rfl⟩
theorem putG_some (kvs : List (Key × B.G)) (k : Key) (g : B.G) : ∃ g', valG (putG kvs k g) k = some g' := by
  have : (valG (putG kvs k g) k).isSome = true := by rw [putG_val]; simp
  exact Option.isSome_iff_exists.mp this
end K13
end
section
set_option maxHeartbeats 4000000
namespace K13
open PySem PySem.Spec PyProof.Rows L2 B
/-! FW1: the class Faces: made, ranks, free lots. -/
abbrev slF : List (Str × Nat) := [("amount", 0), ("every", 1), ("fulls", 2), ("ranks_told", 3)]
/-- the class stands, and its defs -/
structure FaK (K : PySem.W.Frag) (mg : Str → Option Value) : Prop where
  s : SlK K (He.ga K "Faces") slF
  g : mg "Faces" = some (.ref (He.ga K "Faces"))
  mk0 : Mk K (He.ga K "Faces") (He.ma K (He.ga K "Faces") "__init__")
  m : ∀ d ∈ meL, d.name ≠ "__init__" → Meth K (He.ga K "Faces") d.name (He.ma K (He.ga K "Faces") d.name)
  d : ∀ d ∈ meL, ∃ fd, FunD K d.name d.qual d.params d.body d.scope [] [] (He.ma K (He.ga K "Faces") d.name) fd
section
variable {P : Program} {w : World} {K : PySem.W.Frag} {mg : Str → Option Value} {base : Heap}
theorem FaK.slot (fk : FaK K mg) (q : Str × Nat) (h : q ∈ slF) : SlX.Slot1 K (He.ga K "Faces") q.1 (slA K (He.ga K "Faces") q.1) q.2 := fk.s.s q h
def o_every : ON := fun gs M Q => ∃ n : Nat, gs = [.d (.int (n : Nat))] ∧ n ≤ 6 ∧ Q (.d (.int (bits (rangeI n)))) M
theorem ok_every (gl : Gl K mg) (i : Nat) (hi : fnL[i]? = some d_every_bit) : Fn P w K mg base 1 "every_bit" o_every := by
  refine okf (d := d_every_bit) (N := ["many"]) (ps := ["many"]) gl i hi (fun _ _ _ _ _ _ us hl => match us, hl with | [_], _ => rfl) (by decide +kernel) (fun gs M Q ⟨_, e, _⟩ => by rw [e]; rfl) (fun gs M Q ⟨n, e, hn, q⟩ => ?_)
  subst e
  have hF := (F_every n (by rw [List.mem_range]; omega)).2
  rw [← hF] at q
  exact ds_cons (d1_ret (PD.de (pd_bin o_sub (pd_bin o_shl pd_int (pd_var 0) ⟨_, _, rfl, rfl, ⟨by omega, by omega⟩, rfl, rfl⟩) pd_int ⟨_, _, rfl, rfl, rfl, rfl⟩) q))
def o_many : ON := fun gs M Q => ∃ l, l ∈ L6 ∧ gs = [.d (.int (bits l))] ∧ Q (.d (.int ((l.length : Nat) : Int))) M
theorem ok_many (gl : Gl K mg) (i : Nat) (hi : fnL[i]? = some d_how_many) : Fn P w K mg base 1 "how_many" o_many := by
  refine okf (d := d_how_many) (N := ["bits", "found"]) (ps := ["bits"]) gl i hi (fun _ _ _ _ _ _ us hl => match us, hl with | [_], _ => rfl) (by decide +kernel) (fun gs M Q ⟨_, _, e, _⟩ => by rw [e]; rfl) (fun gs M Q ⟨l, hl, e, q⟩ => ?_)
  subst e
  have hlen := F_len l hl
  refine ds_cons (d1_set 1 (PD.de pd_int ?_))
  refine ds_cons (d1_while ⟨fun m ρ M' => ∃ r, r ∈ L6 ∧ r.length = m ∧ r.length ≤ l.length ∧ ρ = [some (.d (.int (bits r))), some (.d (.int (((l.length - r.length : Nat)) : Int)))] ∧ M' = M, ⟨l.length, l, hl, rfl, Nat.le_refl _, by rw [Nat.sub_self]; rfl, rfl⟩, ?_⟩)
  rintro m ρ M' ⟨r, hr, rfl, hle, rfl, rfl⟩
  refine PB.dt (b := decide (0 < bits r)) (pb_cmp o_gt (pd_var 0) pd_int ⟨_, _, rfl, rfl, rfl, rfl⟩) ?_
  by_cases h0 : r = []
  · subst h0
    refine ifF (decide_eq_false (by decide)) ?_
    exact ds_cons (d1_ret (PD.de (pd_var 1) q))
  · obtain ⟨f1, f2, f3⟩ := F_low r hr h0
    refine ifT (decide_eq_true f3) ?_
    have hpos : 0 < r.length := List.length_pos_iff.mpr h0
    refine ds_cons (d1_par 0 1 ((PAs.cons (PD.to (pd_bin o_and (pd_var 0) (pd_bin o_sub (pd_var 0) pd_int ⟨_, _, rfl, rfl, rfl, rfl⟩) ⟨_, _, rfl, rfl, rfl, rfl⟩) (congrArg (fun z : Int => B.G.d (.int z)) f1)) (da1 (pd_bin o_add (pd_var 1) pd_int ⟨_, _, rfl, rfl, rfl, rfl⟩))).da ⟨_, _, rfl, ds_nil ⟨(r.drop 1).length, by rw [List.length_drop]; omega, r.drop 1, f2, rfl, by rw [List.length_drop]; omega, ?_, rfl⟩⟩))
    rw [List.length_drop]
    show [some (B.G.d (.int (bits (r.drop 1)))), some (B.G.d (.int (((l.length - r.length : Nat) : Int) + 1)))] = _
    rw [show (((l.length - (r.length - 1) : Nat)) : Int) = ((l.length - r.length : Nat) : Int) + 1 by omega]
/-- Faces(choice) -/
def o_init : B.OI := fun xs M R => ∃ (n : Nat) (ls : List (List Int)), xs = [.d (heapD (n : Nat) ls)] ∧ n ≤ 6 ∧ ls.length ≤ 64 ∧ (∀ l ∈ ls, l ∈ L6) ∧ NoGen M ∧
  ∀ d, M d = none → R (put M d (.dK [])) [some (.d (.int (n : Nat))), some (.d (.int (bits (rangeI n)))), some (.d (.list (ls.map fun l => .int (bits l)))), some (.op (.ref d))]
theorem fn_init (gl : Gl K mg) (fk : FaK K mg) (i : Nat) (hi : fnL[i]? = some d_every_bit) : ∃ fd, FnI P w K mg base 4 (He.ga K "Faces") (He.ma K (He.ga K "Faces") "__init__") fd ["self", "choice"] o_init ∧ Binds K fd ["self", "choice"] [] := by
  obtain ⟨fd, F⟩ := fk.d d_Faces___init__ (List.mem_cons_self)
  have b := F.bindsN (ps := ["self", "choice"]) (fun _ _ _ _ _ _ us hl => match us, hl with | [_, _], _ => rfl)
  obtain ⟨oc, od, dV, kV, doc, pm, an, cdv, ct, osl, rfl, lk, hcd, h1, h2⟩ := F.ex
  refine ⟨_, fnI_of (n := 4) (N := ["self", "choice", "full"]) lk hcd (C8.fnScope_by (by decide +kernel)) (fun xs M R ⟨_, _, e, _⟩ => by rw [e]; rfl) (fun a xs M R ⟨n, ls, e, hn, hz, h6, ng, q⟩ => ?_), b⟩
  subst e
  have t0 := fk.slot ("amount", 0) (by simp)
  have t1 := fk.slot ("every", 1) (by simp)
  have t2 := fk.slot ("fulls", 2) (by simp)
  have t3 := fk.slot ("ranks_told", 3) (by simp)
  refine dsi_set2 0 (da_cons (PD.de (pd_at (pd_var 1) pd_int rfl) (da_cons (de_call (ok_every gl i hi) (da_cons (PD.de (pd_at (pd_var 1) pd_int rfl) (da_nil ⟨n, rfl, hn, da_nil ⟨_, _, rfl, ng, ?_⟩⟩))))))) fk.s.c t0 t1
  refine dsi_set 0 (PD.de (pd_mapc [("full", 2)] (fun l : List Int => B.G.d (lotD l)) ls (fun l => .int (bits l)) (pit_tup (ds := ls.map lotD) (pd_at (pd_var 1) pd_int rfl)) (by rw [List.map_map]; rfl) (by show _ ≤ 16777216; omega) fun M' e l hl => dc_name 2 ⟨rfl, pd_call (ok_bits_of gl) (da1 (pd_var 2)) ⟨l, h6 l hl, rfl, rfl, rfl⟩⟩) ⟨ng, ?_⟩) fk.s.c t2
  refine dsi_set (i := 3) 0 (de_emptyD fun d hd => ⟨fun b φ e => ?_, dsi_nil (q d hd)⟩) fk.s.c t3
  unfold B.put at e
  split at e
  · cases e
  · exact ng b φ e
end
end K13
end
section
set_option maxHeartbeats 4000000
namespace K13
open PySem PySem.Spec PyProof.Rows L2 B
/-! FW2: the class Faces: ranks, free lots. -/
abbrev slotsF (n : Nat) (ls : List (List Int)) (d : Addr) : List (Option B.G) := [some (.d (.int (n : Nat))), some (.d (.int (bits (rangeI n)))), some (.d (.list (ls.map fun l => .int (bits l)))), some (.op (.ref d))]
def facG (K : PySem.W.Frag) (a : Addr) (n : Nat) (ls : List (List Int)) (d : Addr) : MO := .gen (InsG K a (He.ga K "Faces") (slotsF n ls d))
/-- the fulls of a choice -/
structure FuOk (n : Nat) (ls : List (List Int)) : Prop where
  hi : n ≤ 6
  ne : ls ≠ []
  len : ls.length ≤ 64
  mem : ∀ l ∈ ls, l ∈ L6 ∧ ∀ t ∈ l, t < (n : Int)
theorem HeapOk.fu {n : Nat} {ls : List (List Int)} (h : HeapOk (n : Nat) ls) : FuOk n ls := ⟨by have := h.hi; omega, h.ne, h.len, h.mem⟩
/-- an instance stands, what it has told is right -/
structure FaM (K : PySem.W.Frag) (a d : Addr) (n : Nat) (ls : List (List Int)) (M : Sto) : Prop where
  a : M a = some (facG K a n ls d)
  d : ∃ kvs, M d = some (.dK kvs) ∧ Memo ls kvs
theorem FaM.ne {K : PySem.W.Frag} {a d : Addr} {n : Nat} {ls : List (List Int)} {M : Sto} (h : FaM K a d n ls M) : a ≠ d := fun z => by
  obtain ⟨kvs, e, _⟩ := h.d
  have := h.a
  rw [z, e] at this
  cases this
theorem FaM.put {K : PySem.W.Frag} {a d : Addr} {n : Nat} {ls : List (List Int)} {M : Sto} {kvs : List (Key × B.G)} (h : FaM K a d n ls M) (m : Memo ls kvs) : FaM K a d n ls (B.put M d (.dK kvs)) := ⟨by rw [put_ne h.ne]; exact h.a, kvs, put_same, m⟩
section
variable {P : Program} {w : World} {K : PySem.W.Frag} {mg : Str → Option Value} {base : Heap}
theorem okM {d : He.DefD} {N ps : List Str} {k : Nat} {o : ON} (fk : FaK K mg) (hd : d ∈ meL) (hne : d.name ≠ "__init__")
    (hb : ∀ (kV doc pm : Value) (an : Option Addr) (cdv ct : Value) (us : List Value), us.length = ps.length → bindArgs (PySem.W.fnOf d.name d.qual d.params d.body d.scope .none kV doc pm an cdv ct) ⟨us, []⟩ = pure (ps.zip us))
    (S : C8.scC N ps d.scope = true) (len : ∀ gs M Q, o gs M Q → gs.length = ps.length)
    (h : ∀ gs M Q, o gs M Q → DS ⟨P, w, K, mg, base, N, d.scope, k, fun _ => true, none, fun _ => True⟩ d.body (startG N gs) M (dRet Q)) : FnM P w K mg base (k + 1) (He.ga K "Faces") d.name o := by
  obtain ⟨fd, F⟩ := fk.d d hd
  have b := F.bindsN hb
  obtain ⟨oc, od, dV, kV, doc, pm, an, cdv, ct, osl, rfl, lk, hcd, h1, h2⟩ := F.ex
  exact ⟨_, _, ps, fnG_of (cd := none) lk hcd (C8.fnScope_by S) len (fun p z => nomatch z) h, fk.m d hd hne, b⟩
def o_rank (K : PySem.W.Frag) : ON := fun gs M Q => ∃ a d n ls l, gs = [.op (.ref a), .d (.int (bits l))] ∧ l ∈ L6 ∧ FuOk n ls ∧ FaM K a d n ls M ∧ ∀ kvs, Memo ls kvs → Q (.d (.int (rk ls l))) (put M d (.dK kvs))
theorem ok_rank (gl : Gl K mg) (fk : FaK K mg) (i : Nat) (hi : fnL[i]? = some d_how_many) : FnM P w K mg base 3 (He.ga K "Faces") "rank" (o_rank K) := by
  refine okM (d := d_Faces_rank) (N := ["self", "bits", "full"]) (ps := ["self", "bits"]) fk (by unfold meL; simp) (by decide) (fun _ _ _ _ _ _ us hl => match us, hl with | [_, _], _ => rfl) (by decide +kernel) (fun gs M Q ⟨_, _, _, _, _, e, _⟩ => by rw [e]; rfl) (fun gs M Q ⟨a, d, n, ls, l, e, hl, fu, fa, q⟩ => ?_)
  subst e
  have t2 := fk.slot ("fulls", 2) (by simp)
  have t3 := fk.slot ("ranks_told", 3) (by simp)
  obtain ⟨kvs, hd, hm⟩ := fa.d
  have hz := fu.len
  have hlen := hm.len
  have hne : ls.map (fun f => (((inL l f).length : Nat) : Int)) ≠ [] := by simpa using fu.ne
  have fin : ∀ kvs2, Memo ls kvs2 → (∃ g, valG kvs2 (.inl (bits l)) = some g) → DS ⟨P, w, K, mg, base, ["self", "bits", "full"], d_Faces_rank.scope, 2, fun _ => true, none, fun _ => True⟩ (d_Faces_rank.body.drop 1) [some (.op (.ref a)), some (.d (.int (bits l))), none] (put M d (.dK kvs2)) (dRet Q) := fun kvs2 hm2 ⟨g, hg⟩ => by
    have hg' := hm2.get hl hg
    subst hg'
    exact ds_cons (d1_ret (de_dix (PD.de (pd_sl (pd_var 0) (fa.put hm2).a fk.s.c t3 rfl) (PD.de (pd_var 1) ⟨_, _, d, kvs2, _, rfl, put_same, rfl, rfl, hg, q kvs2 hm2⟩))))
  refine ds_cons (d1_if (dt_cmp o_dnot (PD.de (pd_var 1) (PD.de (pd_sl (pd_var 0) fa.a fk.s.c t3 rfl) ⟨_, _, d, kvs, rfl, rfl, rfl, hd, _, rfl, ?_⟩))))
  cases hv : (valG kvs (.inl (bits l))).isSome with
  | true =>
    refine ifF rfl (ds_nil ?_)
    have := fin kvs hm (Option.isSome_iff_exists.mp hv)
    rw [put_self hd] at this
    exact this
  | false =>
    refine ifT rfl (ds_cons (d1_dput (PD.de (g := .d (.int (rk ls l))) (pd_callB o_maxL (n_max gl) rfl (da1 (pd_mapc [("full", 2)] (fun f : List Int => B.G.d (.int (bits f))) ls (fun f => .int (((inL l f).length : Nat) : Int)) (pit_list (ds := ls.map fun f => .int (bits f)) (pd_sl (pd_var 0) fa.a fk.s.c t2 rfl) (.d _)) (by rw [List.map_map]; rfl) (by show _ ≤ 16777216; omega) fun M' e f hf => dc_name 2 ⟨rfl, pd_call (ok_many gl i hi) (da1 (PD.to (pd_bin o_and (pd_var 1) (pd_var 2) ⟨_, _, rfl, rfl, rfl, rfl⟩) (congrArg (fun z : Int => B.G.d (.int z)) (F_and l hl f (fu.mem f hf).1).1))) ⟨inL l f, (F_and l hl f (fu.mem f hf).1).2, rfl, rfl, rfl⟩⟩)) ⟨_, ls.map (fun f => (((inL l f).length : Nat) : Int)), rfl, ?_, hne, rfl, rfl⟩)
      (PD.de (pd_sl (pd_var 0) fa.a fk.s.c t3 rfl) (PD.de (pd_var 1) ⟨d, kvs, _, _, rfl, hd, rfl, rfl, by show _ < 16777216; omega, ds_nil (fin _ (hm.put hl hv) (putG_some _ _ _))⟩)))))
    rw [show (ls.map fun f => (((inL l f).length : Nat) : Int)).map PyData.int = ls.map fun f => PyData.int (((inL l f).length : Nat) : Int) from List.map_map]; exact .d _
def o_free (K : PySem.W.Frag) : ON := fun gs M Q => ∃ a d n ls l, gs = [.op (.ref a), .d (.int (bits l))] ∧ l ∈ L6 ∧ FuOk n ls ∧ FaM K a d n ls M ∧ ∀ kvs, Memo ls kvs → Q (.d (.bool (freeB ls l))) (put M d (.dK kvs))
theorem ok_free (gl : Gl K mg) (fk : FaK K mg) (i : Nat) (hi : fnL[i]? = some d_how_many) : FnM P w K mg base 4 (He.ga K "Faces") "is_free" (o_free K) := by
  refine okM (d := d_Faces_is_free) (N := ["self", "bits"]) (ps := ["self", "bits"]) fk (by unfold meL; simp) (by decide) (fun _ _ _ _ _ _ us hl => match us, hl with | [_, _], _ => rfl) (by decide +kernel) (fun gs M Q ⟨_, _, _, _, _, e, _⟩ => by rw [e]; rfl) (fun gs M Q ⟨a, d, n, ls, l, e, hl, fu, fa, q⟩ => ?_)
  subst e
  refine ds_cons (d1_ret (de_cmp o_eq (de_meth (ok_rank gl fk i hi) fk.s.c (pd_var 0) fa.a (da_cons (PD.de (pd_var 1) (da_nil ⟨a, d, n, ls, l, rfl, hl, fu, fa, fun kvs hm => PD.de (pd_call (ok_many gl i hi) (da1 (pd_var 1)) ⟨l, hl, rfl, rfl, rfl⟩) ⟨_, _, .d _, .d _, pl_int _, pl_int _, ?_⟩⟩))))))
  rw [eqv_int, free_rk fu.ne]
  exact q kvs hm
/-- Faces(choice) -/
theorem de_faces {N : List Str} {sc : Scope} {lv : Nat} {asg : Str → Bool} {cd : Option (Addr × Str)} {ρ : GEnv} {M : Sto} {Q : B.G → Sto → Prop} {e : Expr} {pos p : Pos} {n : Nat} {ls : List (List Int)} (gl : Gl K mg) (fk : FaK K mg) (i : Nat) (hi : fnL[i]? = some d_every_bit) (ho : FuOk n ls)
    (h : DE ⟨P, w, K, mg, base, N, sc, lv, asg, cd, fun _ => True⟩ e ρ M fun g M1 => g = .d (heapD (n : Nat) ls) ∧ NoGen M1 ∧ ∀ a d M2, FaM K a d n ls M2 → M1 a = none → M1 d = none → M2 = put (put M1 d (.dK [])) a (facG K a n ls d) → Q (.op (.ref a)) M2)
    (hk : 5 ≤ lv := by exact Nat.le_of_ble_eq_true rfl) (hg : GlD ⟨P, w, K, mg, base, N, sc, lv, asg, cd, fun _ => True⟩ "Faces" := by rfl) (he : ∀ env, starEach [e] env = (false, eval e env) :: starEach [] env := by intro _; rfl) (hpl : ∀ env, (backTo pos (starEach [] env)).any (·.1) = false := by intro _; rfl) :
    DE ⟨P, w, K, mg, base, N, sc, lv, asg, cd, fun _ => True⟩ (.Call (.Name "Faces" p) [e] [] pos) ρ M Q := by
  obtain ⟨fd, F, b⟩ := fn_init (P := P) (w := w) (base := base) gl fk i hi
  refine de_make (k := 4) fk.mk0 F b fk.g (da_cons (DE.mono h fun g M1 ⟨eg, ng, q⟩ => da_nil ⟨ng, n, ls, by rw [eg], ho.hi, ho.len, fun l hl => (ho.mem l hl).1, ng, fun d hd a ha hne => ?_⟩) he) hk hg (by decide) he hpl
  have da : d ≠ a := hne d _ put_same rfl
  exact q a d _ ⟨put_same, [], by rw [put_ne da]; exact put_same, .nil ls⟩ ha hd rfl
end
end K13
end
section
set_option maxHeartbeats 4000000
namespace K13
open PySem PySem.Spec PyProof.Rows L2 B
/-! FS1: an instance of Faces stands, beside what stood before. -/
structure FS (K : PySem.W.Frag) (a d : Addr) (n : Nat) (ls : List (List Int)) (M0 M : Sto) : Prop where
  fa : FaM K a d n ls M
  ex : Ext M0 M
  hd : M0 d = none
section
variable {K : PySem.W.Frag} {a d : Addr} {n : Nat} {ls : List (List Int)} {M0 M : Sto}
theorem FS.of {M2 : Sto} (fa : FaM K a d n ls M2) (ha : M0 a = none) (hd : M0 d = none) (eM : M2 = put (put M0 d (.dK [])) a (facG K a n ls d)) : FS K a d n ls M0 M2 := by
  refine ⟨fa, ?_, hd⟩
  subst eM
  intro p o e
  rw [put_ne (fun z => by rw [z, ha] at e; cases e), put_ne (fun z => by rw [z, hd] at e; cases e)]
  exact e
theorem FS.memo {kvs : List (Key × B.G)} (h : FS K a d n ls M0 M) (m : Memo ls kvs) : FS K a d n ls M0 (put M d (.dK kvs)) :=
  ⟨h.fa.put m, fun p o e => by
    rw [put_ne (fun z => by rw [z, h.hd] at e; cases e)]
    exact h.ex p o e, h.hd⟩
theorem FS.ne {D : Addr} (h : FS K a d n ls M0 M) (hD : M D = none) : D ≠ d ∧ D ≠ a := by
  refine ⟨fun z => ?_, fun z => ?_⟩
  · obtain ⟨kvs, ek, _⟩ := h.fa.d
    rw [z, ek] at hD
    cases hD
  · have := h.fa.a
    rw [z, this] at hD
    cases hD
theorem FS.at {D : Addr} (h : FS K a d n ls M0 M) (hD : M D = none) (o : MO) : FaM K a d n ls (put M D o) := by
  obtain ⟨n1, n2⟩ := h.ne hD
  refine ⟨by rw [put_ne (Ne.symm n2)]; exact h.fa.a, ?_⟩
  obtain ⟨kvs, ek, em⟩ := h.fa.d
  exact ⟨kvs, by rw [put_ne (Ne.symm n1)]; exact ek, em⟩
/-- behind a call of a method inside a comprehension -/
theorem FS.step {D : Addr} {kvs : List (Key × B.G)} (h : FS K a d n ls M0 M) (hD : M D = none) (m : Memo ls kvs) (acc : List B.G) : ∃ M1, FS K a d n ls M0 M1 ∧ M1 D = none ∧ put (put M D (.lst acc)) d (.dK kvs) = put M1 D (.lst acc) := by
  obtain ⟨n1, n2⟩ := h.ne hD
  exact ⟨put M d (.dK kvs), h.memo m, by rw [put_ne n1]; exact hD, put_comm n1⟩
end
end K13
end
section
set_option maxHeartbeats 4000000
namespace K13
open PySem PySem.Spec PyProof.Rows L2 B
/-! P13: exchanges at a full; what no exchange makes heavier is heaviest. -/
/-- the full without x, with y -/
def swp (a : List Int) (x y : Int) : List Int := ins (drp a x) y
theorem swp6 {a : List Int} (ha : a ∈ L6) {x y : Int} (hx : x ∈ a) (hy : y ∈ six) : swp a x y ∈ L6 := (F_ins _ (F_drp5 a ha x hx) y hy).2
theorem swp_mem {a : List Int} (ha : a ∈ L6) {x y : Int} (hx : x ∈ a) (hy : y ∈ six) (t : Int) : t ∈ swp a x y ↔ (t ∈ a ∧ t ≠ x) ∨ t = y := by
  unfold swp
  rw [ins_mem (F_drp5 a ha x hx) hy, drp_mem]
/-- one exchange nearer -/
theorem less_swp_goal {a b : List Int} (ha : a ∈ L6) (hb : b ∈ L6) {x y : Int} (hx : x ∈ a) (hxb : x ∉ b) (hy : y ∈ b) (hya : y ∉ a) : (less (swp a x y) b).length + 1 = (less a b).length := by
  have hy6 := mem6 hb hy
  have p : (less a b).Perm (x :: less (swp a x y) b) := by
    refine (List.perm_ext_iff_of_nodup ((nd6 ha).filter _) (List.nodup_cons.mpr ⟨fun z => ?_, (nd6 (swp6 ha hx hy6)).filter _⟩)).mpr fun v => ?_
    · rcases (swp_mem ha hx hy6 x).mp (less_iff.mp z).1 with ⟨_, q⟩ | q
      · exact q rfl
      · rw [q] at hx; exact hya hx
    · show v ∈ less a b ↔ v ∈ x :: less (swp a x y) b
      rw [List.mem_cons, less_iff, less_iff, swp_mem ha hx hy6]
      constructor
      · rintro ⟨h1, h2⟩
        by_cases c : v = x
        · exact .inl c
        · exact .inr ⟨.inl ⟨h1, c⟩, h2⟩
      · rintro (rfl | ⟨⟨h1, _⟩ | rfl, h2⟩)
        · exact ⟨hx, hxb⟩
        · exact ⟨h1, h2⟩
        · exact absurd hy h2
  have := p.length_eq
  rw [List.length_cons] at this
  omega
theorem same_of {a b : List Int} (ha : a ∈ L6) (hb : b ∈ L6) (hl : a.length = b.length) (h : less a b = []) : a = b := by
  have hsub : ∀ t, t ∈ a → t ∈ b := fun t ht => Classical.byContradiction fun z => by
    have : t ∈ less a b := less_iff.mpr ⟨ht, z⟩
    rw [h] at this
    cases this
  exact ext6 ha hb fun t => ⟨hsub t, fun ht => Classical.byContradiction fun hn => by
    have := sub_len (l := t :: a) (m := b) (List.nodup_cons.mpr ⟨hn, nd6 ha⟩) fun u hu => by
      rcases List.mem_cons.mp hu with rfl | hu
      · exact ht
      · exact hsub u hu
    rw [List.length_cons] at this
    omega⟩
end K13
end
section
set_option maxHeartbeats 4000000
namespace K13
open PySem PySem.Spec PyProof.Rows L2 B
/-! F2: the one tied lot within a full and a thing. -/
theorem free_iff {ls : List (List Int)} {l : List Int} : freeB ls l = true ↔ ∃ f ∈ ls, ∀ t ∈ l, t ∈ f := by
  unfold freeB
  rw [List.any_eq_true]
  exact ⟨fun ⟨f, hf, h⟩ => ⟨f, hf, subL_iff.mp h⟩, fun ⟨f, hf, h⟩ => ⟨f, hf, subL_iff.mpr h⟩⟩
/-- a free lot grows to a full within it and another full -/
theorem grow_free {ls : List (List Int)} (h6 : ∀ l ∈ ls, l ∈ L6) (hg : GoodH ls) {X b : List Int} (hb : b ∈ ls) : ∀ (n : Nat) (f : List Int), f ∈ ls → (∀ t ∈ X, t ∈ f) → (less f b).length = n → ∃ f' ∈ ls, (∀ t ∈ X, t ∈ f') ∧ ∀ t ∈ f', t ∈ X ∨ t ∈ b := by
  intro n
  induction n using Nat.strongRecOn with
  | ind n ih =>
    intro f hf hx hn
    by_cases hc : ∃ t ∈ less f b, t ∉ X
    · obtain ⟨t, ht, htx⟩ := hc
      have hgo := hg.2 f hf b hb t ht
      unfold goB at hgo
      rw [List.any_eq_true] at hgo
      obtain ⟨u, hu, hin⟩ := hgo
      have hin := List.contains_iff_mem.mp hin
      obtain ⟨e1, _⟩ := F_exch b (h6 b hb) f (h6 f hf)
      obtain ⟨_, hlt⟩ := e1 t ht u hu
      have tf := less_mem ht
      have uf := less_mem hu
      have u6 := F_mem b (h6 b hb) u uf.1
      refine ih _ (by omega) (ins (drp f t) u) hin (fun x hxx => ?_) rfl
      rw [ins_mem (F_drp5 f (h6 f hf) t tf.1) u6, drp_mem]
      exact .inl ⟨hx x hxx, fun z => htx (by rw [← z]; exact hxx)⟩
    · refine ⟨f, hf, hx, fun t ht => ?_⟩
      by_cases hb' : t ∈ b
      · exact .inr hb'
      · refine .inl (Classical.byContradiction fun z => hc ⟨t, ?_, z⟩)
        unfold less
        rw [List.mem_filter]
        exact ⟨ht, by simpa using hb'⟩
theorem F_drpl : ∀ a ∈ L6, ∀ t ∈ a, (drp a t).length + 1 = a.length := by decide +kernel
end K13
end
section
set_option maxHeartbeats 4000000
namespace K13
open PySem PySem.Spec PyProof.Rows L2 B
/-! EF4: ranks of choices: what both and what one or both have; what a lot reaches; tied lots. -/
theorem inL_iff {a b : List Int} {t : Int} : t ∈ inL a b ↔ t ∈ a ∧ t ∈ b := by
  unfold inL
  rw [List.mem_filter, List.contains_iff_mem]
theorem inL_nd {a b : List Int} (h : a.Nodup) : (inL a b).Nodup := h.filter _
theorem inL_le {a b c d : List Int} (h : a.Nodup) (k : ∀ t, t ∈ a → t ∈ b → t ∈ c ∧ t ∈ d) : (inL a b).length ≤ (inL c d).length :=
  subs_len (inL_nd h) fun t ht => inL_iff.mpr (k t (inL_iff.mp ht).1 (inL_iff.mp ht).2)
theorem inL_cm {a b : List Int} (ha : a.Nodup) (hb : b.Nodup) : (inL a b).length = (inL b a).length :=
  Nat.le_antisymm (inL_le ha fun t h1 h2 => ⟨h2, h1⟩) (inL_le hb fun t h1 h2 => ⟨h2, h1⟩)
theorem inL_less (a b : List Int) : (inL a b).length + (less a b).length = a.length := by
  unfold inL less
  induction a with
  | nil => rfl
  | cons t a ih =>
    rw [List.filter_cons, List.filter_cons]
    cases h : b.contains t <;> simp [h] at ih ⊢ <;> omega
theorem rk_le {ls : List (List Int)} (hn : ls ≠ []) {a b : List Int} (h : a.Nodup) (k : ∀ t ∈ a, t ∈ b) : rk ls a ≤ rk ls b := by
  obtain ⟨⟨f, hf, e⟩, _⟩ := rk_spec hn a
  have h1 := (rk_spec hn b).2 f hf
  have h2 : (inL a f).length ≤ (inL b f).length := inL_le h fun t h1 h2 => ⟨k t h1, h2⟩
  omega
/-- a full that has most of a lot and most of a greater one -/
theorem both_most {ls : List (List Int)} (hn : ls ≠ []) (h6 : ∀ l ∈ ls, l ∈ L6) (hg : GoodH ls) {X Y : List Int} (hX : X.Nodup) (hY : Y.Nodup) (hs : ∀ t ∈ X, t ∈ Y) :
    ∃ f ∈ ls, (((inL X f).length : Nat) : Int) = rk ls X ∧ (((inL Y f).length : Nat) : Int) = rk ls Y := by
  obtain ⟨⟨f, hf, ef⟩, mX⟩ := rk_spec hn X
  obtain ⟨⟨g, hg', eg⟩, mY⟩ := rk_spec hn Y
  have key : ∀ (k : Nat) (f : List Int), f ∈ ls → (less f g).length ≤ k → (((inL X f).length : Nat) : Int) = rk ls X → ∃ f ∈ ls, (((inL X f).length : Nat) : Int) = rk ls X ∧ (((inL Y f).length : Nat) : Int) = rk ls Y := by
    intro k
    induction k with
    | zero =>
      intro f hf hk e
      have e1 : less f g = [] := List.length_eq_zero_iff.mp (by omega)
      have e2 := hg.1 f hf g hg'
      have e3 := hg.1 g hg' f hf
      have : f = g := F_eqsub f (h6 f hf) g (h6 g hg') e1 (by omega)
      exact ⟨f, hf, e, by rw [this]; exact eg.symm⟩
    | succ k ih =>
      intro f hf hk e
      by_cases hy : (((inL Y f).length : Nat) : Int) = rk ls Y
      · exact ⟨f, hf, e, hy⟩
      have hlt : (inL Y f).length < (inL Y g).length := by have := mY f hf; omega
      obtain ⟨x, hx, hxY⟩ : ∃ x ∈ less f g, x ∉ Y := by
        refine Classical.byContradiction fun hno => ?_
        have hall : ∀ x ∈ f, x ∉ Y → x ∈ g := fun x hx hy => Classical.byContradiction fun hxg => hno ⟨x, less_iff.mpr ⟨hx, hxg⟩, hy⟩
        have h1 : (less f Y).length ≤ (less g Y).length := subs_len ((nd6 (h6 f hf)).filter _) fun t ht => by
          obtain ⟨t1, t2⟩ := less_iff.mp ht
          exact less_iff.mpr ⟨hall t t1 t2, t2⟩
        have h2 := inL_less f Y
        have h3 := inL_less g Y
        have h4 := inL_cm hY (nd6 (h6 f hf))
        have h5 := inL_cm hY (nd6 (h6 g hg'))
        have h7 := hg.1 f hf g hg'
        have h8 := hg.1 g hg' f hf
        omega
      obtain ⟨xf, xg⟩ := less_iff.mp hx
      have hgo := hg.2 f hf g hg' x hx
      unfold goB at hgo
      obtain ⟨y, hy1, hin⟩ := List.any_eq_true.mp hgo
      obtain ⟨yg, yf⟩ := less_iff.mp hy1
      have hin : swp f x y ∈ ls := List.contains_iff_mem.mp hin
      have y6 := F_mem g (h6 g hg') y yg
      have hd := less_swp_goal (h6 f hf) (h6 g hg') xf xg yg yf
      refine ih (swp f x y) hin (by omega) ?_
      have h1 : (inL X f).length ≤ (inL X (swp f x y)).length := inL_le hX fun t t1 t2 => ⟨t1, (swp_mem (h6 f hf) xf y6 t).mpr (.inl ⟨t2, fun z => hxY (by rw [← z]; exact hs t t1)⟩)⟩
      have h2 := mX (swp f x y) hin
      omega
  exact key _ f hf (Nat.le_refl _) ef.symm
/-- what one or both have -/
def unL (a b : List Int) : List Int := six.filter fun t => a.contains t || b.contains t
theorem unL_nd (a b : List Int) : (unL a b).Nodup := (by decide : (six : List Int).Nodup).filter _
theorem unL_iff {a b : List Int} (ha : ∀ x ∈ a, x ∈ six) (hb : ∀ x ∈ b, x ∈ six) {t : Int} : t ∈ unL a b ↔ t ∈ a ∨ t ∈ b := by
  unfold unL
  rw [List.mem_filter]
  simp only [Bool.or_eq_true, List.contains_iff_mem]
  constructor
  · exact fun h => h.2
  · rintro (h | h)
    · exact ⟨ha t h, .inl h⟩
    · exact ⟨hb t h, .inr h⟩
theorem rk_sums {ls : List (List Int)} (hn : ls ≠ []) (h6 : ∀ l ∈ ls, l ∈ L6) (hg : GoodH ls) {a b : List Int} (ha : a ∈ L6) (hb : b ∈ L6) : rk ls (inL a b) + rk ls (unL a b) ≤ rk ls a + rk ls b := by
  have sa := F_mem a ha
  have sb := F_mem b hb
  obtain ⟨f, hf, e1, e2⟩ := both_most hn h6 hg (inL_nd (b := b) (nd6 ha)) (unL_nd a b) fun t ht => (unL_iff sa sb).mpr (.inl (inL_iff.mp ht).1)
  have m1 := (rk_spec hn a).2 f hf
  have m2 := (rk_spec hn b).2 f hf
  have h1 : (inL (unL a b) f).length ≤ (inL a f ++ less (inL b f) a).length := subs_len (inL_nd (unL_nd a b)) fun t ht => by
    obtain ⟨t1, t2⟩ := inL_iff.mp ht
    rw [List.mem_append]
    by_cases hta : t ∈ a
    · exact .inl (inL_iff.mpr ⟨hta, t2⟩)
    · rcases (unL_iff sa sb).mp t1 with h | h
      · exact absurd h hta
      · exact .inr (less_iff.mpr ⟨inL_iff.mpr ⟨h, t2⟩, hta⟩)
  have h2 : (inL (inL a b) f).length ≤ (inL (inL b f) a).length := inL_le (inL_nd (nd6 ha)) fun t t1 t2 => by
    obtain ⟨t3, t4⟩ := inL_iff.mp t1
    exact ⟨inL_iff.mpr ⟨t4, t2⟩, t3⟩
  have h3 := inL_less (inL b f) a
  rw [List.length_append] at h1
  omega
end K13
end
section
set_option maxHeartbeats 4000000
namespace K13
open PySem PySem.Spec PyProof.Rows L2 B
/-! EG3: sets of persons that an increasing submodular number allows augment; who lacks. -/
theorem incl_len {a b : List Int} (ha : a.Nodup) (h : ∀ t ∈ a, t ∈ b) : a.length ≤ b.length := by
  induction a generalizing b with
  | nil => exact Nat.zero_le _
  | cons x r ih =>
    obtain ⟨h1, h2⟩ := List.nodup_cons.mp ha
    have hx := h x List.mem_cons_self
    have := ih (b := b.erase x) h2 fun t ht => (List.mem_erase_of_ne (fun e => h1 (by rw [← e]; exact ht))).mpr (h t (List.mem_cons_of_mem _ ht))
    have hp : 0 < b.length := List.length_pos_of_mem hx
    rw [List.length_erase_of_mem hx] at this
    show r.length + 1 ≤ _
    omega
structure Poly (f : List Int → Int) : Prop where
  nil : f [] = 0
  mono : ∀ {K L : List Int}, (∀ t ∈ K, t ∈ L) → f K ≤ f L
  sub : ∀ K L : List Int, f (K ++ L) + f (inL K L) ≤ f K + f L
def IP (f : List Int → Int) (X : List Int) : Prop := ∀ K : List Int, K.Nodup → (∀ t ∈ K, t ∈ X) → ((K.length : Nat) : Int) ≤ f K
section
variable {f : List Int → Int} (h : Poly f)
include h
theorem Poly.inv {K L : List Int} (e : ∀ t, t ∈ K ↔ t ∈ L) : f K = f L := Int.le_antisymm (h.mono fun t ht => (e t).mp ht) (h.mono fun t ht => (e t).mpr ht)
/-- what cannot come to an allowed set is held by a tight part of it -/
theorem Poly.tight {X : List Int} (hX : X.Nodup) (i : IP f X) {y : Int} (hy : y ∉ X) (no : ¬ IP f (y :: X)) : ∃ T : List Int, T.Nodup ∧ (∀ t ∈ T, t ∈ X) ∧ f T = ((T.length : Nat) : Int) ∧ f (y :: T) = ((T.length : Nat) : Int) := by
  by_cases hK : ∃ K : List Int, K.Nodup ∧ (∀ t ∈ K, t ∈ y :: X) ∧ f K < ((K.length : Nat) : Int)
  · obtain ⟨K, nd, hs, hlt⟩ := hK
    have hyK : y ∈ K := by
      by_cases e : y ∈ K
      · exact e
      · have := i K nd fun t ht => (List.mem_cons.mp (hs t ht)).resolve_left fun z => e (by rw [← z]; exact ht)
        omega
    have hT : ∀ t ∈ K.erase y, t ∈ X := fun t ht => by
      obtain ⟨h1, h2⟩ := (nd.mem_erase_iff).mp ht
      exact (List.mem_cons.mp (hs t h2)).resolve_left h1
    have h1 := i (K.erase y) (nd.erase y) hT
    have h2 : f (K.erase y) ≤ f K := h.mono fun t ht => List.mem_of_mem_erase ht
    have h3 : f (y :: K.erase y) = f K := h.inv fun t => by
      rw [List.mem_cons]
      constructor
      · rintro (rfl | ht)
        · exact hyK
        · exact List.mem_of_mem_erase ht
      · intro ht
        by_cases e : t = y
        · exact .inl e
        · exact .inr ((List.mem_erase_of_ne e).mpr ht)
    have h4 := List.length_erase_of_mem hyK
    have h5 : 0 < K.length := List.length_pos_of_mem hyK
    exact ⟨K.erase y, nd.erase y, hT, by omega, by omega⟩
  · refine absurd (fun K nd hs => ?_) no
    by_cases e : ((K.length : Nat) : Int) ≤ f K
    · exact e
    · exact absurd ⟨K, nd, hs, by omega⟩ hK
/-- one tight part for all that cannot come -/
theorem Poly.all {X : List Int} (hX : X.Nodup) (i : IP f X) : ∀ Z : List Int, (∀ y ∈ Z, y ∉ X ∧ ¬ IP f (y :: X)) → ∃ T : List Int, T.Nodup ∧ (∀ t ∈ T, t ∈ X) ∧ f T = ((T.length : Nat) : Int) ∧ f (Z ++ T) = ((T.length : Nat) : Int)
  | [], _ => ⟨[], .nil, (fun _ ht => nomatch ht), h.nil, h.nil⟩
  | y :: Z, hz => by
    obtain ⟨T, nT, sT, tT, uT⟩ := Poly.all hX i Z fun z hm => hz z (List.mem_cons_of_mem _ hm)
    obtain ⟨hy, no⟩ := hz y List.mem_cons_self
    obtain ⟨S, nS, sS, tS, uS⟩ := h.tight hX i hy no
    have nU : (T ++ less S T).Nodup := by
      refine List.nodup_append.mpr ⟨nT, nS.filter _, fun a ha b hb e => ?_⟩
      subst e
      exact (less_iff.mp hb).2 ha
    have sU : ∀ t ∈ T ++ less S T, t ∈ X := fun t ht => by
      rcases List.mem_append.mp ht with ht | ht
      · exact sT t ht
      · exact sS t (less_iff.mp ht).1
    have mU : ∀ t, t ∈ T ++ less S T ↔ t ∈ T ++ S := fun t => by
      rw [List.mem_append, List.mem_append, less_iff]
      constructor
      · rintro (ht | ht)
        · exact .inl ht
        · exact .inr ht.1
      · rintro (ht | ht)
        · exact .inl ht
        · by_cases e : t ∈ T
          · exact .inl e
          · exact .inr ⟨ht, e⟩
    have lU : (T ++ less S T).length + (inL T S).length = T.length + S.length := by
      rw [List.length_append]
      have h1 := inL_less S T
      have h2 := inL_cm nT nS
      omega
    have i1 := i (T ++ less S T) nU sU
    have i2 := i (inL T S) (inL_nd nT) fun t ht => sT t (inL_iff.mp ht).1
    have s1 := h.sub T S
    rw [← h.inv mU] at s1
    have s2 := h.sub (Z ++ T) (y :: S)
    have m1 : f (inL T S) ≤ f (inL (Z ++ T) (y :: S)) := h.mono fun t ht => by
      obtain ⟨a, b⟩ := inL_iff.mp ht
      exact inL_iff.mpr ⟨List.mem_append_right _ a, List.mem_cons_of_mem _ b⟩
    have m2 : f (Z ++ T ++ y :: S) = f (y :: Z ++ (T ++ less S T)) := h.inv fun t => by
      simp only [List.mem_append, List.mem_cons, less_iff]
      by_cases e : t ∈ T
      · simp [e]
      · simp [e]
        constructor
        · rintro (a | a | a)
          · exact .inl (.inr a)
          · exact .inl (.inl a)
          · exact .inr a
        · rintro ((a | a) | a)
          · exact .inr (.inl a)
          · exact .inl a
          · exact .inr (.inr a)
    have m3 : f (T ++ less S T) ≤ f (y :: Z ++ (T ++ less S T)) := h.mono fun t ht => List.mem_append_right _ ht
    exact ⟨T ++ less S T, nU, sU, by omega, by omega⟩
/-- who lacks when no one more can come -/
theorem Poly.lack {X W : List Int} (nX : X.Nodup) (nW : W.Nodup) (hs : ∀ t ∈ X, t ∈ W) (i : IP f X) (no : ∀ y ∈ W, y ∉ X → ¬ IP f (y :: X)) : ∃ K : List Int, K.Nodup ∧ (∀ t ∈ K, t ∈ W) ∧ ((K.length : Nat) : Int) - f K = ((W.length : Nat) : Int) - ((X.length : Nat) : Int) := by
  obtain ⟨T, nT, sT, tT, uT⟩ := h.all nX i (less W X) fun y hy => by
    obtain ⟨a, b⟩ := less_iff.mp hy
    exact ⟨b, no y a b⟩
  refine ⟨less W X ++ T, List.nodup_append.mpr ⟨nW.filter _, nT, fun a ha b hb e => ?_⟩, fun t ht => ?_, ?_⟩
  · subst e
    exact (less_iff.mp ha).2 (sT a hb)
  · rcases List.mem_append.mp ht with ht | ht
    · exact (less_iff.mp ht).1
    · exact hs t (sT t ht)
  · rw [uT, List.length_append]
    have c1 := inL_less W X
    have c2 : (inL W X).length = X.length := by
      rw [inL_cm nW nX]
      have := inL_less X W
      have e : less X W = [] := by
        cases el : less X W with
        | nil => rfl
        | cons a r =>
          obtain ⟨p, q⟩ := less_iff.mp (show a ∈ less X W by rw [el]; exact List.mem_cons_self)
          exact absurd (hs a p) q
      rw [e] at this
      simpa using this
    omega
end
end K13
end
section
set_option maxHeartbeats 4000000
namespace K13
open PySem PySem.Spec PyProof.Rows L2 B
/-! F5: lots by their numbers. -/
def lotI (i : Nat) : List Int := six.filter fun t => i.testBit t.toNat
def lotsB (n : Nat) : List (List Int) := (List.range (2 ^ n)).map lotI
theorem F_lotI : ∀ i ∈ List.range 64, lotI i ∈ L6 ∧ bits (lotI i) = (i : Nat) := by decide +kernel
theorem F_lotsB : ∀ n ∈ List.range 7, (∀ l ∈ lotsB n, l ∈ L6 ∧ ∀ t ∈ l, t < (n : Int)) ∧ (lotsB n).Nodup ∧ bits (rangeI n) + 1 = 2 ^ n ∧ 2 ^ n ≤ 64 ∧ ∀ l ∈ L6, (∀ t ∈ l, t < (n : Int)) → l ∈ lotsB n := by decide +kernel
theorem F_lotsIn : ∀ m ∈ List.range 7, ∀ l ∈ L6, (∀ t ∈ l, t < (m : Int)) → l ∈ lotsOf (m : Nat) := by decide +kernel
end K13
end
section
set_option maxHeartbeats 4000000
namespace K13
open PySem PySem.Spec PyProof.Rows L2 B
/-! F3: the least bound lots. -/
theorem filt6 {w : List Int} (h : w ∈ L6) (p : Int → Bool) : w.filter p ∈ L6 := L6_of ((L6_pw w h).1.filter p) fun t ht => (L6_pw w h).2 t (List.mem_filter.mp ht).1
end K13
end
section
set_option maxHeartbeats 4000000
namespace K13
open PySem PySem.Spec PyProof.Rows L2 B
/-! F7: choices made of a choice: duals, things taken out, things drawn in. -/
def cmpl (n : Nat) (l : List Int) : List Int := (rangeI n).filter fun t => !l.contains t
theorem cmpl_iff {n : Nat} {l : List Int} {t : Int} : t ∈ cmpl n l ↔ t ∈ rangeI n ∧ t ∉ l := by
  unfold cmpl
  rw [List.mem_filter, Bool.not_eq_true', ← Bool.not_eq_true, List.contains_iff_mem]
theorem mem_rangeI {n : Nat} {t : Int} : t ∈ rangeI n ↔ 0 ≤ t ∧ t < (n : Int) := by
  unfold rangeI
  rw [List.mem_map]
  constructor
  · rintro ⟨k, hk, rfl⟩
    rw [List.mem_range] at hk
    omega
  · rintro ⟨h1, h2⟩
    exact ⟨t.toNat, by rw [List.mem_range]; omega, by omega⟩
theorem F_range6 : ∀ n ∈ List.range 7, rangeI n ∈ L6 := by decide +kernel
theorem range6 {n : Nat} (hn : n ≤ 6) : rangeI n ∈ L6 := F_range6 n (by rw [List.mem_range]; omega)
theorem cmpl6 {n : Nat} (hn : n ≤ 6) (l : List Int) : cmpl n l ∈ L6 := filt6 (range6 hn) _
/-- lots of the first n things -/
def LotN (n : Nat) (l : List Int) : Prop := l ∈ L6 ∧ ∀ t ∈ l, t < (n : Int)
theorem LotN.nn {n : Nat} {l : List Int} (h : LotN n l) {t : Int} (ht : t ∈ l) : t ∈ rangeI n := mem_rangeI.mpr ⟨((L6_pw l h.1).2 t ht).1, h.2 t ht⟩
theorem cmplN {n : Nat} (hn : n ≤ 6) (l : List Int) : LotN n (cmpl n l) := ⟨cmpl6 hn l, fun t ht => (mem_rangeI.mp (cmpl_iff.mp ht).1).2⟩
theorem cmpl_cmpl {n : Nat} (hn : n ≤ 6) {l : List Int} (h : LotN n l) : cmpl n (cmpl n l) = l :=
  ext6 (cmpl6 hn _) h.1 fun t => by
    rw [cmpl_iff, cmpl_iff]
    constructor
    · rintro ⟨h1, h2⟩
      by_cases ht : t ∈ l
      · exact ht
      · exact absurd ⟨h1, ht⟩ h2
    · intro ht
      exact ⟨h.nn ht, fun z => z.2 ht⟩
theorem cmpl_len {n : Nat} (hn : n ≤ 6) {l : List Int} (h : LotN n l) : (cmpl n l).length + l.length = n := by
  have h1 : ((rangeI n).filter fun t => l.contains t).length = l.length := by
    have : ((rangeI n).filter fun t => l.contains t) = l := ext6 (filt6 (range6 hn) _) h.1 fun t => by
      rw [List.mem_filter, List.contains_iff_mem]
      exact ⟨fun z => z.2, fun z => ⟨h.nn z, z⟩⟩
    rw [this]
  have h2 : ((rangeI n).filter fun t => l.contains t).length + (cmpl n l).length = (rangeI n).length := inL_less (rangeI n) l
  have h3 : (rangeI n).length = n := by unfold rangeI; rw [List.length_map, List.length_range]
  omega
structure Cho (n : Nat) (ls : List (List Int)) : Prop where
  ho : HeapOk (n : Nat) ls
  hg : GoodH ls
section
variable {n : Nat} {ls : List (List Int)}
theorem Cho.hi (h : Cho n ls) : n ≤ 6 := by have := h.ho.hi; omega
theorem Cho.lot (h : Cho n ls) {a : List Int} (ha : a ∈ ls) : LotN n a := h.ho.mem a ha
theorem Cho.l6 (h : Cho n ls) {a : List Int} (ha : a ∈ ls) : a ∈ L6 := (h.ho.mem a ha).1
theorem Cho.all6 (h : Cho n ls) : ∀ a ∈ ls, a ∈ L6 := fun a ha => (h.ho.mem a ha).1
theorem Cho.len (h : Cho n ls) {a b : List Int} (ha : a ∈ ls) (hb : b ∈ ls) : a.length = b.length := by
  have h1 := h.hg.1 a ha b hb
  have h2 := h.hg.1 b hb a ha
  omega
theorem Cho.ex (h : Cho n ls) {a b : List Int} (ha : a ∈ ls) (hb : b ∈ ls) {t : Int} (ht : t ∈ a) (hn : t ∉ b) : ∃ u ∈ b, u ∉ a ∧ ins (drp a t) u ∈ ls := by
  have := h.hg.2 a ha b hb t (less_iff.mpr ⟨ht, hn⟩)
  unfold goB at this
  obtain ⟨u, hu, hc⟩ := List.any_eq_true.mp this
  exact ⟨u, (less_iff.mp hu).1, (less_iff.mp hu).2, List.contains_iff_mem.mp hc⟩
theorem Cho.back (h : Cho n ls) {a b : List Int} (ha : a ∈ ls) (hb : b ∈ ls) {t : Int} (ht : t ∈ b) (hn : t ∉ a) : ∃ y ∈ a, y ∉ b ∧ ins (drp a y) t ∈ ls := by
  obtain ⟨y, hy, h2⟩ := good_back h.all6 h.hg ha hb (less_iff.mpr ⟨ht, hn⟩)
  exact ⟨y, (less_iff.mp hy).1, (less_iff.mp hy).2, h2⟩
theorem Cho.nd (h : Cho n ls) : ls.Nodup := h.ho.inc.imp fun {a b} hab e => by
  subst e
  exact List.lt_irrefl _ hab
end
/-- the choice of the lots that a test takes -/
def chF (m : Nat) (p : List Int → Bool) : List (List Int) := sortLots ((lotsB m).filter p)
theorem mem_lotsB {m : Nat} (hm : m ≤ 6) {l : List Int} : l ∈ lotsB m ↔ LotN m l := by
  obtain ⟨b1, _, _, _, b5⟩ := F_lotsB m (by rw [List.mem_range]; omega)
  exact ⟨fun h => b1 l h, fun h => b5 l h.1 h.2⟩
theorem mem_chF {m : Nat} (hm : m ≤ 6) {p : List Int → Bool} {l : List Int} : l ∈ chF m p ↔ LotN m l ∧ p l = true := by
  unfold chF
  rw [(sortLots_perm _).mem_iff, List.mem_filter, mem_lotsB hm]
theorem chF_congr {m : Nat} (hm : m ≤ 6) {p q : List Int → Bool} (h : ∀ l, LotN m l → p l = q l) : chF m p = chF m q := by
  unfold chF
  rw [List.filter_congr fun l hl => h l ((mem_lotsB hm).mp hl)]
theorem len_of_eq {a b : List Int} (ha : a ∈ L6) (hb : b ∈ L6) (h : ∀ t ∈ a, t ∈ b) (hl : a.length = b.length) : a = b := by
  refine ext6 ha hb fun t => ⟨h t, fun ht => ?_⟩
  by_cases hm : t ∈ a
  · exact hm
  · have := subs_len (l := t :: a) (m := b) (List.nodup_cons.mpr ⟨hm, nd6 ha⟩) fun u hu => by
      rcases List.mem_cons.mp hu with rfl | hu
      · exact ht
      · exact h u hu
    rw [List.length_cons] at this
    omega
theorem cho_of {m : Nat} (hm : m ≤ 6) {p : List Int → Bool} (hne : ∃ l, LotN m l ∧ p l = true) (hl : ∀ a b, LotN m a → LotN m b → p a = true → p b = true → a.length = b.length)
    (hx : ∀ a b, LotN m a → LotN m b → p a = true → p b = true → ∀ t ∈ a, t ∉ b → ∃ u ∈ b, u ∉ a ∧ p (ins (drp a t) u) = true) : Cho m (chF m p) := by
  have b2 := (F_lotsB m (by rw [List.mem_range]; omega)).2.1
  have hz := (F_lotsB m (by rw [List.mem_range]; omega)).2.2.2.1
  refine ⟨⟨by omega, by omega, fun z => ?_, ?_, fun l h => ((mem_chF hm).mp h).1, sortLots_inc (b2.filter _), fun a ha b hb hne hs => hne ?_⟩, fun a ha b hb => ?_, fun a ha b hb t ht => ?_⟩
  · obtain ⟨l, h1, h2⟩ := hne
    have := (mem_chF hm).mpr ⟨h1, h2⟩
    rw [z] at this
    cases this
  · unfold chF
    rw [(sortLots_perm _).length_eq]
    refine Nat.le_trans (List.length_filter_le _ _) ?_
    unfold lotsB
    rw [List.length_map, List.length_range]
    exact hz
  · obtain ⟨a1, a2⟩ := (mem_chF hm).mp ha
    obtain ⟨b1, b2⟩ := (mem_chF hm).mp hb
    exact len_of_eq a1.1 b1.1 hs (hl a b a1 b1 a2 b2)
  · obtain ⟨a1, a2⟩ := (mem_chF hm).mp ha
    obtain ⟨b1, b2⟩ := (mem_chF hm).mp hb
    rw [hl a b a1 b1 a2 b2]
    exact Nat.lt_irrefl _
  · obtain ⟨a1, a2⟩ := (mem_chF hm).mp ha
    obtain ⟨b1, b2⟩ := (mem_chF hm).mp hb
    obtain ⟨hta, htb⟩ := less_iff.mp ht
    obtain ⟨u, hu, hua, hp⟩ := hx a b a1 b1 a2 b2 t hta htb
    have u6 := F_mem b b1.1 u hu
    have d6 := (F_drp a a1.1 t (F_mem a a1.1 t hta)).2
    unfold goB
    refine List.any_eq_true.mpr ⟨u, less_iff.mpr ⟨hu, hua⟩, List.contains_iff_mem.mpr ((mem_chF hm).mpr ⟨⟨(F_ins _ d6 u u6).2, fun x hx => ?_⟩, hp⟩)⟩
    rcases (ins_mem d6 u6).mp hx with h | h
    · exact a1.2 x (drp_mem.mp h).1
    · rw [h]; exact b1.2 u hu
/-! ### the dual -/
def dualF (n : Nat) (ls : List (List Int)) : List (List Int) := chF n fun g => ls.contains (cmpl n g)
theorem mem_dualF {n : Nat} (hn : n ≤ 6) {ls : List (List Int)} {g : List Int} : g ∈ dualF n ls ↔ LotN n g ∧ cmpl n g ∈ ls := by
  unfold dualF
  rw [mem_chF hn, List.contains_iff_mem]
theorem ins_in {a : List Int} {t x : Int} (ha : a ∈ L6) {b : List Int} (hb : b ∈ L6) (ht : t ∈ b) : x ∈ ins a t ↔ x ∈ a ∨ x = t := ins_mem ha (F_mem b hb t ht)
theorem swp_in {a b : List Int} (ha : a ∈ L6) (hb : b ∈ L6) {t u x : Int} (ht : t ∈ a) (hu : u ∈ b) : x ∈ ins (drp a t) u ↔ (x ∈ a ∧ x ≠ t) ∨ x = u := by
  rw [ins_in (F_drp a ha t (F_mem a ha t ht)).2 hb hu, drp_mem]
theorem swp_6 {a b : List Int} (ha : a ∈ L6) (hb : b ∈ L6) {t u : Int} (ht : t ∈ a) (hu : u ∈ b) : ins (drp a t) u ∈ L6 := (F_ins _ (F_drp a ha t (F_mem a ha t ht)).2 u (F_mem b hb u hu)).2
theorem Cho.dual {n : Nat} {ls : List (List Int)} (h : Cho n ls) : Cho n (dualF n ls) := by
  have hn := h.hi
  refine cho_of hn ?_ (fun a b ha hb pa pb => ?_) fun a b ha hb pa pb t hta htb => ?_
  · obtain ⟨f, hf⟩ := List.exists_mem_of_ne_nil _ h.ho.ne
    exact ⟨cmpl n f, cmplN hn f, List.contains_iff_mem.mpr (by rw [cmpl_cmpl hn (h.lot hf)]; exact hf)⟩
  · rw [List.contains_iff_mem] at pa pb
    have h1 := h.len pa pb
    have h2 := cmpl_len hn ha
    have h3 := cmpl_len hn hb
    omega
  · rw [List.contains_iff_mem] at pa pb
    have tB : t ∉ cmpl n a := fun z => (cmpl_iff.mp z).2 hta
    have tA : t ∈ cmpl n b := cmpl_iff.mpr ⟨ha.nn hta, htb⟩
    obtain ⟨y, hy, hyn, hs⟩ := h.back pa pb tA tB
    have hyr := (cmpl_iff.mp hy).1
    have hya := (cmpl_iff.mp hy).2
    have hyb : y ∈ b := by
      by_cases z : y ∈ b
      · exact z
      · exact absurd (cmpl_iff.mpr ⟨hyr, z⟩) hyn
    refine ⟨y, hyb, hya, List.contains_iff_mem.mpr ?_⟩
    have e : cmpl n (ins (drp a t) y) = ins (drp (cmpl n a) y) t := ext6 (cmpl6 hn _) (swp_6 (cmpl6 hn a) ha.1 hy hta) fun x => by
      rw [cmpl_iff, swp_in ha.1 hb.1 hta hyb, swp_in (cmpl6 hn a) ha.1 hy hta, cmpl_iff]
      have := ha.nn hta
      grind
    rw [e]
    exact hs
end K13
end
section
set_option maxHeartbeats 4000000
namespace K13
open PySem PySem.Spec PyProof.Rows L2 B
/-! F8: things drawn in, taken out. -/
def kat (kept : List Int) (i : Int) : Int := kept.getD i.toNat 0
/-- a lot numbered anew by the things that are kept -/
def sqL (kept f : List Int) : List Int := (rangeI kept.length).filter fun i => f.contains (kat kept i)
theorem sq_iff {kept f : List Int} {i : Int} : i ∈ sqL kept f ↔ i ∈ rangeI kept.length ∧ kat kept i ∈ f := by
  unfold sqL
  rw [List.mem_filter, List.contains_iff_mem]
theorem kat_mem {kept : List Int} {i : Int} (h : i ∈ rangeI kept.length) : kat kept i ∈ kept := by
  obtain ⟨h0, h1⟩ := mem_rangeI.mp h
  unfold kat
  have : i.toNat < kept.length := by omega
  rw [List.getD_eq_getElem?_getD, List.getElem?_eq_getElem this]
  exact List.getElem_mem this
theorem kat_at {kept : List Int} {t : Int} (h : t ∈ kept) : ∃ i ∈ rangeI kept.length, kat kept i = t := by
  obtain ⟨j, hj, e⟩ := List.mem_iff_getElem.mp h
  refine ⟨(j : Nat), mem_rangeI.mpr ⟨by omega, by omega⟩, ?_⟩
  unfold kat
  rw [Int.toNat_natCast, List.getD_eq_getElem?_getD, List.getElem?_eq_getElem hj, e]
  rfl
theorem kat_inj {kept : List Int} (nd : kept.Nodup) {i j : Int} (hi : i ∈ rangeI kept.length) (hj : j ∈ rangeI kept.length) (e : kat kept i = kat kept j) : i = j := by
  obtain ⟨a0, a1⟩ := mem_rangeI.mp hi
  obtain ⟨b0, b1⟩ := mem_rangeI.mp hj
  have h1 : i.toNat < kept.length := by omega
  have h2 : j.toNat < kept.length := by omega
  unfold kat at e
  rw [List.getD_eq_getElem?_getD, List.getElem?_eq_getElem h1, List.getD_eq_getElem?_getD, List.getElem?_eq_getElem h2] at e
  have := (List.getElem_inj nd (h₀ := h1) (h₁ := h2)).mp e
  omega
theorem sq_len {kept f : List Int} (nd : kept.Nodup) : (sqL kept f).length = (inL kept f).length := by
  have nr : (sqL kept f).Nodup := by
    unfold sqL rangeI
    exact ((List.nodup_range).map (f := fun i => ((i : Nat) : Int)) (fun a b h1 h2 => h1 (Int.ofNat_inj.mp h2))).filter _
  have hm : ((sqL kept f).map (kat kept)).Nodup := by
    refine List.Pairwise.map _ (R := fun i j => i ∈ sqL kept f ∧ j ∈ sqL kept f ∧ i ≠ j) (fun i j ⟨hi, hj, hne⟩ e => hne (kat_inj nd (sq_iff.mp hi).1 (sq_iff.mp hj).1 e)) ?_
    exact List.Pairwise.imp_of_mem (fun hi hj hne => ⟨hi, hj, hne⟩) nr
  have h1 := subs_len hm (m := inL kept f) fun x hx => by
    obtain ⟨i, hi, rfl⟩ := List.mem_map.mp hx
    exact inL_iff.mpr ⟨kat_mem (sq_iff.mp hi).1, (sq_iff.mp hi).2⟩
  have hi2 : (inL kept f).Nodup := inL_nd nd
  have h2 := subs_len hi2 (m := (sqL kept f).map (kat kept)) fun x hx => by
    obtain ⟨hk, hf⟩ := inL_iff.mp hx
    obtain ⟨i, hi, e⟩ := kat_at hk
    exact List.mem_map.mpr ⟨i, sq_iff.mpr ⟨hi, by rw [e]; exact hf⟩, e⟩
  rw [List.length_map] at h1 h2
  omega
theorem sqN {kept : List Int} (hm : kept.length ≤ 6) (f : List Int) : LotN kept.length (sqL kept f) := ⟨filt6 (range6 hm) _, fun t ht => (mem_rangeI.mp (sq_iff.mp ht).1).2⟩
theorem cmpl_len6 {n : Nat} (hn : n ≤ 6) (l : List Int) : (cmpl n l).length ≤ 6 := F_len _ (cmpl6 hn l)
/-- most things of a lot in one full -/
def mostIn (ls : List (List Int)) (l : List Int) (f : List Int) : Bool := decide ((((inL f l).length : Nat) : Int) = maxI (ls.map fun f => (((inL f l).length : Nat) : Int)))
theorem mostIn_iff {ls : List (List Int)} (hne : ls ≠ []) {l f : List Int} (hf : f ∈ ls) : mostIn ls l f = true ↔ ∀ g ∈ ls, (inL g l).length ≤ (inL f l).length := by
  unfold mostIn
  rw [decide_eq_true_eq]
  have hne2 : (ls.map fun f => (((inL f l).length : Nat) : Int)) ≠ [] := by simpa using hne
  obtain ⟨h1, h2⟩ := maxI_spec hne2
  constructor
  · intro e g hg
    have := h2 _ (List.mem_map.mpr ⟨g, hg, rfl⟩)
    omega
  · intro h
    obtain ⟨g, hg, eg⟩ := List.mem_map.mp h1
    have a := h g hg
    have b := h2 _ (List.mem_map.mpr ⟨f, hf, rfl⟩)
    omega
theorem mostIn_ex {ls : List (List Int)} (hne : ls ≠ []) (l : List Int) : ∃ f ∈ ls, mostIn ls l f = true := by
  have hne2 : (ls.map fun f => (((inL f l).length : Nat) : Int)) ≠ [] := by simpa using hne
  obtain ⟨f, hf, ef⟩ := List.mem_map.mp (maxI_spec hne2).1
  exact ⟨f, hf, by unfold mostIn; rw [decide_eq_true_eq]; exact ef⟩
def drawnP (n : Nat) (ls : List (List Int)) (l g : List Int) : Bool := ls.any fun f => mostIn ls l f && decide (sqL (cmpl n l) f = g)
def drawnF (n : Nat) (ls : List (List Int)) (l : List Int) : List (List Int) := chF (cmpl n l).length (drawnP n ls l)
def withoutP (n : Nat) (ls : List (List Int)) (l g : List Int) : Bool := ls.any fun f => mostIn ls (cmpl n l) f && decide (sqL (cmpl n l) f = g)
def withoutF (n : Nat) (ls : List (List Int)) (l : List Int) : List (List Int) := chF (cmpl n l).length (withoutP n ls l)
theorem drawnP_iff {n : Nat} {ls : List (List Int)} {l g : List Int} : drawnP n ls l g = true ↔ ∃ f ∈ ls, mostIn ls l f = true ∧ sqL (cmpl n l) f = g := by
  unfold drawnP
  simp only [List.any_eq_true, Bool.and_eq_true, decide_eq_true_eq]
theorem withoutP_iff {n : Nat} {ls : List (List Int)} {l g : List Int} : withoutP n ls l g = true ↔ ∃ f ∈ ls, mostIn ls (cmpl n l) f = true ∧ sqL (cmpl n l) f = g := by
  unfold withoutP
  simp only [List.any_eq_true, Bool.and_eq_true, decide_eq_true_eq]
theorem inL_comm {a b : List Int} (ha : a.Nodup) (hb : b.Nodup) : (inL a b).length = (inL b a).length := inL_cm ha hb
/-- things of a full: those in a lot, those kept -/
theorem full_parts {n : Nat} (hn : n ≤ 6) {f l : List Int} (hf : LotN n f) : (inL f l).length + (inL (cmpl n l) f).length = f.length := by
  have h1 := inL_less f l
  have h2 : (inL (cmpl n l) f).length = (less f l).length := by
    have e : inL (cmpl n l) f = less f l := ext6 (filt6 (cmpl6 hn l) _) (filt6 hf.1 _) fun t => by
      rw [inL_iff, cmpl_iff, less_iff]
      exact ⟨fun z => ⟨z.2, z.1.2⟩, fun z => ⟨⟨hf.nn z.1, z.2⟩, z.1⟩⟩
    rw [e]
  omega
section
variable {n : Nat} {ls : List (List Int)} (h : Cho n ls) (l : List Int)
include h
/-- a full that has the lot's things of one, all other things of another -/
theorem Cho.mixed {f g : List Int} (hf : f ∈ ls) (hg : g ∈ ls) (mf : mostIn ls l f = true) (mg : mostIn ls l g = true) : ∃ f' ∈ ls, (∀ t ∈ l, t ∈ f' ↔ t ∈ f) ∧ ∀ t, t ∉ l → (t ∈ f' ↔ t ∈ g) := by
  have hn := h.hi
  obtain ⟨f', hf', hX, hs⟩ := grow_free h.all6 h.hg (X := inL f l) hg _ f hf (fun t ht => (inL_iff.mp ht).1) rfl
  have mf' := (mostIn_iff h.ho.ne hf).mp mf f' hf'
  have mg' := (mostIn_iff h.ho.ne hg).mp mg f hf
  have mf2 := (mostIn_iff h.ho.ne hf).mp mf g hg
  have nf' := nd6 (h.l6 hf')
  have e1 : inL f l = inL f' l := len_of_eq (filt6 (h.l6 hf) _) (filt6 (h.l6 hf') _) (fun t ht => inL_iff.mpr ⟨hX t ht, (inL_iff.mp ht).2⟩) (by
    have := subs_len (inL_nd (b := l) (nd6 (h.l6 hf))) (m := inL f' l) fun t ht => inL_iff.mpr ⟨hX t ht, (inL_iff.mp ht).2⟩
    omega)
  have p1 := full_parts hn (l := l) (h.lot hf')
  have p2 := full_parts hn (l := l) (h.lot hg)
  have hlen := h.len hf' hg
  have hout : ∀ t ∈ f', t ∉ l → t ∈ g := fun t ht hl => by
    rcases hs t ht with z | z
    · exact absurd (inL_iff.mp z).2 hl
    · exact z
  have e2 : inL (cmpl n l) f' = inL (cmpl n l) g := len_of_eq (filt6 (cmpl6 hn l) _) (filt6 (cmpl6 hn l) _) (fun t ht => by
    obtain ⟨z1, z2⟩ := inL_iff.mp ht
    exact inL_iff.mpr ⟨z1, hout t z2 (cmpl_iff.mp z1).2⟩) (by
    have := congrArg List.length e1
    omega)
  refine ⟨f', hf', fun t ht => ⟨fun z => ?_, fun z => hX t (inL_iff.mpr ⟨z, ht⟩)⟩, fun t hl => ⟨fun z => hout t z hl, fun z => ?_⟩⟩
  · have : t ∈ inL f l := by rw [e1]; exact inL_iff.mpr ⟨z, ht⟩
    exact (inL_iff.mp this).1
  · have : t ∈ inL (cmpl n l) f' := by rw [e2]; exact inL_iff.mpr ⟨cmpl_iff.mpr ⟨(h.lot hg).nn z, hl⟩, z⟩
    exact (inL_iff.mp this).2
theorem most_len {f g : List Int} (hf : f ∈ ls) (hg : g ∈ ls) (mf : mostIn ls l f = true) (mg : mostIn ls l g = true) : (sqL (cmpl n l) f).length = (sqL (cmpl n l) g).length := by
  have hn := h.hi
  have nk : (cmpl n l).Nodup := nd6 (cmpl6 hn l)
  rw [sq_len nk, sq_len nk]
  have p1 := full_parts hn (l := l) (h.lot hf)
  have p2 := full_parts hn (l := l) (h.lot hg)
  have m1 := (mostIn_iff h.ho.ne hf).mp mf g hg
  have m2 := (mostIn_iff h.ho.ne hg).mp mg f hf
  have := h.len hf hg
  omega
theorem Cho.drawn : Cho (cmpl n l).length (drawnF n ls l) := by
  have hn := h.hi
  have hm := cmpl_len6 hn l
  have nk : (cmpl n l).Nodup := nd6 (cmpl6 hn l)
  have inl6 : ∀ {i : Int} {g : List Int}, i ∈ sqL (cmpl n l) g → i ∈ rangeI (cmpl n l).length ∧ kat (cmpl n l) i ∈ g := fun hi => sq_iff.mp hi
  refine cho_of hm ?_ (fun a b ha hb pa pb => ?_) fun a b ha hb pa pb i hia hib => ?_
  · obtain ⟨f, hf, mf⟩ := mostIn_ex h.ho.ne l
    exact ⟨sqL (cmpl n l) f, sqN hm f, drawnP_iff.mpr ⟨f, hf, mf, rfl⟩⟩
  · obtain ⟨f, hf, mf, rfl⟩ := drawnP_iff.mp pa
    obtain ⟨g, hg, mg, rfl⟩ := drawnP_iff.mp pb
    exact most_len h l hf hg mf mg
  · obtain ⟨f, hf, mf, rfl⟩ := drawnP_iff.mp pa
    obtain ⟨g, hg, mg, rfl⟩ := drawnP_iff.mp pb
    obtain ⟨f', hf', hin, hout⟩ := h.mixed l hf hg mf mg
    obtain ⟨hir, hif⟩ := inl6 hia
    have hil : kat (cmpl n l) i ∉ l := (cmpl_iff.mp (kat_mem hir)).2
    have hig : kat (cmpl n l) i ∉ g := fun z => hib (sq_iff.mpr ⟨hir, z⟩)
    obtain ⟨u, hu, huf, hs⟩ := h.ex hf hf' hif (fun z => hig ((hout _ hil).mp z))
    have hul : u ∉ l := fun z => huf ((hin u z).mp hu)
    have hug : u ∈ g := (hout u hul).mp hu
    obtain ⟨j, hj, ej⟩ := kat_at (kept := cmpl n l) (cmpl_iff.mpr ⟨(h.lot hg).nn hug, hul⟩)
    have hjb : j ∈ sqL (cmpl n l) g := sq_iff.mpr ⟨hj, by rw [ej]; exact hug⟩
    refine ⟨j, hjb, fun z => huf (by have := (sq_iff.mp z).2; rw [ej] at this; exact this), drawnP_iff.mpr ⟨_, hs, ?_, ?_⟩⟩
    · have e : inL (ins (drp f (kat (cmpl n l) i)) u) l = inL f l := ext6 (filt6 (h.l6 hs) _) (filt6 (h.l6 hf) _) fun t => by
        rw [inL_iff, inL_iff, swp_in (h.l6 hf) (h.l6 hg) hif hug]
        constructor
        · rintro ⟨z | z, hl⟩
          · exact ⟨z.1, hl⟩
          · exact absurd (by rw [← z]; exact hl) hul
        · rintro ⟨z, hl⟩
          exact ⟨.inl ⟨z, fun e => hil (by rw [← e]; exact hl)⟩, hl⟩
      refine (mostIn_iff h.ho.ne hs).mpr fun q hq => ?_
      rw [e]
      exact (mostIn_iff h.ho.ne hf).mp mf q hq
    · refine ext6 (sqN hm _).1 (swp_6 (sqN hm f).1 (sqN hm g).1 hia hjb) fun k => ?_
      rw [sq_iff, swp_in (h.l6 hf) (h.l6 hg) hif hug, swp_in (sqN hm f).1 (sqN hm g).1 hia hjb, sq_iff]
      constructor
      · rintro ⟨hk, z | z⟩
        · exact .inl ⟨⟨hk, z.1⟩, fun e => z.2 (by rw [e])⟩
        · exact .inr (kat_inj nk hk hj (by rw [z, ej]))
      · rintro (z | z)
        · exact ⟨z.1.1, .inl ⟨z.1.2, fun e => z.2 (kat_inj nk z.1.1 hir e)⟩⟩
        · rw [z]; exact ⟨hj, .inr ej⟩
/-- taken out: the dual, drawn in, the dual -/
theorem without_eq : withoutF n ls l = dualF (cmpl n l).length (drawnF n (dualF n ls) l) := by
  have hn := h.hi
  have hm := cmpl_len6 hn l
  have nk : (cmpl n l).Nodup := nd6 (cmpl6 hn l)
  have hd := h.dual
  have sqc : ∀ f, sqL (cmpl n l) (cmpl n f) = cmpl (cmpl n l).length (sqL (cmpl n l) f) := fun f => ext6 (sqN hm _).1 (cmpl6 hm _) fun i => by
    rw [sq_iff, cmpl_iff, cmpl_iff, sq_iff]
    constructor
    · rintro ⟨h1, h2, h3⟩
      exact ⟨h1, fun z => h3 z.2⟩
    · rintro ⟨h1, h2⟩
      exact ⟨h1, (cmpl_iff.mp (kat_mem h1)).1, fun z => h2 ⟨h1, z⟩⟩
  have key : ∀ {f}, f ∈ ls → (mostIn (dualF n ls) l (cmpl n f) = true ↔ mostIn ls (cmpl n l) f = true) := fun {f} hf => by
    have hcf : cmpl n f ∈ dualF n ls := (mem_dualF hn).mpr ⟨cmplN hn f, by rw [cmpl_cmpl hn (h.lot hf)]; exact hf⟩
    rw [mostIn_iff hd.ho.ne hcf, mostIn_iff h.ho.ne hf]
    have cnt : ∀ {g}, g ∈ ls → (inL (cmpl n g) l).length + (inL g l).length = (inL (rangeI n) l).length := fun {g} hg => by
      have := inL_less (inL (rangeI n) l) g
      have e1 : inL (inL (rangeI n) l) g = inL g l := ext6 (filt6 (filt6 (range6 hn) _) _) (filt6 (h.l6 hg) _) fun t => by
        rw [inL_iff, inL_iff, inL_iff]
        exact ⟨fun z => ⟨z.2, z.1.2⟩, fun z => ⟨⟨(h.lot hg).nn z.1, z.2⟩, z.1⟩⟩
      have e2 : less (inL (rangeI n) l) g = inL (cmpl n g) l := ext6 (filt6 (filt6 (range6 hn) _) _) (filt6 (cmpl6 hn g) _) fun t => by
        rw [less_iff, inL_iff, inL_iff, cmpl_iff]
        exact ⟨fun z => ⟨⟨z.1.1, z.2⟩, z.1.2⟩, fun z => ⟨⟨z.1.1, z.2⟩, z.1.2⟩⟩
      rw [e1, e2] at this
      omega
    have prt : ∀ {g}, g ∈ ls → (inL g l).length + (inL g (cmpl n l)).length = g.length := fun {g} hg => by
      have := full_parts hn (l := l) (h.lot hg)
      rw [inL_comm nk (nd6 (h.l6 hg))] at this
      exact this
    constructor
    · intro H g hg
      have a := H (cmpl n g) ((mem_dualF hn).mpr ⟨cmplN hn g, by rw [cmpl_cmpl hn (h.lot hg)]; exact hg⟩)
      have c1 := cnt hf
      have c2 := cnt hg
      have d1 := prt hf
      have d2 := prt hg
      have := h.len hf hg
      omega
    · intro H g hg
      obtain ⟨gN, hgl⟩ := (mem_dualF hn).mp hg
      have a := H _ hgl
      have c1 := cnt hf
      have c2 := cnt hgl
      have d1 := prt hf
      have d2 := prt hgl
      rw [cmpl_cmpl hn gN] at c2
      have := h.len hf hgl
      omega
  unfold withoutF
  unfold dualF
  refine chF_congr hm fun g hg => ?_
  rw [Bool.eq_iff_iff, withoutP_iff, List.contains_iff_mem]
  show _ ↔ cmpl (cmpl n l).length g ∈ drawnF n (dualF n ls) l
  unfold drawnF
  rw [mem_chF hm, drawnP_iff]
  constructor
  · rintro ⟨f, hf, mf, rfl⟩
    exact ⟨cmplN hm _, cmpl n f, (mem_dualF hn).mpr ⟨cmplN hn f, by rw [cmpl_cmpl hn (h.lot hf)]; exact hf⟩, (key hf).mpr mf, sqc f⟩
  · rintro ⟨_, f', hf', mf, e⟩
    obtain ⟨fN, hfl⟩ := (mem_dualF hn).mp hf'
    have e0 : cmpl n (cmpl n f') = f' := cmpl_cmpl hn fN
    refine ⟨cmpl n f', hfl, (key hfl).mp (by rw [e0]; exact mf), ?_⟩
    rw [sqc, e, cmpl_cmpl hm hg]
theorem Cho.without : Cho (cmpl n l).length (withoutF n ls l) := by
  rw [without_eq h l]
  exact (h.dual.drawn l).dual
end
end K13
end
section
set_option maxHeartbeats 4000000
namespace K13
open PySem PySem.Spec PyProof.Rows L2 B
/-! F11: ranks of what is left; ranks tell the choice. -/
/-- the things that a lot of numbers names -/
def upL (kept g : List Int) : List Int := six.filter fun t => g.any fun i => decide (kat kept i = t)
theorem up_iff {kept g : List Int} (hk : kept ∈ L6) (hg : ∀ i ∈ g, i ∈ rangeI kept.length) {t : Int} : t ∈ upL kept g ↔ ∃ i ∈ g, kat kept i = t := by
  unfold upL
  rw [List.mem_filter, List.any_eq_true]
  simp only [decide_eq_true_eq]
  exact ⟨fun z => z.2, fun ⟨i, hi, e⟩ => ⟨by rw [← e]; exact F_mem kept hk _ (kat_mem (hg i hi)), i, hi, e⟩⟩
theorem up6 (kept g : List Int) : upL kept g ∈ L6 := filt6 (by decide +kernel) _
theorem up_in {kept g : List Int} (hk : kept ∈ L6) (hg : ∀ i ∈ g, i ∈ rangeI kept.length) : ∀ t ∈ upL kept g, t ∈ kept := fun t ht => by
  obtain ⟨i, hi, rfl⟩ := (up_iff hk hg).mp ht
  exact kat_mem (hg i hi)
theorem up_len {kept g : List Int} (hk : kept ∈ L6) (hg : ∀ i ∈ g, i ∈ rangeI kept.length) (nd : g.Nodup) : (upL kept g).length = g.length := by
  have nk := nd6 hk
  have hm : (g.map (kat kept)).Nodup := List.Pairwise.map _ (R := fun i j => i ∈ g ∧ j ∈ g ∧ i ≠ j) (fun i j ⟨hi, hj, hne⟩ e => hne (kat_inj nk (hg i hi) (hg j hj) e)) (List.Pairwise.imp_of_mem (fun hi hj hne => ⟨hi, hj, hne⟩) nd)
  have h1 := subs_len hm (m := upL kept g) fun x hx => by
    obtain ⟨i, hi, rfl⟩ := List.mem_map.mp hx
    exact (up_iff hk hg).mpr ⟨i, hi, rfl⟩
  have h2 := subs_len (nd6 (up6 kept g)) (m := g.map (kat kept)) fun x hx => by
    obtain ⟨i, hi, e⟩ := (up_iff hk hg).mp hx
    exact List.mem_map.mpr ⟨i, hi, e⟩
  rw [List.length_map] at h1 h2
  omega
theorem up_both {kept g f : List Int} (hk : kept ∈ L6) (hg : ∀ i ∈ g, i ∈ rangeI kept.length) (nd : g.Nodup) : (inL g (sqL kept f)).length = (inL (upL kept g) f).length := by
  have e : upL kept (inL g (sqL kept f)) = inL (upL kept g) f := ext6 (up6 _ _) (filt6 (up6 _ _) _) fun t => by
    have hg2 : ∀ i ∈ inL g (sqL kept f), i ∈ rangeI kept.length := fun i hi => hg i (inL_iff.mp hi).1
    rw [up_iff hk hg2, inL_iff, up_iff hk hg]
    constructor
    · rintro ⟨i, hi, rfl⟩
      obtain ⟨h1, h2⟩ := inL_iff.mp hi
      exact ⟨⟨i, h1, rfl⟩, (sq_iff.mp h2).2⟩
    · rintro ⟨⟨i, hi, rfl⟩, hf⟩
      exact ⟨i, inL_iff.mpr ⟨hi, sq_iff.mpr ⟨hg i hi, hf⟩⟩, rfl⟩
  rw [← e, up_len hk (fun i hi => hg i (inL_iff.mp hi).1) (inL_nd nd)]
theorem up_sq {kept f : List Int} (hk : kept ∈ L6) (hf : f ∈ L6) (hs : ∀ t ∈ f, t ∈ kept) : upL kept (sqL kept f) = f :=
  ext6 (up6 _ _) hf fun t => by
    rw [up_iff hk fun i hi => (sq_iff.mp hi).1]
    constructor
    · rintro ⟨i, hi, rfl⟩
      exact (sq_iff.mp hi).2
    · intro ht
      obtain ⟨i, hi, e⟩ := kat_at (hs t ht)
      exact ⟨i, sq_iff.mpr ⟨hi, by rw [e]; exact ht⟩, e⟩
section
variable {n : Nat} {ls : List (List Int)} (h : Cho n ls) (l : List Int)
include h
theorem rk_nil : rk ls [] = 0 := by
  obtain ⟨⟨f, hf, e⟩, _⟩ := rk_spec h.ho.ne []
  rw [e]
  rfl
theorem rk_without {g : List Int} (hg : LotN (cmpl n l).length g) : rk (withoutF n ls l) g = rk ls (upL (cmpl n l) g) := by
  have hn := h.hi
  have hk := cmpl6 hn l
  have hm := cmpl_len6 hn l
  have hgr : ∀ i ∈ g, i ∈ rangeI (cmpl n l).length := fun i hi => hg.nn hi
  have ndg := nd6 hg.1
  obtain ⟨⟨w, hw, ew⟩, ub⟩ := rk_spec (h.without l).ho.ne g
  obtain ⟨⟨f, hf, ef⟩, uf⟩ := rk_spec h.ho.ne (upL (cmpl n l) g)
  obtain ⟨_, pw⟩ := (mem_chF hm).mp hw
  obtain ⟨f1, hf1, mf1, rfl⟩ := withoutP_iff.mp pw
  have u1 := uf f1 hf1
  rw [up_both hk hgr ndg] at ew
  obtain ⟨f2, hf2, e2, e3⟩ := both_most h.ho.ne h.all6 h.hg (nd6 (up6 (cmpl n l) g)) (nd6 hk) (up_in hk hgr)
  have hf2m : mostIn ls (cmpl n l) f2 = true := (mostIn_iff h.ho.ne hf2).mpr fun q hq => by
    have := (rk_spec h.ho.ne (cmpl n l)).2 q hq
    rw [inL_comm (nd6 (h.l6 hq)) (nd6 hk), inL_comm (nd6 (h.l6 hf2)) (nd6 hk)]
    omega
  have u2 := ub _ ((mem_chF hm).mpr ⟨sqN hm f2, withoutP_iff.mpr ⟨f2, hf2, hf2m, rfl⟩⟩)
  rw [up_both hk hgr ndg] at u2
  omega
theorem un_len {a b f : List Int} (ha : a ∈ L6) (hb : b ∈ L6) (hd : ∀ t ∈ a, t ∉ b) : (inL (unL a b) f).length = (inL a f).length + (inL b f).length := by
  have e := inL_less (inL (unL a b) f) b
  have e1 : (inL (inL (unL a b) f) b) = inL b f := ext6 (filt6 (filt6 (filt6 (by decide +kernel) _) _) _) (filt6 hb _) fun t => by
    rw [inL_iff, inL_iff, inL_iff, unL_iff (fun x hx => F_mem a ha x hx) (fun x hx => F_mem b hb x hx)]
    exact ⟨fun z => ⟨z.2, z.1.2⟩, fun z => ⟨⟨.inr z.1, z.2⟩, z.1⟩⟩
  have e2 : less (inL (unL a b) f) b = inL a f := ext6 (filt6 (filt6 (filt6 (by decide +kernel) _) _) _) (filt6 ha _) fun t => by
    rw [less_iff, inL_iff, inL_iff, unL_iff (fun x hx => F_mem a ha x hx) (fun x hx => F_mem b hb x hx)]
    constructor
    · rintro ⟨⟨z | z, hf⟩, hb⟩
      · exact ⟨z, hf⟩
      · exact absurd z hb
    · rintro ⟨z, hf⟩
      exact ⟨⟨.inl z, hf⟩, hd t z⟩
  rw [e1, e2] at e
  omega
theorem rk_drawn (hl : LotN n l) {g : List Int} (hg : LotN (cmpl n l).length g) : rk (drawnF n ls l) g = rk ls (unL (upL (cmpl n l) g) l) - rk ls l := by
  have hn := h.hi
  have hk := cmpl6 hn l
  have hm := cmpl_len6 hn l
  have hgr : ∀ i ∈ g, i ∈ rangeI (cmpl n l).length := fun i hi => hg.nn hi
  have ndg := nd6 hg.1
  have dj : ∀ t ∈ upL (cmpl n l) g, t ∉ l := fun t ht => (cmpl_iff.mp (up_in hk hgr t ht)).2
  have u6 := up6 (cmpl n l) g
  obtain ⟨⟨w, hw, ew⟩, ub⟩ := rk_spec (h.drawn l).ho.ne g
  obtain ⟨⟨f, hf, ef⟩, uf⟩ := rk_spec h.ho.ne (unL (upL (cmpl n l) g) l)
  obtain ⟨⟨fl, hfl, efl⟩, ufl⟩ := rk_spec h.ho.ne l
  have most : ∀ {q}, q ∈ ls → mostIn ls l q = true → (((inL l q).length : Nat) : Int) = rk ls l := fun {q} hq mq => by
    have a := (mostIn_iff h.ho.ne hq).mp mq fl hfl
    rw [inL_comm (nd6 (h.l6 hfl)) (nd6 hl.1), inL_comm (nd6 (h.l6 hq)) (nd6 hl.1)] at a
    have b := ufl q hq
    omega
  obtain ⟨_, pw⟩ := (mem_chF hm).mp hw
  obtain ⟨f1, hf1, mf1, rfl⟩ := drawnP_iff.mp pw
  have u1 := uf f1 hf1
  rw [un_len h u6 hl.1 dj] at u1
  have m1 := most hf1 mf1
  rw [up_both hk hgr ndg] at ew
  obtain ⟨f2, hf2, e2, e3⟩ := both_most h.ho.ne h.all6 h.hg (nd6 hl.1) (unL_nd _ _) (fun t ht => (unL_iff (fun x hx => F_mem _ u6 x hx) (fun x hx => F_mem l hl.1 x hx)).mpr (.inr ht)) (X := l) (Y := unL (upL (cmpl n l) g) l)
  have hf2m : mostIn ls l f2 = true := (mostIn_iff h.ho.ne hf2).mpr fun q hq => by
    have := ufl q hq
    rw [inL_comm (nd6 (h.l6 hq)) (nd6 hl.1), inL_comm (nd6 (h.l6 hf2)) (nd6 hl.1)]
    omega
  have u2 := ub _ ((mem_chF hm).mpr ⟨sqN hm f2, drawnP_iff.mpr ⟨f2, hf2, hf2m, rfl⟩⟩)
  rw [up_both hk hgr ndg] at u2
  rw [un_len h u6 hl.1 dj] at e3
  omega
end
end K13
end
section
set_option maxHeartbeats 4000000
/-! D66: comprehensions over a tuple whose tests change the store. -/
namespace B
open PySem PySem.Spec PyProof.Rows L2
end B
end
section
set_option maxHeartbeats 4000000
/-! D67: comprehensions whose tests or values change the store; name |= int. -/
namespace B
open PySem PySem.Spec PyProof.Rows L2
section
variable {X : Cx}
theorem ip_or : PIp X .BitOr (ipI fun i j => Builtin.bitOr i j) := by
  intro pins s σ H x y v u Q I r1 r2 h
  obtain ⟨i, j, e1, e2, q⟩ := h
  subst e1; subst e2
  obtain ⟨t, rfl⟩ := r1
  obtain ⟨t', rfl⟩ := r2
  exact ior_int ⟨.int _, H, I.tok _, ⟨_, rfl⟩, q⟩
end
section
variable {Γ : Gam} {ρ : GEnv} {M : Sto} {D : DEnds} {pos : Pos}
theorem d1_augOr (i : Nat) {x : Str} {e : Expr} {p' : Pos} {m : Int} (hv : ρ[i]? = some (some (.d (.int m)))) (h : DE Γ e ρ M fun g M1 => ∃ n, g = .d (.int n) ∧ D.nx (ρ.set i (some (.d (.int (Builtin.bitOr m n))))) M1) (hN : Γ.N[i]? = some x := by rfl) (hx : Loc Γ.sc x := by first | exact Or.inl rfl | exact Or.inr rfl) (ha0 : Γ.asg x = true := by rfl) : D1 Γ (.AugAssign (.Name x p') .BitOr e pos) ρ M D :=
  D1.of (fun X f => ps_aug (i := i) f.nd (by rw [f.N]; exact hN) (by rw [f.sc]; exact hx) (pe_all f e) ip_or (f.fn x (by rw [f.sc]; exact hx) ha0)) fun X f E σ H r h0 k => by
    obtain ⟨v, e1, rv⟩ := r.2 i _ hv
    cases rv
    refine ⟨_, e1, all_of h r h0 fun v H1 g M1 p1 r1 h1 rg ⟨n, e2, q⟩ => ?_⟩
    subst e2
    cases rg
    exact ⟨m, n, rfl, rfl, k.nx _ H1 _ M1 p1 (r1.set i (rgd (Rp.int _))) h1 q⟩
end
section
variable {Γ : Gam} {ρ : GEnv} {M : Sto} {tg iter elt : Expr} {ifs : List Expr} {scope : Scope}
/-- an iterator whose elements hang on no store -/
def PItT (Γ : Gam) (tg iter : Expr) (ρ : GEnv) (M : Sto) (gs : List G) : Prop := ∀ Q : List G → (Sto → Prop) → Sto → Prop, Q gs (fun _ => True) M → DI Γ tg iter ρ M Q
theorem lcP_S {α : Type} {vs : List Nat} {gs : List G} {Q : G → Sto → Prop} (T : Sto → Prop) (inj : α → G) (xs : List α) (t : α → Bool) (F : α → PyData) (hI : PItT Γ tg iter ρ M gs) (hx : gs = xs.map inj) (hz : xs.length ≤ sizeLine) (h0 : T M)
    (hst : ∀ M0 D acc, T M0 → M0 D = none → ∀ x ∈ xs, DC (Γ.blk scope) vs tg (inj x) (wipeG ρ vs) (put M0 D (.lst acc)) fun ρ2 M2 => DTs (Γ.blk scope) ifs ρ2 M2 fun b M3 => b = t x ∧ ((b = false → ∃ M0', T M0' ∧ M0' D = none ∧ M3 = put M0' D (.lst acc)) ∧
      (b = true → DE (Γ.blk scope) elt ρ2 M3 fun y M4 => y = .d (F x) ∧ ∃ M0', T M0' ∧ M0' D = none ∧ M4 = put M0' D (.lst acc))))
    (hq : ∀ M0, T M0 → Q (.d (.list ((xs.filter t).map F))) M0) : LcP Γ tg iter elt ifs scope vs ρ M Q := by
  refine hI _ fun D hD => ?_
  subst hx
  refine ⟨fun i acc M' => acc = (((xs.take i).filter t).map F).map G.d ∧ ∃ M0, T M0 ∧ M0 D = none ∧ M' = put M0 D (.lst acc), ⟨by simp, M, h0, hD, rfl⟩, fun _ _ _ _ _ => trivial, fun i g acc M' eg ⟨ea, M0, hT, hn, e⟩ => ?_, fun acc M' ⟨ea, M0, hT, hn, e⟩ => ?_⟩
  · rw [List.getElem?_map] at eg
    cases ex : xs[i]? with
    | none => rw [ex] at eg; cases eg
    | some x =>
      rw [ex] at eg
      cases eg
      have et : xs.take (i + 1) = xs.take i ++ [x] := by rw [List.take_add_one, ex]; rfl
      have hi : i < xs.length := (List.getElem?_eq_some_iff.mp ex).1
      refine ⟨?_, ?_⟩
      · rw [ea, List.length_map, List.length_map]
        have h1 := List.length_filter_le t (xs.take i)
        rw [List.length_take] at h1
        omega
      · have st := hst M0 D acc hT hn x (List.mem_of_getElem? ex)
        rw [← e] at st
        refine dc_mono st fun ρ2 M2 dts => ⟨fun X f => PTs.mono' (dts.run X f) fun σ H Qv ⟨r, h, k⟩ => ⟨r, h, fun b H' M3 pr h3 ⟨eb, hf, hp⟩ => k b H' M3 pr h3 ?_⟩⟩
        subst eb
        by_cases hp' : t x = true
        · rw [if_pos hp']
          refine DE.mono (hp hp') fun y M4 ⟨ey, M0', hT', hn', e3⟩ => ?_
          subst ey e3
          refine ⟨put_same, ?_, M0', hT', hn', by rw [put_put]⟩
          rw [et, List.filter_append, List.map_append, List.map_append, ← ea]
          simp [hp']
        · rw [if_neg hp']
          obtain ⟨M0', hT', hn', e3⟩ := hf (by simpa using hp')
          refine ⟨?_, M0', hT', hn', e3⟩
          rw [et, List.filter_append, List.map_append, List.map_append, ← ea]
          simp [hp']
  · rw [List.length_map, List.take_length] at ea
    refine ⟨by rw [e]; exact put_same, .inl ⟨_, ea, ?_⟩⟩
    rw [e, del_put hn]
    exact hq M0 hT
end
end B
end
section
set_option maxHeartbeats 4000000
/-! D68: a pair of a value taken as it is and data told apart; set(tuple of ints); tuple(sorted(set(..))). -/
namespace B
open PySem PySem.Spec PyProof.Rows L2
section
variable {Γ : Gam} {ρ : GEnv} {M : Sto} {pos : Pos}
theorem sorted_same {a b : List Int} (ha : a.Pairwise (· < ·)) (hb : b.Pairwise (· < ·)) (h : ∀ k, k ∈ a ↔ k ∈ b) : a = b := by
  have nd : ∀ {l : List Int}, l.Pairwise (· < ·) → l.Nodup := fun h => h.imp fun h => Int.ne_of_lt h
  refine List.Perm.eq_of_pairwise (le := fun a b : Int => a < b) (fun x y _ _ h1 h2 => by omega) ha hb ?_
  rw [List.perm_iff_count]
  intro x
  rw [(nd ha).count, (nd hb).count]
  by_cases hx : x ∈ a
  · rw [if_pos hx, if_pos ((h x).mp hx)]
  · rw [if_neg hx, if_neg fun z => hx ((h x).mpr z)]
end
end B
end
section
set_option maxHeartbeats 4000000
namespace K13
open PySem PySem.Spec PyProof.Rows L2 B
/-! F12: what is left of what is left. -/
theorem kat_lt {N : List Int} (hN : N ∈ L6) {i j : Int} (hi : i ∈ rangeI N.length) (hj : j ∈ rangeI N.length) (h : i < j) : kat N i < kat N j := by
  obtain ⟨a0, a1⟩ := mem_rangeI.mp hi
  obtain ⟨b0, b1⟩ := mem_rangeI.mp hj
  have h1 : i.toNat < N.length := by omega
  have h2 : j.toNat < N.length := by omega
  have := List.pairwise_iff_getElem.mp (L6_pw N hN).1 i.toNat j.toNat h1 h2 (by omega)
  unfold kat
  rw [List.getD_eq_getElem?_getD, List.getElem?_eq_getElem h1, List.getD_eq_getElem?_getD, List.getElem?_eq_getElem h2]
  exact this
theorem pw_map_mem {α β : Type} {r : α → α → Prop} {s : β → β → Prop} {f : α → β} : ∀ {l : List α}, l.Pairwise r → (∀ a ∈ l, ∀ b ∈ l, r a b → s (f a) (f b)) → (l.map f).Pairwise s
  | [], _, _ => .nil
  | a :: l, h, k => by
    obtain ⟨h1, h2⟩ := List.pairwise_cons.mp h
    refine List.pairwise_cons.mpr ⟨fun b hb => ?_, pw_map_mem h2 fun x hx y hy => k x (List.mem_cons_of_mem _ hx) y (List.mem_cons_of_mem _ hy)⟩
    obtain ⟨x, hx, rfl⟩ := List.mem_map.mp hb
    exact k a List.mem_cons_self x (List.mem_cons_of_mem _ hx) (h1 x hx)
theorem kat_comp {N c N' : List Int} (hN : N ∈ L6) (hc : c ∈ L6) (hN' : N' ∈ L6) (hr : ∀ i ∈ c, i ∈ rangeI N.length) (hm : ∀ t, t ∈ N' ↔ ∃ i ∈ c, kat N i = t) : N'.length = c.length ∧ ∀ j ∈ rangeI c.length, kat N' j = kat N (kat c j) := by
  have e : N' = c.map (kat N) := sorted_same (L6_pw N' hN').1 (pw_map_mem (L6_pw c hc).1 fun a ha b hb hab => kat_lt hN (hr a ha) (hr b hb) hab) fun t => by rw [hm t, List.mem_map]
  refine ⟨by rw [e, List.length_map], fun j hj => ?_⟩
  obtain ⟨a0, a1⟩ := mem_rangeI.mp hj
  have h1 : j.toNat < c.length := by omega
  show N'.getD j.toNat 0 = kat N (c.getD j.toNat 0)
  rw [e, List.getD_eq_getElem?_getD, List.getElem?_map, List.getD_eq_getElem?_getD, List.getElem?_eq_getElem h1]
  rfl
theorem up_comp {N c N' : List Int} (hN : N ∈ L6) (hc : c ∈ L6) (hN' : N' ∈ L6) (hr : ∀ i ∈ c, i ∈ rangeI N.length) (hm : ∀ t, t ∈ N' ↔ ∃ i ∈ c, kat N i = t) {g : List Int} (hg : ∀ i ∈ g, i ∈ rangeI c.length) : upL N' g = upL N (upL c g) := by
  obtain ⟨hl, hk⟩ := kat_comp hN hc hN' hr hm
  refine ext6 (up6 _ _) (up6 _ _) fun t => ?_
  rw [up_iff hN' (fun i hi => by rw [hl]; exact hg i hi), up_iff hN (fun i hi => hr i (up_in hc hg i hi))]
  constructor
  · rintro ⟨j, hj, rfl⟩
    exact ⟨kat c j, (up_iff hc hg).mpr ⟨j, hj, rfl⟩, (hk j (hg j hj)).symm⟩
  · rintro ⟨i, hi, rfl⟩
    obtain ⟨j, hj, rfl⟩ := (up_iff hc hg).mp hi
    exact ⟨j, hj, hk j (hg j hj)⟩
theorem six_of {l : List Int} (h : l ∈ L6) : ∀ x ∈ l, x ∈ six := fun x hx => F_mem l h x hx
theorem un6 (a b : List Int) : unL a b ∈ L6 := filt6 (by decide +kernel) _
/-- what is left of a choice -/
structure Mnr (n : Nat) (ls : List (List Int)) (I names : List Int) (here : List (List Int)) : Prop where
  n6 : names ∈ L6
  i6 : LotN n I
  sub : ∀ t ∈ names, t ∈ rangeI n ∧ t ∉ I
  ch : Cho names.length here
  rk : ∀ g, LotN names.length g → rk here g = rk ls (unL (upL names g) I) - K13.rk ls I
theorem nil6 : ([] : List Int) ∈ L6 := by decide +kernel
theorem up_range {n : Nat} (hn : n ≤ 6) {g : List Int} (hg : LotN n g) : upL (rangeI n) g = g := by
  have hl : (rangeI n).length = n := by unfold rangeI; rw [List.length_map, List.length_range]
  have hk : ∀ i ∈ rangeI n, kat (rangeI n) i = i := fun i hi => by
    obtain ⟨a0, a1⟩ := mem_rangeI.mp hi
    unfold kat rangeI
    rw [List.getD_eq_getElem?_getD, List.getElem?_map, List.getElem?_range (by omega)]
    show ((i.toNat : Nat) : Int) = i
    omega
  refine ext6 (up6 _ _) hg.1 fun t => ?_
  rw [up_iff (range6 hn) (fun i hi => by rw [hl]; exact hg.nn hi)]
  constructor
  · rintro ⟨i, hi, rfl⟩
    rw [hk i (hg.nn hi)]
    exact hi
  · intro ht
    exact ⟨t, ht, hk t (hg.nn ht)⟩
theorem un_nil {a : List Int} (ha : a ∈ L6) : unL a [] = a := ext6 (un6 _ _) ha fun t => by
  rw [unL_iff (six_of ha) (six_of nil6)]
  exact ⟨fun z => z.elim id (fun z => nomatch z), .inl⟩
theorem Mnr.start {n : Nat} {ls : List (List Int)} (h : Cho n ls) : Mnr n ls [] (rangeI n) ls := by
  have hl : (rangeI n).length = n := by unfold rangeI; rw [List.length_map, List.length_range]
  refine ⟨range6 h.hi, ⟨nil6, fun t ht => absurd ht List.not_mem_nil⟩, fun t ht => ⟨ht, List.not_mem_nil⟩, by rw [hl]; exact h, fun g hg => ?_⟩
  rw [hl] at hg
  rw [up_range h.hi hg, un_nil hg.1, rk_nil h]
  omega
section
variable {n : Nat} {ls : List (List Int)} {I names : List Int} {here : List (List Int)} (h : Mnr n ls I names here)
include h
/-- things taken out -/
theorem Mnr.out {s N' : List Int} (hs : LotN names.length s) (hN' : N' ∈ L6) (hm : ∀ t, t ∈ N' ↔ ∃ i ∈ cmpl names.length s, kat names i = t) : Mnr n ls I N' (withoutF names.length here s) ∧ N'.length = (cmpl names.length s).length := by
  have hk := F_len _ h.n6
  have c6 := cmpl6 hk s
  have hr : ∀ i ∈ cmpl names.length s, i ∈ rangeI names.length := fun i hi => (cmpl_iff.mp hi).1
  obtain ⟨hl, _⟩ := kat_comp h.n6 c6 hN' hr hm
  refine ⟨⟨hN', h.i6, fun t ht => ?_, by rw [hl]; exact h.ch.without s, fun g hg => ?_⟩, hl⟩
  · obtain ⟨i, hi, rfl⟩ := (hm t).mp ht
    exact h.sub _ (kat_mem (hr i hi))
  · rw [hl] at hg
    have hgr : ∀ i ∈ g, i ∈ rangeI (cmpl names.length s).length := fun i hi => hg.nn hi
    rw [rk_without h.ch s hg, h.rk _ ⟨up6 _ _, fun t ht => (mem_rangeI.mp (hr t (up_in c6 hgr t ht))).2⟩, up_comp h.n6 c6 hN' hr hm hgr]
/-- things drawn in -/
theorem Mnr.into {s N' I' : List Int} (hs : LotN names.length s) (hN' : N' ∈ L6) (hm : ∀ t, t ∈ N' ↔ ∃ i ∈ cmpl names.length s, kat names i = t) (hI' : LotN n I') (hi' : ∀ t, t ∈ I' ↔ t ∈ I ∨ t ∈ upL names s) : Mnr n ls I' N' (drawnF names.length here s) ∧ N'.length = (cmpl names.length s).length := by
  have hk := F_len _ h.n6
  have c6 := cmpl6 hk s
  have hr : ∀ i ∈ cmpl names.length s, i ∈ rangeI names.length := fun i hi => (cmpl_iff.mp hi).1
  have hsr : ∀ i ∈ s, i ∈ rangeI names.length := fun i hi => hs.nn hi
  obtain ⟨hl, _⟩ := kat_comp h.n6 c6 hN' hr hm
  refine ⟨⟨hN', hI', fun t ht => ?_, by rw [hl]; exact h.ch.drawn s, fun g hg => ?_⟩, hl⟩
  · obtain ⟨i, hi, rfl⟩ := (hm t).mp ht
    have h1 := h.sub _ (kat_mem (hr i hi))
    refine ⟨h1.1, fun z => ?_⟩
    rcases (hi' _).mp z with z | z
    · exact h1.2 z
    · obtain ⟨j, hj, e⟩ := (up_iff h.n6 hsr).mp z
      have := kat_inj (nd6 h.n6) (hsr j hj) (hr i hi) e
      rw [this] at hj
      exact (cmpl_iff.mp hi).2 hj
  · rw [hl] at hg
    have hgr : ∀ i ∈ g, i ∈ rangeI (cmpl names.length s).length := fun i hi => hg.nn hi
    have u6 := up6 (cmpl names.length s) g
    have ur : ∀ t ∈ upL (cmpl names.length s) g, t ∈ rangeI names.length := fun t ht => hr t (up_in c6 hgr t ht)
    have unm : ∀ t, t ∈ unL (upL (cmpl names.length s) g) s ↔ t ∈ upL (cmpl names.length s) g ∨ t ∈ s := fun t => unL_iff (six_of u6) (six_of hs.1)
    have unr : ∀ t ∈ unL (upL (cmpl names.length s) g) s, t ∈ rangeI names.length := fun t ht => ((unm t).mp ht).elim (ur t) (hsr t)
    rw [rk_drawn h.ch s hs hg, h.rk _ ⟨un6 _ _, fun t ht => (mem_rangeI.mp (unr t ht)).2⟩, h.rk _ hs, up_comp h.n6 c6 hN' hr hm hgr]
    have e1 : unL (upL names s) I = I' := ext6 (un6 _ _) hI'.1 fun t => by
      rw [unL_iff (six_of (up6 _ _)) (six_of h.i6.1), hi']
      exact or_comm
    have e2 : unL (upL names (unL (upL (cmpl names.length s) g) s)) I = unL (upL names (upL (cmpl names.length s) g)) I' := ext6 (un6 _ _) (un6 _ _) fun t => by
      rw [unL_iff (six_of (up6 _ _)) (six_of h.i6.1), unL_iff (six_of (up6 _ _)) (six_of hI'.1), hi', up_iff h.n6 unr, up_iff h.n6 ur, up_iff h.n6 hsr]
      constructor
      · rintro (⟨i, hi, e⟩ | z)
        · rcases (unm i).mp hi with z | z
          · exact .inl ⟨i, z, e⟩
          · exact .inr (.inr ⟨i, z, e⟩)
        · exact .inr (.inl z)
      · rintro (⟨i, hi, e⟩ | z | ⟨i, hi, e⟩)
        · exact .inl ⟨i, (unm i).mpr (.inl hi), e⟩
        · exact .inr z
        · exact .inl ⟨i, (unm i).mpr (.inr hi), e⟩
    rw [e1, e2]
    omega
end
def leftF (n : Nat) (ls : List (List Int)) (out into : List Int) : List (List Int) := drawnF (cmpl n out).length (withoutF n ls out) (sqL (cmpl n out) into)
def leftN (n : Nat) (out into : List Int) : List Int := cmpl n (unL out into)
theorem leftN_iff {n : Nat} {out into : List Int} (ho : LotN n out) (hi : LotN n into) {t : Int} : t ∈ leftN n out into ↔ t ∈ rangeI n ∧ t ∉ out ∧ t ∉ into := by
  unfold leftN
  rw [cmpl_iff, unL_iff (six_of ho.1) (six_of hi.1), not_or]
theorem Mnr.left {n : Nat} {ls : List (List Int)} (h : Cho n ls) {out into : List Int} (ho : LotN n out) (hi : LotN n into) (hd : ∀ t ∈ into, t ∉ out) : Mnr n ls into (leftN n out into) (leftF n ls out into) ∧ (leftN n out into).length = (cmpl (cmpl n out).length (sqL (cmpl n out) into)).length := by
  have hn := h.hi
  have hl : (rangeI n).length = n := by unfold rangeI; rw [List.length_map, List.length_range]
  have st := Mnr.start h
  have kid : ∀ i ∈ rangeI n, kat (rangeI n) i = i := fun i hi => by
    obtain ⟨a0, a1⟩ := mem_rangeI.mp hi
    unfold kat rangeI
    rw [List.getD_eq_getElem?_getD, List.getElem?_map, List.getElem?_range (by omega)]
    show ((i.toNat : Nat) : Int) = i
    omega
  have k6 := cmpl6 hn out
  obtain ⟨m1, _⟩ := st.out (s := out) (N' := cmpl n out) (by rw [hl]; exact ho) k6 fun t => by
    rw [hl]
    exact ⟨fun z => ⟨t, z, kid t (cmpl_iff.mp z).1⟩, fun ⟨i, z, e⟩ => by rw [← e, kid i (cmpl_iff.mp z).1]; exact z⟩
  rw [hl] at m1
  have sub : ∀ t ∈ into, t ∈ cmpl n out := fun t ht => cmpl_iff.mpr ⟨hi.nn ht, hd t ht⟩
  have es := up_sq k6 hi.1 sub
  have hk := F_len _ k6
  exact m1.into (s := sqL (cmpl n out) into) (N' := leftN n out into) (I' := into) (sqN hk into) (cmpl6 hn _) (fun t => by
    rw [leftN_iff ho hi]
    constructor
    · rintro ⟨h1, h2, h3⟩
      obtain ⟨i, hir, e⟩ := kat_at (kept := cmpl n out) (cmpl_iff.mpr ⟨h1, h2⟩)
      exact ⟨i, cmpl_iff.mpr ⟨hir, fun z => h3 (by rw [← e]; exact (sq_iff.mp z).2)⟩, e⟩
    · rintro ⟨i, hic, rfl⟩
      obtain ⟨h1, h2⟩ := cmpl_iff.mp hic
      have h3 := cmpl_iff.mp (kat_mem h1)
      exact ⟨h3.1, h3.2, fun z => h2 (sq_iff.mpr ⟨h1, z⟩)⟩) hi fun t => by
    rw [es]
    exact ⟨.inr, fun z => z.elim (fun z => nomatch z) id⟩
end K13
end
section
set_option maxHeartbeats 4000000
namespace K13
open PySem PySem.Spec PyProof.Rows L2 B
/-! F14: parts: lots joined. -/
def meets (p c : List Int) : Bool := p.any fun t => c.contains t
theorem meets_iff {p c : List Int} : meets p c = true ↔ ∃ t ∈ p, t ∈ c := by
  unfold meets
  rw [List.any_eq_true]
  simp only [List.contains_iff_mem]
def joinL (ps : List (List Int)) : List Int := six.filter fun t => ps.any fun p => p.contains t
theorem join6 (ps : List (List Int)) : joinL ps ∈ L6 := filt6 (by decide +kernel) _
theorem join_iff {ps : List (List Int)} (h : ∀ p ∈ ps, p ∈ L6) {t : Int} : t ∈ joinL ps ↔ ∃ p ∈ ps, t ∈ p := by
  unfold joinL
  rw [List.mem_filter, List.any_eq_true]
  simp only [List.contains_iff_mem]
  exact ⟨fun z => z.2, fun ⟨p, hp, ht⟩ => ⟨F_mem p (h p hp) t ht, p, hp, ht⟩⟩
/-- the parts that a lot meets are joined -/
def mergeP (ps : List (List Int)) (c : List Int) : List (List Int) := (ps.filter fun p => !meets p c) ++ [joinL (ps.filter fun p => meets p c)]
/-- a division of the first n things -/
structure Div (n : Nat) (ps : List (List Int)) : Prop where
  lot : ∀ p ∈ ps, LotN n p ∧ p ≠ []
  dj : ∀ p ∈ ps, ∀ q ∈ ps, ∀ t, t ∈ p → t ∈ q → p = q
  all : ∀ t ∈ rangeI n, ∃ p ∈ ps, t ∈ p
  nd : ps.Nodup
/-- as fine as lots let it be -/
structure Fine (n : Nat) (C ps : List (List Int)) : Prop where
  d : Div n ps
  one : ∀ c ∈ C, ∃ p ∈ ps, ∀ t ∈ c, t ∈ p
  fine : ∀ S : List Int, (∀ c ∈ C, (∀ t ∈ c, t ∈ S) ∨ ∀ t ∈ c, t ∉ S) → ∀ p ∈ ps, (∀ t ∈ p, t ∈ S) ∨ ∀ t ∈ p, t ∉ S
def singles (n : Nat) : List (List Int) := (rangeI n).map fun t => [t]
theorem F_single : ∀ t ∈ six, [t] ∈ L6 := by decide +kernel
theorem Fine.start {n : Nat} (hn : n ≤ 6) : Fine n [] (singles n) := by
  unfold singles
  refine ⟨⟨fun p hp => ?_, fun p hp q hq t ht ht2 => ?_, fun t ht => ⟨[t], List.mem_map.mpr ⟨t, ht, rfl⟩, List.mem_singleton.mpr rfl⟩, ?_⟩, fun c hc => absurd hc List.not_mem_nil, fun S _ p hp => ?_⟩
  · obtain ⟨t, ht, rfl⟩ := List.mem_map.mp hp
    exact ⟨⟨F_single t (F_mem _ (range6 hn) t ht), fun x hx => by rw [List.mem_singleton.mp hx]; exact (mem_rangeI.mp ht).2⟩, by simp⟩
  · obtain ⟨a, _, rfl⟩ := List.mem_map.mp hp
    obtain ⟨b, _, rfl⟩ := List.mem_map.mp hq
    rw [← List.mem_singleton.mp ht, ← List.mem_singleton.mp ht2]
  · exact List.Pairwise.map _ (fun a b (h : a ≠ b) e => h (by simpa using e)) (nd6 (range6 hn))
  · obtain ⟨t, ht, rfl⟩ := List.mem_map.mp hp
    by_cases hs : t ∈ S
    · exact .inl fun x hx => by rw [List.mem_singleton.mp hx]; exact hs
    · exact .inr fun x hx => by rw [List.mem_singleton.mp hx]; exact hs
theorem Fine.step {n : Nat} (hn : n ≤ 6) {C ps : List (List Int)} (h : Fine n C ps) {c : List Int} (hc : LotN n c) (hne : c ≠ []) : Fine n (C ++ [c]) (mergeP ps c) := by
  have h6 : ∀ p ∈ ps.filter (fun p => meets p c), p ∈ L6 := fun p hp => (h.d.lot p (List.mem_filter.mp hp).1).1.1
  have hU : ∀ {t}, t ∈ joinL (ps.filter fun p => meets p c) ↔ ∃ p ∈ ps, meets p c = true ∧ t ∈ p := fun {t} => by
    rw [join_iff h6]
    constructor
    · rintro ⟨p, hp, ht⟩
      obtain ⟨h1, h2⟩ := List.mem_filter.mp hp
      exact ⟨p, h1, h2, ht⟩
    · rintro ⟨p, h1, h2, ht⟩
      exact ⟨p, List.mem_filter.mpr ⟨h1, h2⟩, ht⟩
  have hcU : ∀ t ∈ c, t ∈ joinL (ps.filter fun p => meets p c) := fun t ht => by
    obtain ⟨p, hp, htp⟩ := h.d.all t (hc.nn ht)
    exact hU.mpr ⟨p, hp, meets_iff.mpr ⟨t, htp, ht⟩, htp⟩
  have hm : ∀ {q}, q ∈ mergeP ps c ↔ (q ∈ ps ∧ meets q c = false) ∨ q = joinL (ps.filter fun p => meets p c) := fun {q} => by
    unfold mergeP
    rw [List.mem_append, List.mem_filter, List.mem_singleton, Bool.not_eq_true']
  have hUne : joinL (ps.filter fun p => meets p c) ≠ [] := fun z => by
    obtain ⟨t, ht⟩ := List.exists_mem_of_ne_nil c hne
    have := hcU t ht
    rw [z] at this
    cases this
  have out : ∀ {q t}, q ∈ ps → meets q c = false → t ∈ q → t ∉ joinL (ps.filter fun p => meets p c) := fun {q t} hq hmq ht z => by
    obtain ⟨p, hp, hmp, htp⟩ := hU.mp z
    rw [h.d.dj q hq p hp t ht htp, hmp] at hmq
    cases hmq
  refine ⟨⟨fun q hq => ?_, fun p hp q hq t ht ht2 => ?_, fun t ht => ?_, ?_⟩, fun d hd => ?_, fun S hS q hq => ?_⟩
  · rcases hm.mp hq with ⟨h1, _⟩ | rfl
    · exact h.d.lot q h1
    · refine ⟨⟨join6 _, fun t ht => ?_⟩, hUne⟩
      obtain ⟨p, hp, _, htp⟩ := hU.mp ht
      exact (h.d.lot p hp).1.2 t htp
  · rcases hm.mp hp with ⟨h1, h2⟩ | rfl <;> rcases hm.mp hq with ⟨h3, h4⟩ | rfl
    · exact h.d.dj p h1 q h3 t ht ht2
    · exact absurd ht2 (out h1 h2 ht)
    · exact absurd ht (out h3 h4 ht2)
    · rfl
  · obtain ⟨p, hp, htp⟩ := h.d.all t ht
    cases e : meets p c with
    | true => exact ⟨_, hm.mpr (.inr rfl), hU.mpr ⟨p, hp, e, htp⟩⟩
    | false => exact ⟨p, hm.mpr (.inl ⟨hp, e⟩), htp⟩
  · unfold mergeP
    refine List.nodup_append.mpr ⟨h.d.nd.filter _, by simp, fun a ha b hb => ?_⟩
    rw [List.mem_singleton.mp hb]
    rintro rfl
    obtain ⟨h1, h2⟩ := List.mem_filter.mp ha
    rw [Bool.not_eq_true'] at h2
    obtain ⟨t, ht⟩ := List.exists_mem_of_ne_nil _ hUne
    exact out h1 h2 ht ht
  · rcases List.mem_append.mp hd with hd | hd
    · obtain ⟨p, hp, hs⟩ := h.one d hd
      cases e : meets p c with
      | true => exact ⟨_, hm.mpr (.inr rfl), fun t ht => hU.mpr ⟨p, hp, e, hs t ht⟩⟩
      | false => exact ⟨p, hm.mpr (.inl ⟨hp, e⟩), hs⟩
    · rw [List.mem_singleton.mp hd]
      exact ⟨_, hm.mpr (.inr rfl), hcU⟩
  · have old := h.fine S fun d hd => hS d (List.mem_append_left _ hd)
    rcases hm.mp hq with ⟨h1, _⟩ | rfl
    · exact old q h1
    · rcases hS c (List.mem_append_right _ List.mem_cons_self) with hin | hout
      · refine .inl fun t ht => ?_
        obtain ⟨p, hp, hmp, htp⟩ := hU.mp ht
        obtain ⟨x, hx, hxc⟩ := meets_iff.mp hmp
        rcases old p hp with k | k
        · exact k t htp
        · exact absurd (hin x hxc) (k x hx)
      · refine .inr fun t ht => ?_
        obtain ⟨p, hp, hmp, htp⟩ := hU.mp ht
        obtain ⟨x, hx, hxc⟩ := meets_iff.mp hmp
        rcases old p hp with k | k
        · exact absurd (k x hx) (hout x hxc)
        · exact k t htp
end K13
end
section
set_option maxHeartbeats 4000000
namespace K13
open PySem PySem.Spec PyProof.Rows L2 B
/-! F15: tied lots that meet; separators. -/
theorem LotN.sub {n : Nat} {a b : List Int} (h : LotN n b) (ha : a ∈ L6) (hs : ∀ t ∈ a, t ∈ b) : LotN n a := ⟨ha, fun t ht => h.2 t (hs t ht)⟩
theorem LotN.un {n : Nat} {a b : List Int} (ha : LotN n a) (hb : LotN n b) : LotN n (unL a b) := ⟨un6 a b, fun t ht => ((unL_iff (six_of ha.1) (six_of hb.1)).mp ht).elim (ha.2 t) (hb.2 t)⟩
theorem LotN.ins {n : Nat} {a : List Int} (ha : LotN n a) {t : Int} (ht : t ∈ rangeI n) (hn : n ≤ 6) : LotN n (ins a t) := by
  have t6 := F_mem _ (range6 hn) t ht
  refine ⟨(F_ins a ha.1 t t6).2, fun x hx => ?_⟩
  rcases (ins_mem ha.1 t6).mp hx with z | z
  · exact ha.2 x z
  · rw [z]; exact (mem_rangeI.mp ht).2
section
variable {n : Nat} {ls : List (List Int)} (h : Cho n ls)
include h
theorem rk_len {l : List Int} (hl : l ∈ L6) : rk ls l ≤ ((l.length : Nat) : Int) := by
  obtain ⟨⟨f, _, e⟩, _⟩ := rk_spec h.ho.ne l
  have := inL_len l f
  omega
end
end K13
end
section
set_option maxHeartbeats 4000000
namespace K13
open PySem PySem.Spec PyProof.Rows L2 B
/-! EG4: persons can be served just if no persons' lists have too small a rank (Rado). -/
def uniL (A : Int → List Int) (K : List Int) : List Int := six.filter fun t => K.any fun i => (A i).contains t
theorem uniL_iff {A : Int → List Int} {K : List Int} {t : Int} : t ∈ uniL A K ↔ t ∈ six ∧ ∃ i ∈ K, t ∈ A i := by
  unfold uniL
  rw [List.mem_filter, List.any_eq_true]
  constructor
  · rintro ⟨a, i, hi, b⟩
    exact ⟨a, i, hi, List.contains_iff_mem.mp b⟩
  · rintro ⟨a, i, hi, b⟩
    exact ⟨a, i, hi, List.contains_iff_mem.mpr b⟩
theorem uniL6 (A : Int → List Int) (K : List Int) : uniL A K ∈ L6 := filt6 (by decide +kernel) _
def fU (ls : List (List Int)) (A : Int → List Int) (K : List Int) : Int := rk ls (uniL A K)
theorem fU_poly {n : Nat} {ls : List (List Int)} (c : Cho n ls) (A : Int → List Int) : Poly (fU ls A) := by
  have hm : ∀ {a b : List Int}, a ∈ L6 → (∀ t ∈ a, t ∈ b) → rk ls a ≤ rk ls b := fun ha k => rk_le c.ho.ne (nd6 ha) k
  refine ⟨?_, fun {K L} hk => hm (uniL6 A K) fun t ht => ?_, fun K L => ?_⟩
  · have e : uniL A [] = [] := by
      unfold uniL
      rw [List.filter_eq_nil_iff]
      intro t _
      exact fun z => nomatch z
    unfold fU
    rw [e]
    exact rk_nil c
  · obtain ⟨a, i, hi, b⟩ := uniL_iff.mp ht
    exact uniL_iff.mpr ⟨a, i, hk i hi, b⟩
  · have s := rk_sums c.ho.ne c.all6 c.hg (uniL6 A K) (uniL6 A L)
    have m1 : fU ls A (inL K L) ≤ rk ls (inL (uniL A K) (uniL A L)) := hm (uniL6 A _) fun t ht => by
      obtain ⟨a, i, hi, b⟩ := uniL_iff.mp ht
      obtain ⟨h1, h2⟩ := inL_iff.mp hi
      exact inL_iff.mpr ⟨uniL_iff.mpr ⟨a, i, h1, b⟩, uniL_iff.mpr ⟨a, i, h2, b⟩⟩
    have m2 : fU ls A (K ++ L) ≤ rk ls (unL (uniL A K) (uniL A L)) := hm (uniL6 A _) fun t ht => by
      obtain ⟨a, i, hi, b⟩ := uniL_iff.mp ht
      rw [unL_iff (fun x hx => F_mem _ (uniL6 _ _) x hx) (fun x hx => F_mem _ (uniL6 _ _) x hx)]
      rcases List.mem_append.mp hi with hi | hi
      · exact .inl (uniL_iff.mpr ⟨a, i, hi, b⟩)
      · exact .inr (uniL_iff.mpr ⟨a, i, hi, b⟩)
    show fU ls A (K ++ L) + fU ls A (inL K L) ≤ rk ls (uniL A K) + rk ls (uniL A L)
    omega
/-- each person another thing, all together free -/
def Srv (ls : List (List Int)) (A : Int → List Int) (P : List Int) : Prop := ∃ g : Int → Int, (∀ p ∈ P, g p ∈ A p) ∧ (P.map g).Nodup ∧ ∃ f ∈ ls, ∀ p ∈ P, g p ∈ f
theorem perm_of_len : ∀ {X L : List Int}, X.Nodup → (∀ x ∈ X, x ∈ L) → L.length ≤ X.length → X.Perm L
  | [], L, _, _, h => by
    have : L = [] := List.length_eq_zero_iff.mp (Nat.le_zero.mp h)
    rw [this]
  | x :: r, L, nd, hs, h => by
    obtain ⟨h1, h2⟩ := List.nodup_cons.mp nd
    have hx := hs x List.mem_cons_self
    have hl := List.length_erase_of_mem hx
    have h3 : L.length ≤ r.length + 1 := h
    have ih := perm_of_len (X := r) (L := L.erase x) h2 (fun t ht => (List.mem_erase_of_ne (fun e => h1 (by rw [← e]; exact ht))).mpr (hs t (List.mem_cons_of_mem _ ht))) (by omega)
    exact (ih.cons x).trans (List.perm_cons_erase hx).symm
theorem sum_less : ∀ {P : List Int} {u v : Int → Nat} {p : Int}, (∀ q ∈ P, u q ≤ v q) → p ∈ P → u p < v p → (P.map u).sum < (P.map v).sum
  | q :: P, u, v, p, hle, hp, hlt => by
    rw [List.map_cons, List.map_cons, List.sum_cons, List.sum_cons]
    have h1 := hle q List.mem_cons_self
    have h2 : (P.map u).sum ≤ (P.map v).sum := by
      clear hp hlt h1
      induction P with
      | nil => exact Nat.le_refl _
      | cons a r ih =>
        rw [List.map_cons, List.map_cons, List.sum_cons, List.sum_cons]
        have a1 := hle a (List.mem_cons_of_mem _ List.mem_cons_self)
        have a2 := ih fun z hz => by
          rcases List.mem_cons.mp hz with e | hz
          · rw [e]; exact hle q List.mem_cons_self
          · exact hle z (List.mem_cons_of_mem _ (List.mem_cons_of_mem _ hz))
        omega
    rcases List.mem_cons.mp hp with e | hp
    · rw [← e] at h1 ⊢
      rw [← e] at *
      omega
    · have := sum_less (fun z hz => hle z (List.mem_cons_of_mem _ hz)) hp hlt
      omega
theorem srv_ip {n : Nat} {ls : List (List Int)} (c : Cho n ls) {A : Int → List Int} {P : List Int} (h6 : ∀ p ∈ P, A p ∈ L6) (s : Srv ls A P) : IP (fU ls A) P := by
  intro K nd hs
  obtain ⟨g, g1, g2, f, hf, g3⟩ := s
  have nK : (K.map g).Nodup := by
    have inj : ∀ a ∈ P, ∀ b ∈ P, g a = g b → a = b := by
      have : ∀ {Q : List Int}, (Q.map g).Nodup → ∀ a ∈ Q, ∀ b ∈ Q, g a = g b → a = b := by
        intro Q
        induction Q with
        | nil => exact fun _ a ha => nomatch ha
        | cons x r ih =>
          intro hn a ha b hb e
          rw [List.map_cons, List.nodup_cons] at hn
          rcases List.mem_cons.mp ha with ea | ha <;> rcases List.mem_cons.mp hb with eb | hb
          · rw [ea, eb]
          · exact absurd (List.mem_map.mpr ⟨b, hb, by rw [← e, ea]⟩) hn.1
          · exact absurd (List.mem_map.mpr ⟨a, ha, by rw [e, eb]⟩) hn.1
          · exact ih hn.2 a ha b hb e
      exact this g2
    rw [List.nodup_iff_pairwise_ne, List.pairwise_map]
    refine List.Pairwise.imp_of_mem (fun {a b} ha hb hab e => hab (inj a (hs a ha) b (hs b hb) e)) (List.nodup_iff_pairwise_ne.mp nd)
  have h1 := (rk_spec c.ho.ne (uniL A K)).2 f hf
  have h2 : (K.map g).length ≤ (inL (uniL A K) f).length := incl_len nK fun t ht => by
    obtain ⟨k, hk, rfl⟩ := List.mem_map.mp ht
    have ga := g1 k (hs k hk)
    exact inL_iff.mpr ⟨uniL_iff.mpr ⟨F_mem _ (h6 k (hs k hk)) _ ga, k, hk, ga⟩, g3 k (hs k hk)⟩
  rw [List.length_map] at h2
  show ((K.length : Nat) : Int) ≤ rk ls (uniL A K)
  omega
def updA (A : Int → List Int) (p : Int) (a : List Int) : Int → List Int := fun i => if i = p then a else A i
theorem rado {n : Nat} {ls : List (List Int)} (c : Cho n ls) {P : List Int} (nP : P.Nodup) : ∀ (m : Nat) (A : Int → List Int), (P.map fun p => (A p).length).sum = m → (∀ p ∈ P, A p ∈ L6) → IP (fU ls A) P → Srv ls A P := by
  intro m
  induction m using Nat.strongRecOn with
  | _ m ih =>
  intro A hm h6 ip
  have one : ∀ p ∈ P, 1 ≤ (A p).length := fun p hp => by
    have h1 := ip [p] (List.nodup_cons.mpr ⟨(fun z => nomatch z), .nil⟩) fun t ht => by rw [List.mem_singleton.mp ht]; exact hp
    have h2 : fU ls A [p] ≤ (((uniL A [p]).length : Nat) : Int) := rk_len c (uniL6 A [p])
    have h3 : (uniL A [p]).length ≤ (A p).length := incl_len (nd6 (uniL6 A [p])) fun t ht => by
      obtain ⟨_, i, hi, b⟩ := uniL_iff.mp ht
      rw [List.mem_singleton.mp hi] at b
      exact b
    have h4 : ((1 : Nat) : Int) ≤ fU ls A [p] := h1
    omega
  by_cases hb : ∃ p ∈ P, 2 ≤ (A p).length
  · obtain ⟨p, hp, h2⟩ := hb
    obtain ⟨x, y, r, eA⟩ : ∃ x y r, A p = x :: y :: r := by
      cases e : A p with
      | nil => rw [e] at h2; simp at h2
      | cons x r =>
        cases r with
        | nil => rw [e] at h2; simp at h2
        | cons y r => exact ⟨x, y, r, rfl⟩
    have ndA := nd6 (h6 p hp)
    have hxy : x ≠ y := by
      rw [eA] at ndA
      exact fun z => (List.nodup_cons.mp ndA).1 (by rw [z]; exact List.mem_cons_self)
    have hx : x ∈ A p := by rw [eA]; exact List.mem_cons_self
    have hy : y ∈ A p := by rw [eA]; exact List.mem_cons_of_mem _ List.mem_cons_self
    have go : ∀ z ∈ A p, IP (fU ls (updA A p (drp (A p) z))) P → Srv ls A P := fun z hz i => by
      have hl := F_drpl _ (h6 p hp) z hz
      obtain ⟨g, g1, g2, g3⟩ := ih _ (by
        rw [← hm]
        refine sum_less (p := p) (fun q hq => ?_) hp ?_
        · unfold updA
          by_cases e : q = p
          · rw [if_pos e, e]; omega
          · rw [if_neg e]; exact Nat.le_refl _
        · unfold updA
          rw [if_pos rfl]
          omega) (updA A p (drp (A p) z)) rfl (fun q hq => by
        unfold updA
        by_cases e : q = p
        · rw [if_pos e]; exact F_drp5 _ (h6 p hp) z hz
        · rw [if_neg e]; exact h6 q hq) i
      refine ⟨g, fun q hq => ?_, g2, g3⟩
      have := g1 q hq
      unfold updA at this
      by_cases e : q = p
      · rw [if_pos e] at this
        rw [e] at this ⊢
        exact (drp_mem.mp this).1
      · rw [if_neg e] at this
        exact this
    by_cases ix : IP (fU ls (updA A p (drp (A p) x))) P
    · exact go x hx ix
    by_cases iy : IP (fU ls (updA A p (drp (A p) y))) P
    · exact go y hy iy
    exfalso
    have bad : ∀ z ∈ A p, ¬ IP (fU ls (updA A p (drp (A p) z))) P → ∃ K : List Int, K.Nodup ∧ (∀ t ∈ K, t ∈ P) ∧ p ∉ K ∧ fU ls (updA A p (drp (A p) z)) (p :: K) ≤ ((K.length : Nat) : Int) := fun z hz no => by
      by_cases hK : ∃ K : List Int, K.Nodup ∧ (∀ t ∈ K, t ∈ P) ∧ fU ls (updA A p (drp (A p) z)) K < ((K.length : Nat) : Int)
      · obtain ⟨K, nd, hs, hlt⟩ := hK
        have hpK : p ∈ K := by
          by_cases e : p ∈ K
          · exact e
          · have h1 := ip K nd hs
            have h2 : fU ls (updA A p (drp (A p) z)) K = fU ls A K := by
              unfold fU
              congr 1
              refine ext6 (uniL6 _ K) (uniL6 A K) fun t => ?_
              rw [uniL_iff, uniL_iff]
              constructor
              · rintro ⟨a, i, hi, b⟩
                unfold updA at b
                rw [if_neg fun q => e (by rw [← q]; exact hi)] at b
                exact ⟨a, i, hi, b⟩
              · rintro ⟨a, i, hi, b⟩
                refine ⟨a, i, hi, ?_⟩
                unfold updA
                rw [if_neg fun q => e (by rw [← q]; exact hi)]
                exact b
            omega
        have h5 := List.length_erase_of_mem hpK
        have h6' : 0 < K.length := List.length_pos_of_mem hpK
        have h7 : fU ls (updA A p (drp (A p) z)) (p :: K.erase p) = fU ls (updA A p (drp (A p) z)) K := (fU_poly c _).inv fun t => by
          rw [List.mem_cons]
          constructor
          · rintro (rfl | ht)
            · exact hpK
            · exact List.mem_of_mem_erase ht
          · intro ht
            by_cases e : t = p
            · exact .inl e
            · exact .inr ((List.mem_erase_of_ne e).mpr ht)
        exact ⟨K.erase p, nd.erase p, fun t ht => hs t (List.mem_of_mem_erase ht), fun q => ((nd.mem_erase_iff).mp q).1 rfl, by omega⟩
      · refine absurd (fun K nd hs => ?_) no
        by_cases e : ((K.length : Nat) : Int) ≤ fU ls (updA A p (drp (A p) z)) K
        · exact e
        · exact absurd ⟨K, nd, hs, by omega⟩ hK
    obtain ⟨K, nK, sK, pK, bK⟩ := bad x hx ix
    obtain ⟨L, nL, sL, pL, bL⟩ := bad y hy iy
    have s := rk_sums c.ho.ne c.all6 c.hg (uniL6 (updA A p (drp (A p) x)) (p :: K)) (uniL6 (updA A p (drp (A p) y)) (p :: L))
    have nU : (p :: (K ++ less L K)).Nodup := by
      refine List.nodup_cons.mpr ⟨fun q => ?_, List.nodup_append.mpr ⟨nK, nL.filter _, fun a ha b hb e => ?_⟩⟩
      · rcases List.mem_append.mp q with q | q
        · exact pK q
        · exact pL (less_iff.mp q).1
      · subst e
        exact (less_iff.mp hb).2 ha
    have i1 := ip _ nU fun t ht => by
      rcases List.mem_cons.mp ht with e | ht
      · rw [e]; exact hp
      · rcases List.mem_append.mp ht with ht | ht
        · exact sK t ht
        · exact sL t (less_iff.mp ht).1
    have i2 := ip (inL K L) (inL_nd nK) fun t ht => sK t (inL_iff.mp ht).1
    have m1 : fU ls A (p :: (K ++ less L K)) ≤ rk ls (unL (uniL (updA A p (drp (A p) x)) (p :: K)) (uniL (updA A p (drp (A p) y)) (p :: L))) := rk_le c.ho.ne (nd6 (uniL6 A _)) fun t ht => by
      obtain ⟨a, i, hi, b⟩ := uniL_iff.mp ht
      rw [unL_iff (fun x hx => F_mem _ (uniL6 _ _) x hx) (fun x hx => F_mem _ (uniL6 _ _) x hx), uniL_iff, uniL_iff]
      by_cases e : i = p
      · rw [e] at b
        by_cases ex : t = x
        · refine .inr ⟨a, p, List.mem_cons_self, ?_⟩
          unfold updA
          rw [if_pos rfl]
          exact drp_mem.mpr ⟨b, fun q => hxy (by rw [← ex, q])⟩
        · refine .inl ⟨a, p, List.mem_cons_self, ?_⟩
          unfold updA
          rw [if_pos rfl]
          exact drp_mem.mpr ⟨b, ex⟩
      · rcases List.mem_append.mp ((List.mem_cons.mp hi).resolve_left e) with hi | hi
        · refine .inl ⟨a, i, List.mem_cons_of_mem _ hi, ?_⟩
          unfold updA
          rw [if_neg e]
          exact b
        · refine .inr ⟨a, i, List.mem_cons_of_mem _ (less_iff.mp hi).1, ?_⟩
          unfold updA
          rw [if_neg e]
          exact b
    have m2 : fU ls A (inL K L) ≤ rk ls (inL (uniL (updA A p (drp (A p) x)) (p :: K)) (uniL (updA A p (drp (A p) y)) (p :: L))) := rk_le c.ho.ne (nd6 (uniL6 A _)) fun t ht => by
      obtain ⟨a, i, hi, b⟩ := uniL_iff.mp ht
      obtain ⟨k1, k2⟩ := inL_iff.mp hi
      have e : i ≠ p := fun q => pK (by rw [← q]; exact k1)
      refine inL_iff.mpr ⟨uniL_iff.mpr ⟨a, i, List.mem_cons_of_mem _ k1, ?_⟩, uniL_iff.mpr ⟨a, i, List.mem_cons_of_mem _ k2, ?_⟩⟩ <;>
        (unfold updA; rw [if_neg e]; exact b)
    have l1 := inL_less L K
    have l2 := inL_cm nK nL
    have l3 : (p :: (K ++ less L K)).length = K.length + (less L K).length + 1 := by
      rw [List.length_cons, List.length_append]
    have b1 : rk ls (uniL (updA A p (drp (A p) x)) (p :: K)) ≤ ((K.length : Nat) : Int) := bK
    have b2 : rk ls (uniL (updA A p (drp (A p) y)) (p :: L)) ≤ ((L.length : Nat) : Int) := bL
    omega
  · have sole : ∀ p ∈ P, ∃ t, A p = [t] := fun p hp => by
      have h1 := one p hp
      have h2 : ¬ 2 ≤ (A p).length := fun q => hb ⟨p, hp, q⟩
      exact List.length_eq_one_iff.mp (by omega)
    have hg : ∀ p ∈ P, (A p).headD 0 ∈ A p := fun p hp => by
      obtain ⟨t, e⟩ := sole p hp
      rw [e]
      exact List.mem_cons_self
    have i1 := ip P nP fun t ht => ht
    have i2 : rk ls (uniL A P) ≤ (((uniL A P).length : Nat) : Int) := rk_len c (uniL6 A P)
    have sub : ∀ t ∈ uniL A P, t ∈ P.map fun p => (A p).headD 0 := fun t ht => by
      obtain ⟨_, i, hi, b⟩ := uniL_iff.mp ht
      obtain ⟨u, e⟩ := sole i hi
      refine List.mem_map.mpr ⟨i, hi, ?_⟩
      rw [e] at b ⊢
      exact (List.mem_singleton.mp b).symm
    have i3 : ((P.length : Nat) : Int) ≤ rk ls (uniL A P) := i1
    have pm := perm_of_len (nd6 (uniL6 A P)) sub (by rw [List.length_map]; omega)
    have hl := pm.length_eq
    rw [List.length_map] at hl
    obtain ⟨f, hf, ef⟩ := (rk_spec c.ho.ne (uniL A P)).1
    have hall : (inL (uniL A P) f).length = (uniL A P).length := by
      have := inL_len (uniL A P) f
      omega
    have hsub := subL_iff.mp (inL_all.mp hall)
    exact ⟨fun p => (A p).headD 0, hg, pm.nodup (nd6 (uniL6 A P)), f, hf, fun p hp => hsub _ (pm.mem_iff.mpr (List.mem_map.mpr ⟨p, hp, rfl⟩))⟩
theorem srv_iff {n : Nat} {ls : List (List Int)} (c : Cho n ls) {A : Int → List Int} {P : List Int} (nP : P.Nodup) (h6 : ∀ p ∈ P, A p ∈ L6) : Srv ls A P ↔ IP (fU ls A) P := ⟨srv_ip c h6, rado c nP _ A rfl h6⟩
end K13
end
section
set_option maxHeartbeats 4000000
namespace K13
open PySem PySem.Spec PyProof.Rows L2 B
/-! EH1: lots that can be given to the first persons, layer by layer, and the way back. -/
theorem F_or : ∀ a ∈ L6, ∀ b ∈ L6, Builtin.bitOr (bits a) (bits b) = bits (unL a b) ∧ unL a b ∈ L6 := by decide +kernel
/-- an entry of a layer: a lot, the lot ahead, the thing -/
structure Ent where
  lot : List Int
  prev : List Int
  thing : Option Int
def optD : Option Int → PyData
  | none => .none
  | some t => .int t
def entP (e : Ent) : Key × PyData := (.inl (bits e.lot), .tuple [.int (bits e.prev), optD e.thing])
def hasL (es : List Ent) (X : List Int) : Bool := es.any fun e => decide (e.lot = X)
theorem hasL_iff {es : List Ent} {X : List Int} : hasL es X = true ↔ X ∈ es.map Ent.lot := by
  unfold hasL
  rw [List.any_eq_true, List.mem_map]
  constructor
  · rintro ⟨e, he, h⟩; exact ⟨e, he, of_decide_eq_true h⟩
  · rintro ⟨e, he, h⟩; exact ⟨e, he, decide_eq_true h⟩
def put1 (fr : List Int → Bool) (X : List Int) (es : List Ent) (t : Int) : List Ent :=
  if X.contains t || (hasL es (ins X t) || !fr (ins X t)) then es else es ++ [⟨ins X t, X, some t⟩]
def putL (left : Bool) (es : List Ent) (X : List Int) : List Ent := if left && !hasL es X then es ++ [⟨X, X, none⟩] else es
def putX (fr : List Int → Bool) (left : Bool) (w : List Int) (es : List Ent) (X : List Int) : List Ent := w.foldl (put1 fr X) (putL left es X)
def layN (fr : List Int → Bool) (left : Bool) (w : List Int) (keys : List (List Int)) : List Ent := keys.foldl (putX fr left w) []
/-- what an entry is -/
def EntOk (fr : List Int → Bool) (left : Bool) (w : List Int) (keys : List (List Int)) (e : Ent) : Prop :=
  e.prev ∈ keys ∧ ((left = true ∧ e.thing = none ∧ e.lot = e.prev) ∨ ∃ t, e.thing = some t ∧ t ∈ w ∧ t ∉ e.prev ∧ e.lot = ins e.prev t ∧ fr e.lot = true)
structure LayOk (fr : List Int → Bool) (left : Bool) (w : List Int) (keys : List (List Int)) (es : List Ent) : Prop where
  all : ∀ e ∈ es, EntOk fr left w keys e
  nd : (es.map Ent.lot).Nodup
section
variable {fr : List Int → Bool} {left : Bool} {w : List Int} {keys : List (List Int)} {es : List Ent}
theorem LayOk.add (h : LayOk fr left w keys es) {e : Ent} (he : EntOk fr left w keys e) (hn : hasL es e.lot = false) : LayOk fr left w keys (es ++ [e]) := by
  refine ⟨fun x hx => ?_, ?_⟩
  · rcases List.mem_append.mp hx with hx | hx
    · exact h.all x hx
    · rw [List.mem_singleton.mp hx]; exact he
  · rw [List.map_append, List.nodup_append]
    refine ⟨h.nd, by simp, fun x hx y hy => ?_⟩
    have ey : y = e.lot := by simpa using hy
    subst ey
    intro e2
    subst e2
    rw [hasL_iff.mpr hx] at hn
    cases hn
theorem put1_ok (h : LayOk fr left w keys es) {X : List Int} (hX : X ∈ keys) {t : Int} (ht : t ∈ w) : LayOk fr left w keys (put1 fr X es t) := by
  unfold put1
  split
  · exact h
  · rename_i hc
    simp only [Bool.or_eq_true, Bool.not_eq_true', not_or, Bool.not_eq_true, Bool.not_eq_false] at hc
    obtain ⟨h1, h2, h3⟩ := hc
    exact h.add ⟨hX, .inr ⟨t, rfl, ht, (fun z => by rw [List.contains_iff_mem.mpr z] at h1; cases h1), rfl, h3⟩⟩ h2
theorem put1_sub {X : List Int} {t : Int} : ∀ Y ∈ es.map Ent.lot, Y ∈ (put1 fr X es t).map Ent.lot := fun Y hY => by
  unfold put1
  split
  · exact hY
  · rw [List.map_append]; exact List.mem_append_left _ hY
theorem put1_in {X : List Int} {t : Int} (hn : t ∉ X) (hf : fr (ins X t) = true) : ins X t ∈ (put1 fr X es t).map Ent.lot := by
  unfold put1
  split
  · rename_i hc
    simp only [Bool.or_eq_true, Bool.not_eq_true'] at hc
    rcases hc with h | h | h
    · exact absurd (List.contains_iff_mem.mp h) hn
    · exact hasL_iff.mp h
    · rw [h] at hf; cases hf
  · rw [List.map_append]; exact List.mem_append_right _ (by simp)
theorem putL_ok (h : LayOk fr left w keys es) {X : List Int} (hX : X ∈ keys) : LayOk fr left w keys (putL left es X) := by
  unfold putL
  split
  · rename_i hc
    simp only [Bool.and_eq_true, Bool.not_eq_true'] at hc
    exact h.add ⟨hX, .inl ⟨hc.1, rfl, rfl⟩⟩ hc.2
  · exact h
theorem putL_sub {X : List Int} : ∀ Y ∈ es.map Ent.lot, Y ∈ (putL left es X).map Ent.lot := fun Y hY => by
  unfold putL
  split
  · rw [List.map_append]; exact List.mem_append_left _ hY
  · exact hY
theorem putL_in {X : List Int} (hl : left = true) : X ∈ (putL left es X).map Ent.lot := by
  unfold putL
  split
  · rw [List.map_append]; exact List.mem_append_right _ (by simp)
  · rename_i hc
    rw [hl, Bool.true_and, Bool.not_eq_true', Bool.not_eq_false] at hc
    exact hasL_iff.mp hc
theorem fold1_ok {X : List Int} (hX : X ∈ keys) : ∀ {v : List Int} {es : List Ent}, LayOk fr left w keys es → (∀ t ∈ v, t ∈ w) → LayOk fr left w keys (v.foldl (put1 fr X) es)
  | [], _, h, _ => h
  | t :: r, _, h, hv => fold1_ok (v := r) hX (put1_ok h hX (hv t List.mem_cons_self)) fun u hu => hv u (List.mem_cons_of_mem _ hu)
theorem fold1_sub {X : List Int} : ∀ {v : List Int} {es : List Ent}, ∀ Y ∈ es.map Ent.lot, Y ∈ (v.foldl (put1 fr X) es).map Ent.lot
  | [], _, _, h => h
  | t :: r, _, Y, h => fold1_sub (v := r) Y (put1_sub Y h)
theorem fold1_in {X : List Int} : ∀ {v : List Int} {es : List Ent} {t : Int}, t ∈ v → t ∉ X → fr (ins X t) = true → ins X t ∈ (v.foldl (put1 fr X) es).map Ent.lot
  | u :: r, _, t, ht, hn, hf => by
    rcases List.mem_cons.mp ht with e | ht
    · subst e
      exact fold1_sub (v := r) _ (put1_in hn hf)
    · exact fold1_in (v := r) ht hn hf
theorem foldX_ok : ∀ {v : List (List Int)} {es : List Ent}, LayOk fr left w keys es → (∀ X ∈ v, X ∈ keys) → LayOk fr left w keys (v.foldl (putX fr left w) es)
  | [], _, h, _ => h
  | X :: r, _, h, hv => foldX_ok (v := r) (fold1_ok (hv X List.mem_cons_self) (putL_ok h (hv X List.mem_cons_self)) fun t ht => ht) fun u hu => hv u (List.mem_cons_of_mem _ hu)
theorem foldX_sub : ∀ {v : List (List Int)} {es : List Ent}, ∀ Y ∈ es.map Ent.lot, Y ∈ (v.foldl (putX fr left w) es).map Ent.lot
  | [], _, _, h => h
  | X :: r, _, Y, h => foldX_sub (v := r) Y (fold1_sub Y (putL_sub Y h))
theorem foldX_in : ∀ {v : List (List Int)} {es : List Ent} {X : List Int}, X ∈ v → (left = true → X ∈ (v.foldl (putX fr left w) es).map Ent.lot) ∧ ∀ t ∈ w, t ∉ X → fr (ins X t) = true → ins X t ∈ (v.foldl (putX fr left w) es).map Ent.lot
  | Y :: r, es, X, hX => by
    rcases List.mem_cons.mp hX with e | hX
    · subst e
      exact ⟨fun hl => foldX_sub (v := r) _ (fold1_sub _ (putL_in hl)), fun t ht hn hf => foldX_sub (v := r) _ (fold1_in ht hn hf)⟩
    · exact foldX_in (v := r) hX
theorem layN_ok : LayOk fr left w keys (layN fr left w keys) := foldX_ok ⟨fun e he => (nomatch he), .nil⟩ fun X h => h
theorem layN_iff {X : List Int} : X ∈ (layN fr left w keys).map Ent.lot ↔ (left = true ∧ X ∈ keys) ∨ ∃ Y t, Y ∈ keys ∧ t ∈ w ∧ t ∉ Y ∧ X = ins Y t ∧ fr X = true := by
  constructor
  · intro h
    obtain ⟨e, he, rfl⟩ := List.mem_map.mp h
    obtain ⟨h1, h2⟩ := layN_ok.all e he
    rcases h2 with ⟨hl, _, h3⟩ | ⟨t, _, h3, h4, h5, h6⟩
    · exact .inl ⟨hl, by rw [h3]; exact h1⟩
    · exact .inr ⟨e.prev, t, h1, h3, h4, h5, h6⟩
  · rintro (⟨hl, h⟩ | ⟨Y, t, h1, h2, h3, rfl, h5⟩)
    · exact (foldX_in (w := w) (fr := fr) (es := []) h).1 hl
    · exact (foldX_in (left := left) (es := []) h1).2 t h2 h3 h5
end
/-- the lots behind so many persons -/
def keysAt (fr : List Int → Bool) (left : Bool) (lists : List (List Int)) : List (List Int) := lists.foldl (fun ks w => (layN fr left w ks).map Ent.lot) [[]]
theorem keysAt_snoc (fr : List Int → Bool) (left : Bool) (lists : List (List Int)) (w : List Int) : keysAt fr left (lists ++ [w]) = (layN fr left w (keysAt fr left lists)).map Ent.lot := by
  unfold keysAt
  rw [List.foldl_append]
  rfl
/-- how things are given, the last person first; the lot of all -/
def Way (fr : List Int → Bool) (left : Bool) : List (List Int) → List (Option Int) → List Int → Prop
  | [], [], X => X = []
  | _ :: ws, none :: gs, X => left = true ∧ Way fr left ws gs X
  | w :: ws, some t :: gs, X => ∃ Y, Way fr left ws gs Y ∧ t ∈ w ∧ t ∉ Y ∧ X = ins Y t ∧ fr X = true
  | _, _, _ => False
def findE (es : List Ent) (X : List Int) : Option Ent := es.find? fun e => decide (e.lot = X)
theorem findE_some {es : List Ent} {X : List Int} (h : X ∈ es.map Ent.lot) : ∃ e, findE es X = some e ∧ e ∈ es ∧ e.lot = X := by
  obtain ⟨e, he, rfl⟩ := List.mem_map.mp h
  cases hf : findE es e.lot with
  | none =>
    have := List.find?_eq_none.mp hf e he
    simp at this
  | some e2 =>
    have h1 := List.find?_some hf
    exact ⟨e2, rfl, List.mem_of_find?_eq_some hf, of_decide_eq_true h1⟩
/-- the layers, the last one first -/
def laysR (fr : List Int → Bool) (left : Bool) : List (List Int) → List (List Ent)
  | [] => []
  | w :: ws => layN fr left w (keysAt fr left ws.reverse) :: laysR fr left ws
def backL : List (List Ent) → List Int → List (Option Int)
  | [], _ => []
  | es :: r, X => match findE es X with
    | some e => e.thing :: backL r e.prev
    | none => []
theorem keys_rev (fr : List Int → Bool) (left : Bool) (w : List Int) (ws : List (List Int)) : keysAt fr left (w :: ws).reverse = (layN fr left w (keysAt fr left ws.reverse)).map Ent.lot := by
  rw [List.reverse_cons, keysAt_snoc]
section
variable {fr : List Int → Bool} {left : Bool}
theorem back_way : ∀ {ws : List (List Int)} {X : List Int}, X ∈ keysAt fr left ws.reverse → Way fr left ws (backL (laysR fr left ws) X) X
  | [], X, h => List.mem_singleton.mp h
  | w :: ws, X, h => by
    rw [keys_rev] at h
    obtain ⟨e, h1, h2, h3⟩ := findE_some h
    obtain ⟨hp, hc⟩ := layN_ok.all e h2
    have ih := back_way (ws := ws) hp
    unfold laysR backL
    rw [h1]
    rcases hc with ⟨hl, ht, h4⟩ | ⟨t, ht, h4, h5, h6, h7⟩
    · show Way fr left (w :: ws) (e.thing :: _) X
      rw [ht]
      refine ⟨hl, ?_⟩
      rw [← h3, h4]
      exact ih
    · show Way fr left (w :: ws) (e.thing :: _) X
      rw [ht]
      exact ⟨e.prev, ih, h4, h5, by rw [← h3, h6], by rw [← h3]; exact h7⟩
theorem way_key : ∀ {ws : List (List Int)} {gs : List (Option Int)} {X : List Int}, Way fr left ws gs X → X ∈ keysAt fr left ws.reverse
  | [], [], X, h => List.mem_singleton.mpr h
  | [], _ :: _, _, h => h.elim
  | _ :: _, [], _, h => h.elim
  | w :: ws, none :: gs, X, h => by
    obtain ⟨hl, h⟩ := h
    rw [keys_rev]
    exact layN_iff.mpr (.inl ⟨hl, way_key h⟩)
  | w :: ws, some t :: gs, X, h => by
    obtain ⟨Y, h1, h2, h3, h4, h5⟩ := h
    rw [keys_rev]
    exact layN_iff.mpr (.inr ⟨Y, t, way_key h1, h2, h3, h4, h5⟩)
theorem back_len : ∀ {ws : List (List Int)} {gs : List (Option Int)} {X : List Int}, Way fr left ws gs X → gs.length = ws.length
  | [], [], _, _ => rfl
  | [], _ :: _, _, h => h.elim
  | _ :: _, [], _, h => h.elim
  | _ :: ws, none :: gs, X, h => by rw [List.length_cons, List.length_cons, back_len h.2]
  | _ :: ws, some t :: gs, X, h => by
    obtain ⟨Y, h1, _⟩ := h
    rw [List.length_cons, List.length_cons, back_len h1]
/-- each one has what is wished, or nothing -/
theorem way_in : ∀ {ws : List (List Int)} {gs : List (Option Int)} {X : List Int}, Way fr left ws gs X → ∀ p ∈ gs.zip ws, ∀ t, p.1 = some t → t ∈ p.2
  | [], [], _, _, _, hp => by cases hp
  | [], _ :: _, _, h, _, _ => h.elim
  | _ :: _, [], _, h, _, _ => h.elim
  | w :: ws, none :: gs, X, h, p, hp => by
    rw [List.zip_cons_cons] at hp
    rcases List.mem_cons.mp hp with e | hp
    · intro t ht
      rw [e] at ht
      cases ht
    · exact way_in h.2 p hp
  | w :: ws, some t :: gs, X, h, p, hp => by
    obtain ⟨Y, h1, h2, _⟩ := h
    rw [List.zip_cons_cons] at hp
    rcases List.mem_cons.mp hp with e | hp
    · intro u hu
      rw [e] at hu ⊢
      cases hu
      exact h2
    · exact way_in h1 p hp
/-- the lot is what is given -/
theorem way_lot : ∀ {ws : List (List Int)} {gs : List (Option Int)} {X : List Int}, (∀ w ∈ ws, w ∈ L6) → Way fr left ws gs X → X ∈ L6 ∧ (∀ t, t ∈ X ↔ some t ∈ gs) ∧ (gs.filterMap id).Nodup ∧ (X = [] ∨ fr X = true)
  | [], [], X, _, h => by
    have h : X = [] := h
    subst h
    exact ⟨by decide +kernel, fun t => by simp, by simp, .inl rfl⟩
  | [], _ :: _, _, _, h => h.elim
  | _ :: _, [], _, _, h => h.elim
  | w :: ws, none :: gs, X, hw, h => by
    obtain ⟨h1, h2, h3, h4⟩ := way_lot (fun v hv => hw v (List.mem_cons_of_mem _ hv)) h.2
    exact ⟨h1, fun t => by rw [h2 t]; simp, by simpa using h3, h4⟩
  | w :: ws, some t :: gs, X, hw, h => by
    obtain ⟨Y, a1, a2, a3, rfl, a5⟩ := h
    obtain ⟨h1, h2, h3, h4⟩ := way_lot (fun v hv => hw v (List.mem_cons_of_mem _ hv)) a1
    have t6 := F_mem w (hw w List.mem_cons_self) t a2
    refine ⟨(F_ins Y h1 t t6).2, fun u => ?_, ?_, .inr a5⟩
    · rw [ins_mem h1 t6, h2 u, List.mem_cons]
      constructor
      · rintro (h | h)
        · exact .inr h
        · exact .inl (by rw [h])
      · rintro (h | h)
        · cases h; exact .inr rfl
        · exact .inl h
    · rw [List.filterMap_cons]
      refine List.nodup_cons.mpr ⟨fun hm => a3 ((h2 t).mpr ?_), h3⟩
      obtain ⟨o, ho, e⟩ := List.mem_filterMap.mp hm
      have e : o = some t := e
      rw [← e]
      exact ho
theorem way_none : ∀ {ws : List (List Int)} {gs : List (Option Int)} {X : List Int}, Way fr false ws gs X → none ∉ gs
  | [], [], _, _ => by simp
  | [], _ :: _, _, h => h.elim
  | _ :: _, [], _, h => h.elim
  | _ :: ws, none :: gs, X, h => by cases h.1
  | _ :: ws, some t :: gs, X, h => by
    obtain ⟨Y, h1, _⟩ := h
    have := way_none h1
    simpa using this
/-- what can be given makes a way -/
theorem way_of {ls : List (List Int)} : ∀ {ws : List (List Int)} {gs : List (Option Int)}, (∀ w ∈ ws, w ∈ L6) → gs.length = ws.length → (left = true ∨ none ∉ gs) → (∀ p ∈ gs.zip ws, ∀ t, p.1 = some t → t ∈ p.2) → (gs.filterMap id).Nodup → (∃ f ∈ ls, ∀ t, some t ∈ gs → t ∈ f) →
    ∃ X, Way (freeB ls) left ws gs X
  | [], [], _, _, _, _, _, _ => ⟨[], rfl⟩
  | [], _ :: _, _, hl, _, _, _, _ => by cases hl
  | _ :: _, [], _, hl, _, _, _, _ => by cases hl
  | w :: ws, none :: gs, hw, hl, hn, hz, nd, ⟨f, hf, hs⟩ => by
    have hl2 : left = true := hn.resolve_right fun z => z List.mem_cons_self
    obtain ⟨X, h⟩ := way_of (ls := ls) (ws := ws) (gs := gs) (fun v hv => hw v (List.mem_cons_of_mem _ hv)) (by simpa using hl) (.inl hl2) (fun p hp => hz p (by rw [List.zip_cons_cons]; exact List.mem_cons_of_mem _ hp)) (by simpa using nd) ⟨f, hf, fun t ht => hs t (List.mem_cons_of_mem _ ht)⟩
    exact ⟨X, hl2, h⟩
  | w :: ws, some t :: gs, hw, hl, hn, hz, nd, ⟨f, hf, hs⟩ => by
    rw [List.filterMap_cons] at nd
    obtain ⟨n1, n2⟩ := List.nodup_cons.mp nd
    have hw' : ∀ v ∈ ws, v ∈ L6 := fun v hv => hw v (List.mem_cons_of_mem _ hv)
    obtain ⟨Y, h⟩ := way_of (ls := ls) (ws := ws) (gs := gs) hw' (by simpa using hl) (hn.imp id fun z => fun y => z (List.mem_cons_of_mem _ y)) (fun p hp => hz p (by rw [List.zip_cons_cons]; exact List.mem_cons_of_mem _ hp)) n2 ⟨f, hf, fun t ht => hs t (List.mem_cons_of_mem _ ht)⟩
    obtain ⟨h1, h2, h3, h4⟩ := way_lot hw' h
    have tw : t ∈ w := hz (some t, w) (by rw [List.zip_cons_cons]; exact List.mem_cons_self) t rfl
    have t6 := F_mem w (hw w List.mem_cons_self) t tw
    refine ⟨ins Y t, Y, h, tw, fun z => n1 (List.mem_filterMap.mpr ⟨some t, (h2 t).mp z, rfl⟩), rfl, free_iff.mpr ⟨f, hf, fun u hu => ?_⟩⟩
    rcases (ins_mem h1 t6).mp hu with hu | hu
    · exact hs u (List.mem_cons_of_mem _ ((h2 u).mp hu))
    · rw [hu]; exact hs t List.mem_cons_self
end
end K13
end
section
set_option maxHeartbeats 4000000
/-! D85: x is True, x is not True. -/
namespace B
open PySem PySem.Spec PyProof.Rows L2
end B
end
section
set_option maxHeartbeats 4000000
/-! D90: a comprehension whose item may look back at the frame around it. -/
namespace B
open PySem PySem.Spec PyProof.Rows L2 LamX NdefX
end B
end
section
set_option maxHeartbeats 4000000
/-! D91: lists of lambdas, called by a comprehension of the same frame. -/
namespace B
open PySem PySem.Spec PyProof.Rows L2 LamX NdefX
/-! ### lambdas that are kept -/
end B
end
section
set_option maxHeartbeats 4000000
/-! D92: isinstance(e, ValueError). -/
namespace B
open PySem PySem.Spec PyProof.Rows L2
end B
end
section
set_option maxHeartbeats 4000000
/-! D93: lists of lambdas. -/
namespace B
open PySem PySem.Spec PyProof.Rows L2 LamX NdefX
end B
end
section
set_option maxHeartbeats 1000000
namespace B
open PySem PySem.Spec PyProof.Rows L2
/-! D82: {n: True}, {n: None} as tracked dicts. -/
section
variable {Γ : Gam} {ρ : GEnv} {M : Sto} {Q : G → Sto → Prop} {pos p1 p2 : Pos} {j1 j2 : Nat}
theorem de_dict1N {n : Int} (q : ∀ p, M p = none → Q (.op (.ref p)) (put M p (.dK [(.inl n, .d .none)]))) : DE Γ (.Dict [some (.Constant (.int n) j1 p1)] [.Constant .none j2 p2] pos) ρ M Q :=
  DE.of (fun X f => pe_disp (pps_cons pe_int pe_non pps_nil) rfl rfl (fun z => nomatch z) (by show 1 ≤ 15; omega)) fun X f σ H Qv r h0 k => fun q' nq => by
    refine ⟨upd_same, [(.inl n, .non)], rfl, by show 1 ≤ 15; omega, ?_⟩
    rw [upd_upd]
    exact k _ _ (.op (.ref q')) _ (.new nq) (h0.new (m := .dK [(.inl n, .d .none)]) nq ⟨[(.inl n, .non)], upd_same, .cons ⟨rfl, .non⟩ .nil⟩) rfl (q q' (h0.fresh nq))
end
end B
end
section
set_option maxHeartbeats 4000000
/-! D77: enumerate over a tuple; sorted(set(tuple)). -/
namespace B
open PySem PySem.Spec PyProof.Rows L2
end B
end
section
set_option maxHeartbeats 4000000
/-! D94: dicts that are read only from now on: made so, walked, asked, least key, sorted, compared with {}. -/
namespace B
open PySem PySem.Spec PyProof.Rows L2
abbrev KD (K : PySem.W.Frag) (H : Hp) : List (Key × V) → List (Key × PyData) → Prop := Paired fun x y => x.1 = y.1 ∧ Rp K H x.2 y.2
theorem kd_of {K : PySem.W.Frag} {H : Hp} : ∀ {vs : List (Key × V)} {kvs : List (Key × PyData)}, Paired (fun (a : Key × V) (b : Key × G) => a.1 = b.1 ∧ RG K H a.2 b.2) vs (kvs.map fun q => (q.1, G.d q.2)) → KD K H vs kvs
  | [], [], _ => .nil
  | [], _ :: _, h => by cases h
  | _ :: _, [], h => by cases h
  | _ :: _, _ :: _, h => by
    cases h with
    | cons a t => exact .cons a (kd_of t)
theorem kd_keys {K : PySem.W.Frag} {H : Hp} : ∀ {vs : List (Key × V)} {kvs : List (Key × PyData)}, KD K H vs kvs → vs.map (·.1) = kvs.map (·.1)
  | [], [], _ => rfl
  | [], _ :: _, h => by cases h
  | _ :: _, [], h => by cases h
  | _ :: _, _ :: _, h => by
    cases h with
    | cons a t => rw [List.map_cons, List.map_cons, kd_keys t, a.1]
theorem kd_len {K : PySem.W.Frag} {H : Hp} {vs : List (Key × V)} {kvs : List (Key × PyData)} (h : KD K H vs kvs) : vs.length = kvs.length := by
  have := congrArg List.length (kd_keys h)
  rwa [List.length_map, List.length_map] at this
theorem kd_get {K : PySem.W.Frag} {H : Hp} : ∀ {vs : List (Key × V)} {kvs : List (Key × PyData)} {i : Nat} {q : Key × PyData}, KD K H vs kvs → kvs[i]? = some q → ∃ v, vs[i]? = some (q.1, v) ∧ Rp K H v q.2
  | [], [], _, _, _, e => by cases e
  | [], _ :: _, _, _, h, _ => by cases h
  | _ :: _, [], _, _, h, _ => by cases h
  | x :: _, y :: _, 0, q, h, e => by
    cases h with
    | cons a t =>
      cases e
      exact ⟨x.2, by rw [← a.1]; rfl, a.2⟩
  | _ :: _, _ :: _, i + 1, q, h, e => by
    cases h with
    | cons a t => exact kd_get (i := i) t e
def valP (kvs : List (Key × PyData)) (k : Key) : Option PyData := (kvs.find? fun x => decide (x.1 = k)).map (·.2)
theorem kd_val {K : PySem.W.Frag} {H : Hp} {k : Key} : ∀ {vs : List (Key × V)} {kvs : List (Key × PyData)} {z : PyData}, KD K H vs kvs → valP kvs k = some z → ∃ v, valV vs k = some v ∧ Rp K H v z
  | [], [], _, _, e => by cases e
  | [], _ :: _, _, h, _ => by cases h
  | _ :: _, [], _, h, _ => by cases h
  | x :: vs, y :: kvs, z, h, e => by
    cases h with
    | cons q t =>
      obtain ⟨e1, r⟩ := q
      unfold valP at e
      unfold valV
      rw [List.find?_cons] at e ⊢
      by_cases hk : x.1 = k
      · have hy : y.1 = k := e1.symm.trans hk
        simp only [hk, hy, decide_true] at e ⊢
        cases e
        exact ⟨x.2, rfl, r⟩
      · have hy : ¬ y.1 = k := fun z => hk (e1.trans z)
        simp only [hk, hy, decide_false] at e ⊢
        exact kd_val t e
theorem rp_key {K : PySem.W.Frag} {H : Hp} (k : Key) : Rp K H (kV k) (kdat k) := by
  cases k with
  | inl i => exact .int i
  | inr x => exact .str x
theorem hold_frzK {K : PySem.W.Frag} {H : Hp} {M : Sto} {p : Addr} {kvs : List (Key × PyData)} {vs : List (Key × V)} {od : Obj} (h : Hold K H M) (e : H p = some (.dK vs)) (ra : KD K H vs kvs) :
    Pers H (upd H p (.frz od (.dK vs))) ∧ Hold K (upd H p (.frz od (.dK vs))) (del M p) ∧ RG K (upd H p (.frz od (.dK vs))) (.ref p) (.fd kvs) := by
  have pr : Pers H (upd H p (.frz od (.dK vs))) := Pers.put e (fun _ z => nomatch z) (fun _ _ z => nomatch z)
  refine ⟨pr, fun b o q => ?_, ⟨p, od, vs, rfl, upd_same, Paired.mapP ra fun x y z => ⟨z.1, z.2.mono pr⟩⟩⟩
  unfold del at q
  by_cases hb : b = p
  · rw [if_pos hb] at q
    cases q
  · rw [if_neg hb] at q
    exact (h b o q).mono pr (upd_ne hb)
section
variable {Γ : Gam} {ρ : GEnv} {M : Sto} {Q : G → Sto → Prop} {pos : Pos} {a b e iter tg : Expr}
/-- a dict of data is from now on read only -/
theorem de_frzK (h : DE Γ e ρ M fun g M1 => ∃ p kvs, g = .op (.ref p) ∧ M1 p = some (.dK (kvs.map fun q => (q.1, G.d q.2))) ∧ Q (.fd kvs) (del M1 p)) : DE Γ e ρ M Q := by
  refine ⟨fun X fit => ⟨fun pins s σ H Qv I ⟨r, h0, kk⟩ => ?_⟩⟩
  refine thn ((h.run X fit).run pins s σ H (fun v H1 => ∃ p vs kvs M1, v = .ref p ∧ H1 p = some (.dK vs) ∧ Pers H H1 ∧ Hold Γ.K H1 M1 ∧ KD Γ.K H1 vs kvs ∧ Q (.fd kvs) (del M1 p)) I ⟨r, h0, fun v H1 g M1 p1 h1 rg ⟨p, kvs, eg, eM, q⟩ => ?_⟩) fun v s1 ⟨x, H1, I1, r1, p, vs, kvs, M1, ex, hp, p1, h1, kd, q⟩ => ?_
  · subst eg
    cases rg
    obtain ⟨vs, e1, e2⟩ := h1 _ _ eM
    exact ⟨p, vs, kvs, M1, rfl, e1, p1, h1, kd_of e2, q⟩
  · subst ex
    obtain ⟨od, I2⟩ := I1.lock hp trivial
    obtain ⟨p2, h2, r2⟩ := hold_frzK (od := od) h1 hp kd
    exact ⟨.ref p, _, I2, r1, kk _ _ _ _ (p1.trans p2) h2 r2 q⟩
/-- for k in d -/
theorem di_keysF {Qi : List G → (Sto → Prop) → Sto → Prop} (h : DE Γ iter ρ M fun g M1 => ∃ kvs, g = .fd kvs ∧ Qi (kvs.map fun q => .d (kdat q.1)) (fun _ => True) M1) : DI Γ tg iter ρ M Qi :=
  DI.of (fun X f => pi_keys (pe_all f iter)) fun X f σ H R r h0 k => all_of h r h0 fun v H1 g M1 p1 r1 h1 rg ⟨kvs, e, q⟩ => by
    subst e
    obtain ⟨a, o, vs, rfl, ha, kd⟩ := rg
    refine ⟨a, o, rfl, .inl ⟨vs, ha, ?_⟩⟩
    refine k (Itk a o vs) H1 _ _ M1 p1 h1 ⟨fun i H M p h c hl => ⟨p.2.1 _ _ _ ha, by rw [kd_len kd]; rw [List.length_map] at hl; exact hl⟩, fun i g H M p h c e => ?_⟩ q
    rw [List.getElem?_map] at e
    cases eq : kvs[i]? with
    | none => rw [eq] at e; cases e
    | some y =>
      rw [eq] at e
      cases e
      obtain ⟨v, ev, _⟩ := kd_get kd eq
      refine ⟨⟨p.2.1 _ _ _ ha, (List.getElem?_eq_some_iff.mp ev).1⟩, fun x H' ⟨e3, k', v', ek, ex⟩ => ?_⟩
      subst e3
      rw [ev] at ek
      cases ek
      rw [ex]
      exact ⟨.refl _, h, rp_key _⟩
theorem pit_keysF {kvs : List (Key × PyData)} (h : PD Γ iter ρ M (.fd kvs)) : PIt Γ tg iter ρ M (kvs.map fun q => .d (kdat q.1)) := fun Q k => di_keysF (PD.de h ⟨kvs, rfl, k _ fun _ _ => trivial⟩)
/-- d[k], there -/
theorem de_fix (h : DE Γ a ρ M fun x M1 => DE Γ b ρ M1 fun y M2 => ∃ kvs d k z, x = .fd kvs ∧ y = .d d ∧ keyD d = some k ∧ valP kvs k = some z ∧ Q (.d z) M2) (hs : NoSl b := by intro _ _; rfl) : DE Γ (.Subscript a b pos) ρ M Q :=
  DE.of (fun X f => pe_dget (units1 f) (pe_all f a) (pe_all f b) hs) fun X f σ H Qv r h0 k => all_of h r h0 fun v H1 x M1 p1 r1 h1 rx d => all_of d r1 h1 fun u H2 y M2 p2 r2 h2 ry ⟨kvs, dd, kk, z, e1, e3, hk, hz, q⟩ => by
    subst e1 e3
    obtain ⟨p, o, vs, rfl, hp, kd⟩ := (RG.mono p2 rx)
    obtain ⟨w', ew, rw'⟩ := kd_val kd hz
    have eu := keyD_v hk ry
    subst eu
    exact ⟨p, w', rfl, .inl ⟨vs, kk, .inr ⟨o, hp⟩, rfl, ew.symm⟩, k w' H2 (.d z) M2 (p1.trans p2) h2 rw' q⟩
/-- sorted(d) -/
def oSortF : ON := fun xs M Q => ∃ kvs ks, xs = [.fd kvs] ∧ kvs.map (·.1) = ks.map Sum.inl ∧ ks.length < 64 ∧ ∀ ys : List Int, ys.Perm ks → ys.Pairwise (· ≤ ·) → ∀ b, M b = none → Q (.op (.ref b)) (put M b (.lst ((ys.map PyData.int).map G.d)))
theorem o_sortF : OpN Γ (.builtin "sorted") oSortF := fun X fit => CallR.mono' (call_sortedDI fit.calm) fun vs H Qv ⟨xs, M, Q, rs, hm, ⟨kvs, ks, e, hk, hl, q⟩, kk⟩ => by
  subst e
  obtain ⟨v, rfl, rg⟩ := rgs1 rs
  obtain ⟨p, o, vs, rfl, hp, kd⟩ := rg
  refine ⟨p, vs, ks, rfl, .inr ⟨o, hp⟩, (kd_keys kd).trans hk, hl, fun ys b h1 h2 nb => ?_⟩
  have pn : Pers H (upd H b (.lst (ys.map V.int))) := .new nb
  exact kk (.ref b) _ (.op (.ref b)) _ pn (hm.new (m := .lst ((ys.map PyData.int).map G.d)) nb ⟨_, upd_same, RGs.of_data (RpAll.of_ints ys)⟩) rfl (q ys h1 h2 b (hm.fresh nb))
end
end B
end
section
set_option maxHeartbeats 4000000
/-! D78: list[::-1]. -/
namespace B
open PySem PySem.Spec PyProof.Rows L2
section
variable {Γ : Gam} {ρ : GEnv} {M : Sto}
theorem pd_revL {e : Expr} {x : G} {ds : List PyData} {k : Nat} {p1 p2 p3 pos : Pos} (he : PD Γ e ρ M x) (hx : DatV M x (.list ds)) : PD Γ (.Subscript e (.Slice none none (some (.UnaryOp .USub (.Constant (.int 1) k p1) p2)) p3) pos) ρ M (.d (.list ds.reverse)) :=
  de_frz (DE.of (fun X f => pe_revL (pe_all f e)) fun X f σ H Qv r h0 kk => all_of he r h0 fun v H' g M' q1 r1 h1 rg ⟨eg, eM⟩ => by
    subst eg eM
    obtain ⟨a, xs, rfl, ha, ra⟩ := hx.sql h1 rg
    refine ⟨a, xs, rfl, by rw [f.K]; exact ha, fun p np => ?_⟩
    have pn : Pers H' (upd H' p (.lst xs.reverse)) := .new np
    refine kk (.ref p) _ (.op (.ref p)) _ (q1.trans pn) (h1.new (m := .lst (ds.reverse.map G.d)) np ⟨_, upd_same, RGs.of_data ((RpAll.reverse ra).mono pn)⟩) rfl (.inr ⟨p, ds.reverse, rfl, put_same, rfl, ?_⟩)
    exact del_put (h1.fresh np))
end
end B
end
section
set_option maxHeartbeats 4000000
/-! D95: list[:0:-1]: all but the first, turned about. -/
namespace B
open PySem PySem.Spec PyProof.Rows L2
theorem fm_congr {α β : Type} {f g : α → Option β} : ∀ l : List α, (∀ x ∈ l, f x = g x) → l.filterMap f = l.filterMap g
  | [], _ => rfl
  | x :: r, h => by
    rw [List.filterMap_cons, List.filterMap_cons, h x List.mem_cons_self, fm_congr r fun y hy => h y (List.mem_cons_of_mem _ hy)]
theorem idx_back (m : Nat) : sliceRange (((m + 1 : Nat) : Int) - 1) 0 (-1) = (List.range m).map fun j => m - j := by
  unfold sliceRange
  have n1 : ¬ ((-1 : Int) > 0) := by decide
  by_cases h : (((m + 1 : Nat) : Int) - 1) > 0
  · have e : ((((m + 1 : Nat) : Int) - 1) - 0 - -1 - 1) / (- -1) = (m : Int) := by
      rw [show (- -1 : Int) = 1 by decide, Int.ediv_one]
      omega
    simp only [n1, if_false, h, if_true, e, Int.toNat_natCast]
    refine List.map_congr_left fun j hj => ?_
    have := List.mem_range.mp hj
    omega
  · have e : m = 0 := by omega
    subst e
    simp
theorem bounds_back (n : Nat) : sliceBounds none (some 0) (some (-1)) n = ((n : Int) - 1, if n = 0 then -1 else 0, -1) := by
  cases n with
  | zero => rfl
  | succ m =>
    rw [if_neg (by omega)]
    unfold sliceBounds
    simp
    omega
theorem pick_back (items : Array Value) : slicePick items none (some 0) (some (-1)) = (items.toList.drop 1).reverse.toArray := by
  unfold slicePick
  rw [bounds_back]
  obtain ⟨l⟩ := items
  cases l with
  | nil => rfl
  | cons a r =>
    have hs : (⟨a :: r⟩ : Array Value).size = r.length + 1 := rfl
    rw [hs, if_neg (by omega)]
    show ((sliceRange (((r.length + 1 : Nat) : Int) - 1) 0 (-1)).filterMap _).toArray = _
    rw [idx_back, List.filterMap_map]
    have key : ∀ j ∈ List.range r.length, ((fun i : Nat => (⟨a :: r⟩ : Array Value)[i]?) ∘ fun j => r.length - j) j = (r.reverse.toArray)[j]? := fun j hj => by
      have hj := List.mem_range.mp hj
      show (⟨a :: r⟩ : Array Value)[r.length - j]? = _
      rw [List.getElem?_toArray, List.getElem?_toArray, List.getElem?_reverse hj]
      obtain ⟨q, eq⟩ : ∃ q, r.length - j = q + 1 := ⟨r.length - j - 1, by omega⟩
      rw [eq, List.getElem?_cons_succ]
      congr 1
      omega
    rw [fm_congr _ key]
    have := PySem.W.krv_all r.reverse.toArray
    rw [List.size_toArray, List.length_reverse] at this
    rw [this]
    rfl
section
variable {X : Cx}
theorem pe_revT {e : Expr} {te : TE} {k0 k1 : Nat} {q0 q1 q2 q3 pos : Pos} (he : PE X e te) : PE X (.Subscript e (.Slice none (some (.Constant (.int 0) k0 q0)) (some (.UnaryOp .USub (.Constant (.int 1) k1 q1) q2)) q3) pos)
    (fun σ H Q => te σ H fun x H1 => ∃ a xs, x = .ref a ∧ SqL X.K H1 a xs ∧ ∀ p, H1 p = none → Q (.ref p) (upd H1 p (.lst (xs.drop 1).reverse))) := by
  refine ⟨fun pns s σ H Q I asks => ?_⟩
  refine Subscript_ (thn (he.run pns s σ H _ I asks) fun v sA ⟨x, HA, IA, rA, a, xs, ex, hx, q⟩ => ?_)
  subst ex
  cases rA
  have up : PO X (some (.Constant (.int 0) k0 q0)) (tPart (tC (.int 0))) := po_some pe_int
  have st : PO X (some (.UnaryOp .USub (.Constant (.int 1) k1 q1) q2)) (tPart (tUn (rU fun i => .int (-i)) (tC (.int 1)))) := po_some (pe_un un_neg pe_int)
  refine wpAny_Slice (thn (po_none.run pns sA σ HA (fun o G => o = none ∧ G = HA) IA ⟨rfl, rfl⟩) fun v1 sB ⟨o1, HB, IB, w1, eo1, eH1⟩ => ?_)
  subst eo1 eH1
  refine thn (up.run pns sB σ HB (fun o G => o = some 0 ∧ G = HB) IB ⟨0, rfl, rfl, rfl⟩) fun v2 sC ⟨o2, HC, IC, w2, eo2, eH2⟩ => ?_
  subst eo2 eH2
  refine thn (st.run pns sC σ HC (fun o G => o = some (-1) ∧ G = HC) IC ⟨1, rfl, -1, rfl, rfl, rfl⟩) fun v3 sD ⟨o3, HD, ID, w3, eo3, eH3⟩ => ?_
  subst eo3 eH3
  have IE : Inv X pns σ HD { sD with heap := sD.heap.push { cls := .type "slice", data := .fields #[v1, v2, v3] } } := ID.kept (t' := sD.toks) fun b ob h => Heap.get?_push_of_some _ h
  obtain ⟨its, rr, lt, sz⟩ := IE.list hx
  have ln := rr.length
  show wpAny (model X.prog X.w) X.A (subscriptTail e (.Slice none (some (.Constant (.int 0) k0 q0)) (some (.UnaryOp .USub (.Constant (.int 1) k1 q1) q2)) q3) (.ref a) (.ref sD.heap.objs.size)) (EP X pns σ Q) X.xe { sD with heap := sD.heap.push { cls := .type "slice", data := .fields #[v1, v2, v3] } }
  refine tail_any (ops := [.ref a, .ref sD.heap.objs.size]) lt.isList.typeIs (PySem.slot_list_getitem.lookup) ?_ (by with_unfolding_all rfl)
  refine wpAny_getItem_list_slice lt.isList (Heap.IsSliceOf.new _ v1 v2 v3) w1 w2 w3 (by decide) ?_ (by rw [List.size_toArray]; omega)
  rw [pick_back]
  refine ⟨.ref _, _, IE.laid (t' := sD.toks) (o := .lst (xs.drop 1).reverse) (fun b ob h => Heap.get?_push_of_some _ h) (Nat.le_refl _) ?_, rfl, q _ (IE.hok.fresh (Nat.le_refl _))⟩
  exact ⟨by rw [List.length_reverse, List.length_drop]; omega, _, 0, (Vals.drop 1 rr).reverse, Heap.get?_push_size _ rfl⟩
end
section
variable {Γ : Gam} {ρ : GEnv} {M : Sto} {Q : G → Sto → Prop}
theorem RGs.drop1 {K : PySem.W.Frag} {H : Hp} {vs : List V} {gs : List G} (h : RGs K H vs gs) : RGs K H (vs.drop 1) (gs.drop 1) := by
  cases h with
  | nil => exact .nil
  | cons a t => exact t
theorem RGs.rev {K : PySem.W.Frag} {H : Hp} : ∀ {vs : List V} {gs : List G}, RGs K H vs gs → RGs K H vs.reverse gs.reverse
  | _, _, .nil => .nil
  | _, _, .cons a t => by
    rw [List.reverse_cons, List.reverse_cons]
    exact (RGs.rev t).append (.cons a .nil)
theorem de_revT {e : Expr} {k0 k1 : Nat} {q0 q1 q2 q3 pos : Pos} (h : DE Γ e ρ M fun g M1 => ∃ p gs, g = .op (.ref p) ∧ M1 p = some (.lst gs) ∧ ∀ p', M1 p' = none → Q (.op (.ref p')) (put M1 p' (.lst (gs.drop 1).reverse))) : DE Γ (.Subscript e (.Slice none (some (.Constant (.int 0) k0 q0)) (some (.UnaryOp .USub (.Constant (.int 1) k1 q1) q2)) q3) pos) ρ M Q :=
  DE.of (fun X f => pe_revT (pe_all f e)) fun X f σ H Qv r h0 kk => all_of h r h0 fun v H1 g M1 p1 r1 h1 rg ⟨p, gs, eg, eM, q⟩ => by
    subst eg
    cases rg
    obtain ⟨vs, e1, rs⟩ := h1 _ _ eM
    refine ⟨p, vs, rfl, .inl (.inl e1), fun p' np => ?_⟩
    have pn : Pers H1 (upd H1 p' (.lst (vs.drop 1).reverse)) := .new np
    exact kk (.ref p') _ (.op (.ref p')) _ (p1.trans pn) (h1.new (m := .lst (gs.drop 1).reverse) np ⟨_, upd_same, (RGs.mono pn rs).drop1.rev⟩) rfl (q p' (h1.fresh np))
end
end B
end
section
set_option maxHeartbeats 4000000
/-! D96: a statement told by itself, then the rest. -/
namespace B
open PySem PySem.Spec PyProof.Rows L2
theorem ds_one {Γ : Gam} {ρ ρ' : GEnv} {M M' : Sto} {D : DEnds} {st : Stmt} {rest : List Stmt} (h : D1 Γ st ρ M { D with nx := fun ρ1 M1 => ρ1 = ρ' ∧ M1 = M' }) (k : DS Γ rest ρ' M' D) : DS Γ (st :: rest) ρ M D := by
  refine ds_cons ⟨fun X f => PS.mono' (h.run X f) fun E σ H ⟨a, b, c⟩ => ⟨a, b, ⟨fun σ' H' ρ1 M1 p r h' ⟨e1, e2⟩ => ?_, c.rt, c.bk, c.ct⟩⟩⟩
  subst e1 e2
  exact c.nx σ' H' _ _ p r h' k
theorem pitT_listD {Γ : Gam} {ρ : GEnv} {M : Sto} {tg iter : Expr} {ds : List PyData} (h : PD Γ iter ρ M (.d (.list ds))) : PItT Γ tg iter ρ M (ds.map G.d) := fun Q k =>
  DI.of (fun X f => pi_list (pe_all f iter)) fun X f σ H R r h0 kk => all_of h r h0 fun v H1 g M1 p1 r1 h1 rg ⟨e, eM⟩ => by
    subst e eM
    obtain ⟨a, xs, rfl, ha, ra⟩ := (DatV.d (M := M1) (.list ds)).sql h1 rg
    refine ⟨a, rfl, ⟨xs, by rw [f.K]; exact ha⟩, ?_⟩
    rw [f.K]
    refine kk (Itl Γ.K a) H1 _ _ M1 p1 h1 (feeds_data (xs := xs) _ fun H M p h c => ?_) k
    obtain ⟨a', xs', e, ha', ra'⟩ := (DatV.d (M := M) (.list ds)).sql h (rg.mono p)
    cases e
    exact ⟨xs', ha', ra'⟩
end B
end
section
set_option maxHeartbeats 4000000
namespace K13
open PySem PySem.Spec PyProof.Rows L2 B
/-! FY2: Faces.tied, Faces.closed; told_lots. -/
theorem lotsB_mem {n : Nat} (hn : n ≤ 6) {l : List Int} (h : l ∈ lotsB n) : l ∈ L6 ∧ ∀ t ∈ l, t < (n : Int) := (F_lotsB n (by rw [List.mem_range]; omega)).1 l h
theorem lotsB_len {n : Nat} (hn : n ≤ 6) : (lotsB n).length ≤ 64 := by
  unfold lotsB
  rw [List.length_map, List.length_range]
  exact (F_lotsB n (by rw [List.mem_range]; omega)).2.2.2.1
def ixOf (x : Str) : Nat := fnL.findIdx fun d => d.name == x
section
variable {P : Program} {w : World} {K : PySem.W.Frag} {mg : Str → Option Value} {base : Heap}
theorem range_lots {n : Nat} (hn : n ≤ 6) : rangeG 0 ((2 : Int) ^ n).toNat = (lotsB n).map fun l => B.G.d (.int (bits l)) := by
  have h64 := (F_lotsB n (by rw [List.mem_range]; omega)).2.2.2.1
  have e : ((2 : Int) ^ n).toNat = 2 ^ n := by
    have : (2 : Int) ^ n = ((2 ^ n : Nat) : Int) := by simp
    rw [this, Int.toNat_natCast]
  rw [e, rangeG_eq]
  unfold lotsB
  rw [List.map_map]
  refine List.map_congr_left fun i hi => ?_
  rw [List.mem_range] at hi
  show B.G.d (.int (0 + (i : Nat))) = B.G.d (.int (bits (lotI i)))
  rw [(F_lotI i (by rw [List.mem_range]; omega)).2, Int.zero_add]
theorem fa_under {a d D : Addr} {n : Nat} {ls : List (List Int)} {M : Sto} (h : FaM K a d n ls M) (hD : M D = none) (acc : List B.G) : FaM K a d n ls (put M D (.lst acc)) := by
  refine ⟨?_, ?_⟩
  · rw [put_ne (fun z => by rw [← z, h.a] at hD; cases hD)]
    exact h.a
  · obtain ⟨kvs, e, m⟩ := h.d
    exact ⟨kvs, by rw [put_ne (fun z => by rw [← z, e] at hD; cases hD)]; exact e, m⟩
theorem F_two : ∀ n ∈ List.range 7, -(2 ^ 60) ≤ (2 : Int) ^ n ∧ (2 : Int) ^ n ≤ 2 ^ 60 := by decide +kernel
end
end K13
end
section
set_option maxHeartbeats 4000000
namespace K13
open PySem PySem.Spec PyProof.Rows L2 B
/-! KP1: layers_of. -/
def dE (es : List Ent) : List (Key × B.G) := (es.map entP).map fun q => (q.1, B.G.d q.2)
theorem dE_snoc (es : List Ent) (e : Ent) : dE (es ++ [e]) = dE es ++ [((entP e).1, .d (entP e).2)] := by
  unfold dE
  rw [List.map_append, List.map_append]
  rfl
theorem bits_in {e : Ent} {X : List Int} (he : e.lot ∈ L6) (hX : X ∈ L6) : decide ((Sum.inl (bits e.lot) : Key) = .inl (bits X)) = decide (e.lot = X) := by
  rw [decide_eq_decide]
  constructor
  · intro h
    injection h with h
    exact F_inj _ he _ hX h
  · intro h; rw [h]
theorem any_has {X : List Int} (hX : X ∈ L6) : ∀ {es : List Ent}, (∀ e ∈ es, e.lot ∈ L6) → ((dE es).any fun kv => decide (kv.1 = (Sum.inl (bits X) : Key))) = hasL es X
  | [], _ => rfl
  | e :: r, h => by
    have ih := any_has hX (es := r) fun x hx => h x (List.mem_cons_of_mem _ hx)
    unfold dE hasL at ih ⊢
    rw [List.map_cons, List.map_cons, List.any_cons, List.any_cons, ih]
    congr 1
    exact bits_in (h e List.mem_cons_self) hX
theorem find_any {α : Type} (p : α → Bool) : ∀ l : List α, (l.find? p).isSome = l.any p
  | [] => rfl
  | x :: r => by
    rw [List.find?_cons, List.any_cons]
    cases h : p x with
    | true => rfl
    | false => rw [Bool.false_or]; exact find_any p r
theorem val_has {es : List Ent} {X : List Int} (h : ∀ e ∈ es, e.lot ∈ L6) (hX : X ∈ L6) : (valG (dE es) (.inl (bits X))).isSome = hasL es X := by
  unfold valG
  rw [Option.isSome_map, ← any_has hX h]
  exact find_any _ _
theorem put_new {es : List Ent} {e : Ent} (h : ∀ x ∈ es, x.lot ∈ L6) (he : e.lot ∈ L6) (hn : hasL es e.lot = false) : putG (dE es) (.inl (bits e.lot)) (.d (entP e).2) = dE (es ++ [e]) := by
  unfold putG
  rw [any_has he h, hn, dE_snoc]
  rfl
section
variable {fr : List Int → Bool} {left : Bool} {w : List Int} {keys : List (List Int)} {es : List Ent}
theorem LayOk.l6 (h : LayOk fr left w keys es) (hk : ∀ X ∈ keys, X ∈ L6) (hw : w ∈ L6) : ∀ e ∈ es, e.lot ∈ L6 := fun e he => by
  obtain ⟨h1, h2⟩ := h.all e he
  rcases h2 with ⟨_, _, h3⟩ | ⟨t, _, h3, _, h5, _⟩
  · rw [h3]; exact hk _ h1
  · rw [h5]; exact (F_ins _ (hk _ h1) t (F_mem w hw t h3)).2
theorem LayOk.len (h : LayOk fr left w keys es) (hk : ∀ X ∈ keys, X ∈ L6) (hw : w ∈ L6) : es.length ≤ 64 := by
  have h1 : (es.map Ent.lot).length ≤ L6.length := h.nd.length_le_of_subset fun X hX => by
    obtain ⟨e, he, rfl⟩ := List.mem_map.mp hX
    exact h.l6 hk hw e he
  rw [List.length_map] at h1
  exact Nat.le_trans h1 (by decide +kernel)
end
theorem keys_l6 {fr : List Int → Bool} {left : Bool} {lists : List (List Int)} (hl : ∀ w ∈ lists, w ∈ L6) : ∀ X ∈ keysAt fr left lists, X ∈ L6 := fun X hX => by
  have h := back_way (ws := lists.reverse) (X := X) (fr := fr) (left := left) (by rw [List.reverse_reverse]; exact hX)
  exact (way_lot (fun w hw => hl w (List.mem_reverse.mp hw)) h).1
def lay0 : List (Key × PyData) := [(.inl 0, .none)]
/-- the layers, the first one first -/
def laysL (fr : List Int → Bool) (left : Bool) (lists : List (List Int)) : List (List Ent) := (List.range lists.length).map fun i => layN fr left (lists.getD i []) (keysAt fr left (lists.take i))
def layG (es : List Ent) : B.G := .fd (es.map entP)
theorem laysL_snoc (fr : List Int → Bool) (left : Bool) (lists : List (List Int)) (w : List Int) : laysL fr left (lists ++ [w]) = laysL fr left lists ++ [layN fr left w (keysAt fr left lists)] := by
  unfold laysL
  rw [List.length_append, List.length_singleton, List.range_succ, List.map_append]
  congr 1
  · refine List.map_congr_left fun i hi => ?_
    have hi := List.mem_range.mp hi
    rw [List.take_append_of_le_length (by omega), List.getD_eq_getElem?_getD, List.getD_eq_getElem?_getD, List.getElem?_append_left hi]
  · rw [List.map_singleton, List.take_append_of_le_length (by omega), List.take_length, List.getD_eq_getElem?_getD, List.getElem?_append_right (Nat.le_refl _), Nat.sub_self]
    rfl
theorem laysL_rev (fr : List Int → Bool) (left : Bool) : ∀ ws : List (List Int), laysL fr left ws.reverse = (laysR fr left ws).reverse
  | [] => rfl
  | w :: ws => by
    rw [List.reverse_cons, laysL_snoc, laysL_rev fr left ws, laysR, List.reverse_cons]
theorem atI_snoc {α : Type} (xs : List α) (x : α) : atI (xs ++ [x]) (-1) = some x := by
  rw [atI_last (by simp)]
  simp
/-- the last layer's keys -/
theorem last_keys {fr : List Int → Bool} {left : Bool} {lists : List (List Int)} : ∃ kvs, atI (B.G.fd lay0 :: (laysL fr left lists).map layG) (-1 : Int) = some (.fd kvs) ∧ kvs.map (·.1) = (keysAt fr left lists).map fun X => (Sum.inl (bits X) : Key) := by
  have key : ∀ ws : List (List Int), ∃ kvs, atI (B.G.fd lay0 :: (laysL fr left ws.reverse).map layG) (-1 : Int) = some (.fd kvs) ∧ kvs.map (·.1) = (keysAt fr left ws.reverse).map fun X => (Sum.inl (bits X) : Key) := fun ws => by
    cases ws with
    | nil => exact ⟨lay0, rfl, rfl⟩
    | cons w ws =>
      refine ⟨(layN fr left w (keysAt fr left ws.reverse)).map entP, ?_, ?_⟩
      · rw [List.reverse_cons, laysL_snoc, List.map_append, ← List.cons_append]
        exact atI_snoc (B.G.fd lay0 :: (laysL fr left ws.reverse).map layG) _
      · rw [keys_rev, List.map_map, List.map_map]
        rfl
  have := key lists.reverse
  rwa [List.reverse_reverse] at this
section
variable {P : Program} {w : World} {K : PySem.W.Frag} {mg : Str → Option Value} {base : Heap}
/-- a sequence of data that never changes -/
abbrev SeqD (g : B.G) (xs : List PyData) : Prop := g = .d (.tuple xs) ∨ g = .d (.list xs)
theorem di_seqD {Γ : Gam} {ρ : GEnv} {M : Sto} {tg iter : Expr} {g : B.G} {xs : List PyData} {Q : List B.G → (Sto → Prop) → Sto → Prop} (h : PD Γ iter ρ M g) (hs : SeqD g xs) (k : ∀ C, (∀ M', C M') → Q (xs.map B.G.d) C M) : DI Γ tg iter ρ M Q := by
  rcases hs with rfl | rfl
  · exact di_tup (PD.de h ⟨xs, rfl, k _ fun _ => trivial⟩)
  · exact di_list (PD.de h ⟨xs, .d _, k _ fun _ => .d _⟩)
def o_layers (K : PySem.W.Frag) : ON := fun gs M Q => ∃ (a d : Addr) (n : Nat) (ls : List (List Int)) (lists : List (List Int)) (g : B.G) (left : Bool), gs = [.op (.ref a), g, .d (.bool left)] ∧ SeqD g (lists.map lotD) ∧ (∀ w ∈ lists, LotN n w) ∧ lists.length ≤ 100 ∧ FuOk n ls ∧ FaM K a d n ls M ∧
  ∀ kvs L, Memo ls kvs → M L = none → Q (.op (.ref L)) (put (put M d (.dK kvs)) L (.lst (.fd lay0 :: (laysL (freeB ls) left lists).map layG)))
theorem ok_layers (gl : Gl K mg) (fk : FaK K mg) : Fn P w K mg base 6 "layers_of" (o_layers K) := by
  refine okf (k := 5) (d := d_layers_of) (N := ["faces", "lists", "is_left", "layers", "wished", "later", "bits", "thing", "more"]) (ps := ["faces", "lists", "is_left"]) gl (ixOf "layers_of") (by kernel_rfl) (fun _ _ _ _ _ _ us hl => match us, hl with | [_, _, _], _ => rfl) (by decide +kernel) (fun gs M Q ⟨_, _, _, _, _, _, _, e, _⟩ => by rw [e]; rfl) (fun gs M Q ⟨a, d, n, ls, lists, g, left, e, hg, hw, hll, fu, fa, q⟩ => ?_)
  subst e
  obtain ⟨kvs0, hd0, hm0⟩ := fa.d
  have ad := fa.ne
  have w6 : ∀ w ∈ lists, w ∈ L6 := fun w h => (hw w h).1
  refine ds_cons (d1_set 3 (de_listM (da_cons (de_frzK (de_dict1N fun p0 hp0 => ⟨p0, lay0, rfl, put_same, da_nil ⟨Nat.le_of_ble_eq_true rfl, fun L hL => ?_⟩⟩)))))
  rw [del_put hp0] at hL ⊢
  have Ld : L ≠ d := fun z => by rw [z, hd0] at hL; cases hL
  have La : L ≠ a := fun z => by rw [z, fa.a] at hL; cases hL
  refine ds_cons (d1_for (di_seqD (PD.de (pd_var 1) ⟨rfl, rfl⟩) hg fun C hC => ⟨fun i ρ M' => ∃ kvs x4 x5 x6 x7 x8, Memo ls kvs ∧ M' = put (put M d (.dK kvs)) L (.lst (.fd lay0 :: (laysL (freeB ls) left (lists.take i)).map layG)) ∧ ρ = [some (.op (.ref a)), some g, some (.d (.bool left)), some (.op (.ref L)), x4, x5, x6, x7, x8], ⟨kvs0, _, _, _, _, _, hm0, by rw [put_self hd0]; rfl, rfl⟩, fun _ _ _ _ _ => hC _, ?_, ?_⟩))
  · rintro i g0 ρ M' eg ⟨kvs, x4, x5, x6, x7, x8, hm, rfl, rfl⟩
    rw [List.getElem?_map, List.getElem?_map] at eg
    cases ew : lists[i]? with
    | none => rw [ew] at eg; cases eg
    | some wi =>
    rw [ew] at eg
    cases eg
    have hwi := hw wi (List.mem_of_getElem? ew)
    have htk : lists.take (i + 1) = lists.take i ++ [wi] := by rw [List.take_add_one, ew]; rfl
    have hpre : ∀ v ∈ lists.take i, v ∈ L6 := fun v hv => w6 v (List.mem_of_mem_take hv)
    obtain ⟨lkv, hat, hkeys⟩ := last_keys (fr := freeB ls) (left := left) (lists := lists.take i)
    have k6 := keys_l6 (fr := freeB ls) (left := left) hpre
    obtain ⟨keys, ekeys⟩ : ∃ keys, keysAt (freeB ls) left (lists.take i) = keys := ⟨_, rfl⟩
    obtain ⟨gs, egs⟩ : ∃ gs, (B.G.fd lay0 :: (laysL (freeB ls) left (lists.take i)).map layG : List B.G) = gs := ⟨_, rfl⟩
    rw [ekeys] at hkeys k6
    rw [egs] at hat ⊢
    refine dg_name 4 (ds_cons (d1_set 5 (de_emptyD fun p hp => ?_)))
    have pL : p ≠ L := fun z => by rw [z, put_same] at hp; cases hp
    have pd : p ≠ d := fun z => by rw [z, put_ne (Ne.symm Ld), put_same] at hp; cases hp
    have pa : p ≠ a := fun z => by rw [z, put_ne (Ne.symm La), put_ne ad, fa.a] at hp; cases hp
    have hMp : M p = none := by rw [put_ne pL, put_ne pd] at hp; exact hp
    have faS : ∀ kv o, Memo ls kv → FaM K a d n ls (put (put (put M d (.dK kv)) L (.lst gs)) p o) := fun kv o hkv => ⟨by rw [put_ne (Ne.symm pa), put_ne (Ne.symm La), put_ne ad]; exact fa.a, kv, by rw [put_ne (Ne.symm pd), put_ne (Ne.symm Ld)]; exact put_same, hkv⟩
    have swap : ∀ kv kv' o, put (put (put (put M d (.dK kv)) L (.lst gs)) p o) d (.dK kv') = put (put (put M d (.dK kv')) L (.lst gs)) p o := fun kv kv' o => by
      rw [put_comm pd, put_comm Ld, put_put]
    have hk2 : (lkv.map fun q => B.G.d (kdat q.1)) = keys.map fun X => B.G.d (.int (bits X)) := by
      have : (lkv.map fun q => B.G.d (kdat q.1)) = (lkv.map (·.1)).map fun k => B.G.d (kdat k) := by rw [List.map_map]; rfl
      rw [this, hkeys, List.map_map]
      rfl
    refine ds_cons (d1_for (di_keysF (de_ix o_ixM (PD.de (pd_var 3) (PD.de (PD.to (pd_un o_neg pd_int ⟨_, rfl, rfl, rfl⟩) rfl) ⟨L, gs, -1, _, rfl, by rw [put_ne (Ne.symm pL)]; exact put_same, rfl, hat, lkv, rfl, ?_⟩)))))
    rw [hk2]
    refine ⟨fun j ρ M' => ∃ kv x6 x7 x8, Memo ls kv ∧ M' = put (put (put M d (.dK kv)) L (.lst gs)) p (.dK (dE ((keys.take j).foldl (putX (freeB ls) left wi) []))) ∧ ρ = [some (.op (.ref a)), some g, some (.d (.bool left)), some (.op (.ref L)), some (.d (lotD wi)), some (.op (.ref p)), x6, x7, x8], ⟨kvs, _, _, _, hm, rfl, rfl⟩, fun _ _ _ _ _ => trivial, ?_, ?_⟩
    · rintro j g1 ρ M' eg ⟨kv, x6, x7, x8, hkv, rfl, rfl⟩
      rw [List.getElem?_map] at eg
      cases eX : keys[j]? with
      | none => rw [eX] at eg; cases eg
      | some X =>
      rw [eX] at eg
      cases eg
      have hX := List.mem_of_getElem? eX
      have X6 := k6 X hX
      have htkX : keys.take (j + 1) = keys.take j ++ [X] := by rw [List.take_add_one, eX]; rfl
      obtain ⟨es, ees⟩ : ∃ es, (keys.take j).foldl (putX (freeB ls) left wi) [] = es := ⟨_, rfl⟩
      have hes : LayOk (freeB ls) left wi keys es := by rw [← ees]; exact foldX_ok ⟨fun e he => (nomatch he), .nil⟩ fun Y hY => List.mem_of_mem_take hY
      rw [ees]
      have hes6 := hes.l6 k6 hwi.1
      have hz1 := hes.len k6 hwi.1
      refine dg_name 6 (ds_one (ρ' := [some (.op (.ref a)), some g, some (.d (.bool left)), some (.op (.ref L)), some (.d (lotD wi)), some (.op (.ref p)), some (.d (.int (bits X))), x7, x8]) (M' := put (put (put M d (.dK kv)) L (.lst gs)) p (.dK (dE (putL left es X)))) ?_ ?_)
      · refine d1_ifB (k := left && !hasL es X) (PW'.pb (pw_and' (k := left) (l := !hasL es X) (pb_val (pd_var 2)) fun _ => pw_and1' (pb_cmp o_dnot (pd_var 6) (pd_var 5) ⟨_, _, p, _, rfl, rfl, rfl, put_same, by rw [val_has hes6 X6], rfl⟩))) (fun h => ?_) (fun h => ds_nil ⟨rfl, ?_⟩)
        · have hh : left = true ∧ hasL es X = false := by simpa using h
          refine ds_cons (d1_dput (PD.de (pd_tup (ds := [.int (bits X), .none]) (.cons (pd_var 6) (da1 pd_non))) (PD.de (pd_var 5) (PD.de (pd_var 6) ⟨p, dE es, .int (bits X), _, rfl, put_same, rfl, rfl, by unfold dE; rw [List.length_map, List.length_map]; show _ < 16777216; omega, ds_nil ⟨rfl, ?_⟩⟩))))
          have e1 : putG (dE es) (Sum.inl (bits X)) (B.G.d (.tuple [.int (bits X), .none])) = dE (es ++ [⟨X, X, none⟩]) := put_new (e := ⟨X, X, none⟩) hes6 X6 hh.2
          rw [put_put, e1]
          unfold putL
          rw [if_pos h]
        · unfold putL
          rw [if_neg (by rw [h]; decide)]
      · have hp1 := putL_ok hes hX
        refine ds_cons (d1_for (di_tup (PD.de (pd_var 4) ⟨wi.map PyData.int, rfl, fun q ρ M' => ∃ kv x7 x8, Memo ls kv ∧ M' = put (put (put M d (.dK kv)) L (.lst gs)) p (.dK (dE ((wi.take q).foldl (put1 (freeB ls) X) (putL left es X)))) ∧ ρ = [some (.op (.ref a)), some g, some (.d (.bool left)), some (.op (.ref L)), some (.d (lotD wi)), some (.op (.ref p)), some (.d (.int (bits X))), x7, x8], ⟨kv, _, _, hkv, rfl, rfl⟩, fun _ _ _ _ _ => trivial, ?_, ?_⟩)))
        · rintro q1 g2 ρ M' eg ⟨kv, x7, x8, hkv, rfl, rfl⟩
          rw [List.getElem?_map, List.getElem?_map] at eg
          cases et : wi[q1]? with
          | none => rw [et] at eg; cases eg
          | some t =>
          rw [et] at eg
          cases eg
          have ht := List.mem_of_getElem? et
          have t6 := F_mem wi hwi.1 t ht
          have htkt : wi.take (q1 + 1) = wi.take q1 ++ [t] := by rw [List.take_add_one, et]; rfl
          obtain ⟨fs, efs⟩ : ∃ fs, (wi.take q1).foldl (put1 (freeB ls) X) (putL left es X) = fs := ⟨_, rfl⟩
          have hfs : LayOk (freeB ls) left wi keys fs := by rw [← efs]; exact fold1_ok hX hp1 fun u hu => List.mem_of_mem_take hu
          rw [efs]
          have hfs6 := hfs.l6 k6 hwi.1
          have hz2 := hfs.len k6 hwi.1
          obtain ⟨i1, i2⟩ := F_ins X X6 t t6
          have hnx : put1 (freeB ls) X fs t = (wi.take (q1 + 1)).foldl (put1 (freeB ls) X) (putL left es X) := by rw [htkt, List.foldl_append, efs]; rfl
          have tb : 0 ≤ t ∧ t ≤ 100 := by
            simp only [List.mem_cons, List.not_mem_nil, or_false] at t6
            omega
          refine dg_name 7 (ds_cons (d1_set 8 (PD.de (g := .d (.int (bits (ins X t)))) (PD.to (pd_bin o_or (pd_var 6) (pd_bin o_shl pd_int (pd_var 7) ⟨_, _, rfl, rfl, ⟨by omega, by omega, by decide⟩, rfl, rfl⟩) ⟨_, _, rfl, rfl, rfl, rfl⟩) (by rw [← i1])) ?_)))
          have beq : decide (bits (ins X t) = bits X) = X.contains t := by
            rw [Bool.eq_iff_iff, decide_eq_true_iff, List.contains_iff_mem]
            constructor
            · intro h
              have := F_inj _ i2 _ X6 h
              rw [← this]
              exact (ins_mem X6 t6).mpr (.inr rfl)
            · intro h
              have : ins X t = X := ext6 i2 X6 fun u => (ins_mem X6 t6).trans ⟨fun z => z.elim id fun e => by rw [e]; exact h, .inl⟩
              rw [this]
          refine ds_cons (d1_if (DW.dt (dw_and (PB.dt (b := !X.contains t) (PB.to (pb_cmp o_ne (pd_var 8) (pd_var 6) ⟨_, _, .d _, .d _, pl_int _, pl_int _, by rw [eqv_int], rfl⟩) (by rw [beq])) ?_))))
          cases hc : X.contains t with
          | true =>
            refine ifF rfl (ifF rfl (ds_nil (ds_nil ⟨kv, _, _, hkv, ?_, rfl⟩)))
            rw [← hnx]
            unfold put1
            rw [hc]
            rfl
          | false =>
          refine ifT rfl (dw_and (PB.dt (b := !hasL fs (ins X t)) (pb_cmp o_dnot (pd_var 8) (pd_var 5) ⟨_, _, p, _, rfl, rfl, rfl, put_same, by rw [val_has hfs6 i2], rfl⟩) ?_))
          cases hh : hasL fs (ins X t) with
          | true =>
            refine ifF rfl (ifF rfl (ds_nil (ds_nil ⟨kv, _, _, hkv, ?_, rfl⟩)))
            rw [← hnx]
            unfold put1
            rw [hc, hh]
            rfl
          | false =>
          refine ifT rfl (dw_and1 (dt_val (de_meth (ok_free gl fk (ixOf "how_many") (by kernel_rfl)) fk.s.c (pd_var 0) (faS kv _ hkv).a (da_cons (PD.de (pd_var 8) (da_nil ⟨a, d, n, ls, ins X t, rfl, i2, fu, faS kv _ hkv, fun kv2 hkv2 => ⟨_, rfl, ?_⟩⟩))))))
          rw [swap]
          cases hf : freeB ls (ins X t) with
          | false =>
            refine ifF rfl (ds_nil (ds_nil ⟨kv2, _, _, hkv2, ?_, rfl⟩))
            rw [← hnx]
            unfold put1
            rw [hc, hh, hf]
            rfl
          | true =>
            refine ifT rfl (ds_cons (d1_dput (PD.de (pd_tup (ds := [.int (bits X), .int t]) (.cons (pd_var 6) (da1 (pd_var 7)))) (PD.de (pd_var 5) (PD.de (pd_var 8) ⟨p, dE fs, .int (bits (ins X t)), _, rfl, put_same, rfl, rfl, by unfold dE; rw [List.length_map, List.length_map]; show _ < 16777216; omega, ds_nil (ds_nil ⟨kv2, _, _, hkv2, ?_, rfl⟩)⟩)))))
            have e1 : putG (dE fs) (Sum.inl (bits (ins X t))) (B.G.d (.tuple [.int (bits X), .int t])) = dE (fs ++ [⟨ins X t, X, some t⟩]) := put_new (e := ⟨ins X t, X, some t⟩) hfs6 i2 hh
            rw [put_put, e1, ← hnx]
            unfold put1
            rw [hc, hh, hf]
            rfl
        · rintro ρ M' ⟨kv, x7, x8, hkv, rfl, rfl⟩
          refine ds_nil ⟨kv, _, _, _, hkv, ?_, rfl⟩
          rw [List.length_map, List.length_map, List.take_length, htkX, List.foldl_append, ees]
          rfl
    · rintro ρ M' ⟨kv, x6, x7, x8, hkv, rfl, rfl⟩
      rw [List.length_map, List.take_length]
      have hMp2 : put (put M d (.dK kv)) L (.lst gs) p = none := by rw [put_ne pL, put_ne pd]; exact hMp
      refine ds_cons (d1_expr (de_append (PD.de (pd_var 3) ⟨L, gs, rfl, by rw [put_ne (Ne.symm pL)]; exact put_same, de_frzK (PD.de (pd_var 5) ⟨p, (layN (freeB ls) left wi keys).map entP, rfl, put_same, ?_⟩)⟩)))
      rw [del_put hMp2]
      refine ⟨gs, put_same, ?_, ds_nil ⟨kv, _, _, _, _, _, hkv, ?_, rfl⟩⟩
      · rw [← egs, List.length_cons, List.length_map, laysL, List.length_map, List.length_range]
        have : (lists.take i).length ≤ lists.length := by rw [List.length_take]; omega
        show _ < 16777216
        omega
      · rw [put_put, htk, laysL_snoc, List.map_append, ← egs, ekeys]
        rfl
  · rintro ρ M' ⟨kvs, x4, x5, x6, x7, x8, hm, rfl, rfl⟩
    rw [List.length_map, List.length_map, List.take_length]
    exact ds_cons (d1_ret (PD.de (pd_var 3) (q kvs L hm hL)))
end
end K13
end
section
set_option maxHeartbeats 4000000
namespace K13
open PySem PySem.Spec PyProof.Rows L2 B
/-! EF17: orders, what they make of lots (plain). -/
/-- the first of an order -/
structure Pre (n : Nat) (o : List Int) : Prop where
  hi : n ≤ 6
  nd : o.Nodup
  mem : ∀ u ∈ o, u ∈ rangeI n
theorem Pre.nil {n : Nat} (h : n ≤ 6) : Pre n [] := ⟨h, .nil, fun _ h => absurd h List.not_mem_nil⟩
theorem rangeI_length (n : Nat) : (rangeI n).length = n := by unfold rangeI; rw [List.length_map, List.length_range]
theorem rangeI_nd (n : Nat) : (rangeI n).Nodup := by
  unfold rangeI
  exact List.Pairwise.map _ (fun a b (h : a ≠ b) e => h (by omega)) List.nodup_range
theorem Pre.len {n : Nat} {o : List Int} (h : Pre n o) : o.length ≤ n := by
  have := subs_len h.nd h.mem
  rw [rangeI_length] at this
  exact this
theorem Pre.inj {n : Nat} {o : List Int} (h : Pre n o) {i j : Nat} {u : Int} (hi : o[i]? = some u) (hj : o[j]? = some u) : i = j := by
  obtain ⟨hi1, hi2⟩ := List.getElem?_eq_some_iff.mp hi
  obtain ⟨hj1, hj2⟩ := List.getElem?_eq_some_iff.mp hj
  exact (List.getElem_inj h.nd).mp (by rw [hi2, hj2])
/-! ### orders, longer and longer -/
end K13
end
section
set_option maxHeartbeats 4000000
namespace K13
open PySem PySem.Spec PyProof.Rows L2 B
/-! EH2: something can be given to all just if no persons' lists have too small a rank. -/
abbrev AL (lists : List (List Int)) : Int → List Int := fun i => lists.getD i.toNat []
abbrev uniP (lists : List (List Int)) (l : List Int) : List Int := uniL (AL lists) l
def lackP (ls lists : List (List Int)) (l : List Int) : Int := ((l.length : Nat) : Int) - rk ls (uniP lists l)
theorem AL_at {lists : List (List Int)} {i : Nat} {w : List Int} (h : lists[i]? = some w) : AL lists ((i : Nat) : Int) = w := by
  unfold AL
  rw [Int.toNat_natCast, List.getD_eq_getElem?_getD, h]
  rfl
theorem AL6 {lists : List (List Int)} (h : ∀ w ∈ lists, w ∈ L6) (p : Int) : AL lists p ∈ L6 := by
  unfold AL
  rw [List.getD_eq_getElem?_getD]
  cases e : lists[p.toNat]? with
  | none => exact (by decide +kernel : ([] : List Int) ∈ L6)
  | some w => exact h w (List.mem_of_getElem? e)
theorem zip_rev {α β : Type} : ∀ (as : List α) (bs : List β), as.length = bs.length → as.reverse.zip bs.reverse = (as.zip bs).reverse
  | [], [], _ => rfl
  | [], _ :: _, h => by cases h
  | _ :: _, [], h => by cases h
  | a :: as, b :: bs, h => by
    have h : as.length = bs.length := by simpa using h
    rw [List.reverse_cons, List.reverse_cons, List.zip_append (by rw [List.length_reverse, List.length_reverse]; exact h), zip_rev as bs h]
    show (as.zip bs).reverse ++ [(a, b)] = ((a, b) :: as.zip bs).reverse
    rw [List.reverse_cons]
theorem zip_at {α β : Type} {as : List α} {bs : List β} {p : α × β} (h : p ∈ as.zip bs) : ∃ i : Nat, as[i]? = some p.1 ∧ bs[i]? = some p.2 := by
  obtain ⟨i, e⟩ := List.getElem?_of_mem h
  exact ⟨i, by
    rw [List.getElem?_zip_eq_some] at e
    exact e⟩
theorem rangeI_map {α : Type} (f : Int → α) (m : Nat) : (rangeI m).map f = (List.range m).map fun i => f ((i : Nat) : Int) := by
  unfold rangeI
  rw [List.map_map]
  rfl
section
variable {n : Nat} {ls lists : List (List Int)}
theorem keys_srv (c : Cho n ls) (h6 : ∀ w ∈ lists, w ∈ L6) : (∃ X, X ∈ keysAt (freeB ls) false lists) ↔ Srv ls (AL lists) (rangeI lists.length) := by
  have r6 : ∀ w ∈ lists.reverse, w ∈ L6 := fun w hw => h6 w (List.mem_reverse.mp hw)
  constructor
  · rintro ⟨X, hX⟩
    have hX : X ∈ keysAt (freeB ls) false lists.reverse.reverse := by rw [List.reverse_reverse]; exact hX
    have way := back_way hX
    obtain ⟨gs, egs⟩ : ∃ gs, backL (laysR (freeB ls) false lists.reverse) X = gs := ⟨_, rfl⟩
    rw [egs] at way
    obtain ⟨X6, hin, nd, hfr⟩ := way_lot r6 way
    have hlen := back_len way
    rw [List.length_reverse] at hlen
    have hno := way_none way
    have hzip : ∀ i t, gs.reverse[i]? = some (some t) → t ∈ AL lists ((i : Nat) : Int) := fun i t e => by
      have hi : i < gs.reverse.length := (List.getElem?_eq_some_iff.mp e).1
      rw [List.length_reverse, hlen] at hi
      obtain ⟨w, ew⟩ : ∃ w, lists[i]? = some w := ⟨_, List.getElem?_eq_getElem hi⟩
      rw [AL_at ew]
      have hm : (some t, w) ∈ gs.reverse.zip lists := List.mem_of_getElem? (i := i) (List.getElem?_zip_eq_some.mpr ⟨e, ew⟩)
      have hm2 : (some t, w) ∈ gs.zip lists.reverse := by
        have := zip_rev gs lists.reverse (by rw [List.length_reverse]; exact hlen)
        rw [List.reverse_reverse] at this
        rw [this] at hm
        exact List.mem_reverse.mp hm
      exact way_in way _ hm2 t rfl
    have all : ∀ i, i < lists.length → ∃ t, gs.reverse[i]? = some (some t) := fun i hi => by
      have hi2 : i < gs.reverse.length := by rw [List.length_reverse, hlen]; exact hi
      cases e : gs.reverse[i]? with
      | none => rw [List.getElem?_eq_none_iff] at e; omega
      | some o =>
        cases o with
        | none => exact absurd (List.mem_reverse.mp (List.mem_of_getElem? e)) hno
        | some t => exact ⟨t, rfl⟩
    have emap : (rangeI lists.length).map (fun p => ((gs.reverse[p.toNat]?).getD none).getD 0) = gs.reverse.filterMap id := by
      rw [rangeI_map]
      have e2 : gs.reverse.filterMap id = gs.reverse.map fun o => o.getD 0 := by
        have : ∀ l : List (Option Int), none ∉ l → l.filterMap id = l.map fun o => o.getD 0 := by
          intro l
          induction l with
          | nil => intro _; rfl
          | cons o r ih =>
            intro h
            cases o with
            | none => exact absurd List.mem_cons_self h
            | some t => rw [List.filterMap_cons, List.map_cons, ih fun z => h (List.mem_cons_of_mem _ z)]; rfl
        exact this _ fun z => hno (List.mem_reverse.mp z)
      rw [e2]
      refine List.ext_getElem? fun i => ?_
      rw [List.getElem?_map, List.getElem?_map]
      by_cases hi : i < lists.length
      · rw [List.getElem?_range hi]
        obtain ⟨t, e⟩ := all i hi
        rw [e]
        show some (((gs.reverse[(((i : Nat) : Int)).toNat]?).getD none).getD 0) = _
        rw [Int.toNat_natCast, e]
        rfl
      · rw [List.getElem?_eq_none_iff.mpr (by rw [List.length_range]; omega), List.getElem?_eq_none_iff.mpr (by rw [List.length_reverse, hlen]; omega)]
        rfl
    refine ⟨fun p => ((gs.reverse[p.toNat]?).getD none).getD 0, fun p hp => ?_, ?_, ?_⟩
    · obtain ⟨h0, h1⟩ := mem_rangeI.mp hp
      obtain ⟨i, rfl⟩ : ∃ i : Nat, p = (i : Nat) := ⟨p.toNat, by omega⟩
      obtain ⟨t, e⟩ := all i (by omega)
      show ((gs.reverse[(((i : Nat) : Int)).toNat]?).getD none).getD 0 ∈ _
      rw [Int.toNat_natCast, e]
      exact hzip i t e
    · rw [emap, List.filterMap_reverse]
      exact (List.reverse_perm _).nodup_iff.mpr nd
    · have hf : ∃ f ∈ ls, ∀ t ∈ X, t ∈ f := by
        rcases hfr with rfl | hfr
        · cases hls : ls with
          | nil => exact absurd hls c.ho.ne
          | cons f r => exact ⟨f, List.mem_cons_self, fun t ht => nomatch ht⟩
        · exact free_iff.mp hfr
      obtain ⟨f, hf, hs⟩ := hf
      refine ⟨f, hf, fun p hp => hs _ ((hin _).mpr ?_)⟩
      obtain ⟨h0, h1⟩ := mem_rangeI.mp hp
      obtain ⟨i, rfl⟩ : ∃ i : Nat, p = (i : Nat) := ⟨p.toNat, by omega⟩
      obtain ⟨t, e⟩ := all i (by omega)
      show some (((gs.reverse[(((i : Nat) : Int)).toNat]?).getD none).getD 0) ∈ _
      rw [Int.toNat_natCast, e]
      exact List.mem_reverse.mp (List.mem_of_getElem? e)
  · rintro ⟨g, h1, h2, f, hf, h3⟩
    obtain ⟨gs, egs⟩ : ∃ gs, (List.range lists.length).map (fun i => some (g ((i : Nat) : Int))) = gs := ⟨_, rfl⟩
    have hlen : gs.length = lists.length := by rw [← egs, List.length_map, List.length_range]
    have hmem : ∀ t, some t ∈ gs → ∃ p ∈ rangeI lists.length, g p = t := fun t ht => by
      rw [← egs] at ht
      obtain ⟨i, hi, e⟩ := List.mem_map.mp ht
      exact ⟨((i : Nat) : Int), mem_rangeI.mpr ⟨by omega, by have := List.mem_range.mp hi; omega⟩, Option.some.inj e⟩
    suffices hw : ∃ X, Way (freeB ls) false lists.reverse gs.reverse X by
      obtain ⟨X, hw⟩ := hw
      exact ⟨X, by have := way_key hw; rwa [List.reverse_reverse] at this⟩
    refine way_of (ls := ls) (left := false) (ws := lists.reverse) (gs := gs.reverse) r6 (by rw [List.length_reverse, List.length_reverse, hlen]) (.inr fun z => ?_) (fun p hp t ht => ?_) ?_ ⟨f, hf, fun t ht => ?_⟩
    · rw [List.mem_reverse, ← egs] at z
      obtain ⟨i, _, e⟩ := List.mem_map.mp z
      cases e
    · rw [zip_rev gs lists hlen] at hp
      obtain ⟨i, e1, e2⟩ := zip_at (List.mem_reverse.mp hp)
      rw [← egs, List.getElem?_map] at e1
      have hi : i < lists.length := (List.getElem?_eq_some_iff.mp e2).1
      rw [List.getElem?_range hi] at e1
      have e1 : some (g ((i : Nat) : Int)) = p.1 := Option.some.inj e1
      rw [ht] at e1
      have e1 : g ((i : Nat) : Int) = t := Option.some.inj e1
      have := h1 ((i : Nat) : Int) (mem_rangeI.mpr ⟨by omega, by omega⟩)
      rw [AL_at e2, e1] at this
      exact this
    · rw [List.filterMap_reverse]
      refine (List.reverse_perm _).nodup_iff.mpr ?_
      have : gs.filterMap id = (rangeI lists.length).map g := by
        rw [rangeI_map, ← egs, List.filterMap_map, ← List.filterMap_eq_map]
        rfl
      rw [this]
      exact h2
    · obtain ⟨p, hp, rfl⟩ := hmem t (List.mem_reverse.mp ht)
      exact h3 p hp
theorem lotsB_iff {m : Nat} (hm : m ≤ 6) {l : List Int} : l ∈ lotsB m ↔ l ∈ L6 ∧ ∀ t ∈ l, t < (m : Int) :=
  ⟨fun h => (F_lotsB m (by rw [List.mem_range]; omega)).1 l h, fun h => (F_lotsB m (by rw [List.mem_range]; omega)).2.2.2.2 l h.1 h.2⟩
/-- what lacks of a lot of persons, as many as any sequence of them -/
theorem lot_of_nd {m : Nat} (hm : m ≤ 6) {L : List Int} (nd : L.Nodup) (hs : ∀ t ∈ L, t ∈ rangeI m) : ∃ l ∈ lotsB m, l.length = L.length ∧ ∀ t, t ∈ l ↔ t ∈ L := by
  have hsix : ∀ t ∈ L, t ∈ six := fun t ht => by
    obtain ⟨h0, h1⟩ := mem_rangeI.mp (hs t ht)
    have : t = 0 ∨ t = 1 ∨ t = 2 ∨ t = 3 ∨ t = 4 ∨ t = 5 := by omega
    rcases this with rfl | rfl | rfl | rfl | rfl | rfl <;> decide
  have h6 : (six.filter fun t => L.contains t) ∈ L6 := filt6 (by decide +kernel) _
  have hin : ∀ t, t ∈ (six.filter fun t => L.contains t) ↔ t ∈ L := fun t => by
    rw [List.mem_filter, List.contains_iff_mem]
    exact ⟨fun h => h.2, fun h => ⟨hsix t h, h⟩⟩
  refine ⟨_, (lotsB_iff hm).mpr ⟨h6, fun t ht => (mem_rangeI.mp (hs t ((hin t).mp ht))).2⟩, ?_, hin⟩
  exact Nat.le_antisymm ((nd6 h6).length_le_of_subset fun t ht => (hin t).mp ht) (nd.length_le_of_subset fun t ht => (hin t).mpr ht)
end
end K13
end
section
set_option maxHeartbeats 4000000
namespace K13
open PySem PySem.Spec PyProof.Rows L2 B
/-! KP2: given_by, all_persons, wanted_by, lack_of, look_at_lists. -/
theorem laysR_drop (fr : List Int → Bool) (left : Bool) : ∀ (ws : List (List Int)) (i : Nat), (laysR fr left ws).drop i = laysR fr left (ws.drop i)
  | ws, 0 => rfl
  | [], i + 1 => rfl
  | _ :: ws, i + 1 => by
    rw [laysR, List.drop_succ_cons, List.drop_succ_cons]
    exact laysR_drop fr left ws i
theorem laysR_len (fr : List Int → Bool) (left : Bool) : ∀ ws : List (List Int), (laysR fr left ws).length = ws.length
  | [] => rfl
  | _ :: ws => by rw [laysR, List.length_cons, List.length_cons, laysR_len fr left ws]
theorem valP_find {X : List Int} (hX : X ∈ L6) : ∀ {es : List Ent} {e : Ent}, (∀ x ∈ es, x.lot ∈ L6) → findE es X = some e → valP (es.map entP) (.inl (bits X)) = some (entP e).2
  | [], _, _, h => by cases h
  | y :: r, e, h6, h => by
    have hb := bits_in (h6 y List.mem_cons_self) hX
    have h : (if decide (y.lot = X) = true then some y else findE r X) = some e := by
      rw [← h]
      unfold findE
      rw [List.find?_cons]
      cases decide (y.lot = X) <;> rfl
    have hb2 : decide ((entP y).1 = (Sum.inl (bits X) : Key)) = decide (y.lot = X) := hb
    unfold valP
    rw [List.map_cons, List.find?_cons, hb2]
    cases hd : decide (y.lot = X) with
    | true =>
      rw [hd, if_pos rfl] at h
      cases h
      rfl
    | false =>
      rw [hd, if_neg (by decide)] at h
      exact valP_find hX (fun x hx => h6 x (List.mem_cons_of_mem _ hx)) h
theorem layN_l6 {fr : List Int → Bool} {left : Bool} {w : List Int} {keys : List (List Int)} (hk : ∀ X ∈ keys, X ∈ L6) (hw : w ∈ L6) : ∀ e ∈ layN fr left w keys, e.lot ∈ L6 := layN_ok.l6 hk hw
theorem uniP_snoc {lists : List (List Int)} {l : List Int} {p : Int} (h : AL lists p ∈ L6) : unL (uniP lists l) (AL lists p) = uniP lists (l ++ [p]) := by
  refine ext6 (F_or _ (uniL6 _ _) _ h).2 (uniL6 _ _) fun t => ?_
  rw [unL_iff (fun x hx => F_mem _ (uniL6 _ _) x hx) (fun x hx => F_mem _ h x hx), uniL_iff, uniL_iff]
  constructor
  · rintro (⟨a, i, hi, b⟩ | hb)
    · exact ⟨a, i, List.mem_append_left _ hi, b⟩
    · exact ⟨F_mem _ h t hb, p, List.mem_append_right _ (by simp), hb⟩
  · rintro ⟨a, i, hi, b⟩
    rcases List.mem_append.mp hi with hi | hi
    · exact .inl ⟨a, i, hi, b⟩
    · rw [List.mem_singleton.mp hi] at b
      exact .inr b
section
variable {P : Program} {w : World} {K : PySem.W.Frag} {mg : Str → Option Value} {base : Heap}
def givenL (fr : List Int → Bool) (left : Bool) (lists : List (List Int)) (X : List Int) : List (Option Int) := (backL (laysR fr left lists.reverse) X).reverse
def o_givenB (fr : List Int → Bool) (left : Bool) : ON := fun gs M Q => ∃ (L : Addr) (lists : List (List Int)) (X : List Int), gs = [.op (.ref L), .d (.int (bits X))] ∧ M L = some (.lst (.fd lay0 :: (laysL fr left lists).map layG)) ∧ (∀ w ∈ lists, w ∈ L6) ∧ lists.length ≤ 100 ∧ X ∈ keysAt fr left lists ∧ Q (.d (.tuple ((givenL fr left lists X).map optD))) M
theorem ok_givenB (gl : Gl K mg) (fr : List Int → Bool) (left : Bool) : Fn P w K mg base 1 "given_by" (o_givenB fr left) := by
  refine okf (d := d_given_by) (N := ["layers", "bits", "found", "layer", "thing"]) (ps := ["layers", "bits"]) gl (ixOf "given_by") (by kernel_rfl) (fun _ _ _ _ _ _ us hl => match us, hl with | [_, _], _ => rfl) (by decide +kernel) (fun gs M Q ⟨_, _, _, e, _⟩ => by rw [e]; rfl) (fun gs M Q ⟨L, lists, X, e, hL, h6, hll, hX, q⟩ => ?_)
  subst e
  obtain ⟨ws, ews⟩ : ∃ ws, lists.reverse = ws := ⟨_, rfl⟩
  have elists : lists = ws.reverse := by rw [← ews, List.reverse_reverse]
  have w6 : ∀ v ∈ ws, v ∈ L6 := fun v hv => h6 v (by rw [← ews] at hv; exact List.mem_reverse.mp hv)
  have hll2 : ws.length ≤ 100 := by rw [← ews, List.length_reverse]; exact hll
  refine ds_cons (d1_set 2 (de_listM (da_nil ⟨Nat.le_of_ble_eq_true rfl, fun f hf => ?_⟩)))
  have fL : f ≠ L := fun z => by rw [z, hL] at hf; cases hf
  refine ds_cons (d1_for (di_listM (de_revT (PD.de (pd_var 0) ⟨L, _, rfl, by rw [put_ne (Ne.symm fL)]; exact hL, fun r hr => ⟨r, _, rfl, put_same, ?_⟩⟩))))
  have rf : r ≠ f := fun z => by rw [z, put_same] at hr; cases hr
  have hMr : M r = none := by rw [put_ne rf] at hr; exact hr
  have erev : ((B.G.fd lay0 :: (laysL fr left lists).map layG).drop 1).reverse = (laysR fr left ws).map layG := by
    rw [List.drop_succ_cons, List.drop_zero, elists, laysL_rev, List.map_reverse, List.reverse_reverse]
  rw [erev]
  have kinv : ∀ Y ∈ keysAt fr left lists, Y ∈ L6 := keys_l6 h6
  refine ⟨fun i ρ M' => ∃ (Y : List Int) (done : List (Option Int)) (x3 x4 : Option B.G), Y ∈ keysAt fr left (ws.drop i).reverse ∧ backL (laysR fr left ws) X = done ++ backL (laysR fr left (ws.drop i)) Y ∧ done.length = i ∧ M' = put (put M f (.lst ((done.map optD).map B.G.d))) r (.lst ((laysR fr left ws).map layG)) ∧ ρ = [some (.op (.ref L)), some (.d (.int (bits Y))), some (.op (.ref f)), x3, x4], ⟨X, [], _, _, by rw [List.drop_zero, ← elists]; exact hX, rfl, rfl, rfl, rfl⟩, fun i ρ M' _ ⟨Y, done, x3, x4, _, _, _, eM, _⟩ => by rw [eM]; exact put_same, ?_, ?_⟩
  · rintro i g ρ M' eg ⟨Y, done, x3, x4, hY, hb, hdl, rfl, rfl⟩
    rw [List.getElem?_map] at eg
    cases er : (laysR fr left ws)[i]? with
    | none => rw [er] at eg; cases eg
    | some es =>
    rw [er] at eg
    cases eg
    have hi : i < ws.length := by rw [← laysR_len fr left ws]; exact (List.getElem?_eq_some_iff.mp er).1
    obtain ⟨v, ev⟩ : ∃ v, ws[i]? = some v := ⟨_, List.getElem?_eq_getElem hi⟩
    have edr : ws.drop i = v :: ws.drop (i + 1) := by
      rw [List.drop_eq_getElem_cons hi]
      congr 1
      rw [List.getElem?_eq_getElem hi] at ev
      exact Option.some.inj ev
    have v6 := w6 v (List.mem_of_getElem? ev)
    have d6 : ∀ u ∈ (ws.drop (i + 1)).reverse, u ∈ L6 := fun u hu => w6 u (List.mem_of_mem_drop (List.mem_reverse.mp hu))
    have k6 := keys_l6 (fr := fr) (left := left) d6
    have ees : es = layN fr left v (keysAt fr left (ws.drop (i + 1)).reverse) := by
      have h1 := laysR_drop fr left ws i
      rw [edr, laysR] at h1
      have h2 : ((laysR fr left ws).drop i)[0]? = some es := by rw [List.getElem?_drop, Nat.add_zero]; exact er
      rw [h1] at h2
      exact (Option.some.inj h2).symm
    have hY6 : Y ∈ L6 := keys_l6 (fr := fr) (left := left) (fun u hu => w6 u (List.mem_of_mem_drop (List.mem_reverse.mp hu))) Y hY
    rw [edr, keys_rev, ← ees] at hY
    obtain ⟨e, h1, h2, h3⟩ := findE_some hY
    have hp := (layN_ok.all e (by rw [← ees]; exact h2)).1
    have es6 : ∀ x ∈ es, x.lot ∈ L6 := by rw [ees]; exact layN_l6 k6 v6
    have hbk : backL (laysR fr left (ws.drop i)) Y = e.thing :: backL (laysR fr left (ws.drop (i + 1))) e.prev := by
      rw [edr, laysR, ← ees, backL, h1]
    refine dg_name 3 (ds_cons (d1_asg (de_fix (PD.de (pd_var 3) (PD.de (pd_var 1) ⟨es.map entP, _, _, _, rfl, rfl, rfl, valP_find hY6 es6 h1, ?_⟩)))))
    refine dg_tup (n := 2) (ds := [.int (bits e.prev), optD e.thing]) (dgs_cons (dg_name 1 (dgs_cons (dg_name 4 (dgs_nil ?_))))) rfl
    refine ds_cons (d1_expr (de_append (PD.de (pd_var 2) ⟨f, _, rfl, by rw [put_ne (Ne.symm rf)]; exact put_same, PD.de (pd_var 4) ⟨_, by rw [put_ne (Ne.symm rf)]; exact put_same, by rw [List.length_map, List.length_map]; show _ < 16777216; omega, ds_nil ⟨e.prev, done ++ [e.thing], _, _, hp, ?_, by rw [List.length_append, hdl]; rfl, ?_, rfl⟩⟩⟩)))
    · rw [hb, hbk, List.append_assoc]
      rfl
    · rw [put_comm rf, put_put, List.map_append, List.map_append]
      rfl
  · rintro ρ M' ⟨Y, done, x3, x4, hY, hb, hdl, rfl, rfl⟩
    have hd2 : ws.drop ((laysR fr left ws).map layG).length = [] := by rw [List.length_map, laysR_len, List.drop_length]
    rw [hd2] at hb
    have hb : backL (laysR fr left ws) X = done := by rw [hb]; exact List.append_nil _
    refine ds_cons (d1_ret (de_drop (de_callT o_tuple (n_tuple gl) rfl (da_cons (PD.de (pd_revL (ds := done.map optD) (pd_var 2) (.l (by rw [put_ne (Ne.symm rf)]; exact put_same))) (da_nil ⟨_, _, rfl, .l (.d _), ⟨M, ?_, ?_⟩⟩))))))
    · intro p o e
      rw [put_ne (fun z => by rw [z, hMr] at e; cases e), put_ne (fun z => by rw [z, hf] at e; cases e)]
      exact e
    · unfold givenL at q
      rw [ews, hb, List.map_reverse] at q
      exact q
def o_persons : ON := fun gs M Q => ∃ (g : B.G) (lists : List (List Int)), gs = [g] ∧ SeqD g (lists.map lotD) ∧ lists.length ≤ 6 ∧ Q (.d (.list ((lotsB lists.length).map lotD))) M
theorem seqD_len {Γ : Gam} {ρ : GEnv} {M : Sto} {e : Expr} {p0 pos : Pos} {g : B.G} {xs : List PyData} (hm : Γ.mg "len" = none) (h : PD Γ e ρ M g) (hs : SeqD g xs) (hg : GlD Γ "len" := by rfl) (he : ∀ env, starEach [e] env = (false, eval e env) :: starEach [] env := by intro _; rfl) (hpl : ∀ env, (backTo pos (starEach [] env)).any (·.1) = false := by intro _; rfl) : PD Γ (.Call (.Name "len" p0) [e] [] pos) ρ M (.d (.int ((xs.length : Nat) : Int))) := by
  rcases hs with rfl | rfl
  · exact pd_callB o_len hm rfl (.cons h .nil he) ⟨_, _, rfl, .t _, rfl, rfl⟩ hg (by decide) (by decide) he hpl
  · exact pd_callB o_len hm rfl (.cons h .nil he) ⟨_, _, rfl, .l (.d _), rfl, rfl⟩ hg (by decide) (by decide) he hpl
theorem ok_persons (gl : Gl K mg) : Fn P w K mg base 2 "all_persons" o_persons := by
  refine okf (d := d_all_persons) (N := ["lists", "bits"]) (ps := ["lists"]) gl (ixOf "all_persons") (by kernel_rfl) (fun _ _ _ _ _ _ us hl => match us, hl with | [_], _ => rfl) (by decide +kernel) (fun gs M Q ⟨_, _, e, _⟩ => by rw [e]; rfl) (fun gs M Q ⟨g, lists, e, hs, hl, q⟩ => ?_)
  subst e
  have h2 := F_two lists.length (by rw [List.mem_range]; omega)
  have hz := lotsB_len hl
  exact ds_cons (d1_ret (PD.de (pd_mapc [("bits", 1)] (fun l : List Int => B.G.d (.int (bits l))) (lotsB lists.length) lotD (pit_range1 (j := (2 : Int) ^ lists.length) (n_range gl) (PD.to (pd_bin o_shl pd_int (seqD_len (n_len gl) (pd_var 0) hs) ⟨_, _, rfl, rfl, ⟨by omega, by rw [List.length_map]; omega, by decide⟩, rfl, rfl⟩) (by show B.G.d (.int (1 * 2 ^ ((((lists.map lotD).length : Nat) : Int)).toNat)) = _; rw [List.length_map, Int.toNat_natCast, Int.one_mul])) h2) (range_lots hl) (by show _ ≤ 16777216; omega) fun M' e l hl' => dc_name 1 ⟨rfl, pd_call (ok_lot_of gl) (da1 (pd_var 1)) ⟨l, (lotsB_mem hl hl').1, rfl, rfl, rfl⟩⟩) q))
theorem seqD_at {Γ : Gam} {ρ : GEnv} {M : Sto} {a b : Expr} {pos : Pos} {g : B.G} {xs : List PyData} {i : Int} {d : PyData} (h : PD Γ a ρ M g) (hs : SeqD g xs) (hb : PD Γ b ρ M (.d (.int i))) (e : atI xs i = some d) (hx : PlainIx b := by intro _ _; rfl) : PD Γ (.Subscript a b pos) ρ M (.d d) := by
  rcases hs with rfl | rfl
  · exact pd_at h hb e hx
  · exact pd_atL h (.d _) hb e hx
def o_wanted : ON := fun gs M Q => ∃ (g : B.G) (lists : List (List Int)) (l : List Int), gs = [g, .d (lotD l)] ∧ SeqD g (lists.map lotD) ∧ (∀ w ∈ lists, w ∈ L6) ∧ (∀ p ∈ l, 0 ≤ p ∧ p < ((lists.length : Nat) : Int)) ∧ Q (.d (.int (bits (uniP lists l)))) M
theorem ok_wanted (gl : Gl K mg) : Fn P w K mg base 2 "wanted_by" o_wanted := by
  refine okf (d := d_wanted_by) (N := ["lists", "persons", "found", "person"]) (ps := ["lists", "persons"]) gl (ixOf "wanted_by") (by kernel_rfl) (fun _ _ _ _ _ _ us hl => match us, hl with | [_, _], _ => rfl) (by decide +kernel) (fun gs M Q ⟨_, _, _, e, _⟩ => by rw [e]; rfl) (fun gs M Q ⟨g, lists, l, e, hs, h6, hp, q⟩ => ?_)
  subst e
  refine ds_cons (d1_set 2 (PD.de pd_int ?_))
  have e0 : bits (uniP lists []) = 0 := by
    have : uniP lists [] = [] := by
      unfold uniP uniL
      rw [List.filter_eq_nil_iff]
      intro t _
      exact fun z => nomatch z
    rw [this]
    rfl
  refine ds_cons (d1_for (di_tup (PD.de (pd_var 1) ⟨l.map PyData.int, rfl, fun i ρ M' => M = M' ∧ ∃ x3, ρ = [some g, some (.d (lotD l)), some (.d (.int (bits (uniP lists (l.take i))))), x3], ⟨rfl, _, by rw [List.take_zero, e0]; rfl⟩, fun _ _ _ _ _ => trivial, ?_, ?_⟩)))
  · rintro i g0 ρ M' eg ⟨rfl, x3, rfl⟩
    rw [List.getElem?_map, List.getElem?_map] at eg
    cases et : l[i]? with
    | none => rw [et] at eg; cases eg
    | some t =>
    rw [et] at eg
    cases eg
    obtain ⟨t0, t1⟩ := hp t (List.mem_of_getElem? et)
    obtain ⟨k, rfl⟩ : ∃ k : Nat, t = (k : Nat) := ⟨t.toNat, by omega⟩
    have hk : k < lists.length := by omega
    obtain ⟨v, ev⟩ : ∃ v, lists[k]? = some v := ⟨_, List.getElem?_eq_getElem hk⟩
    have v6 := h6 v (List.mem_of_getElem? ev)
    have eA : AL lists ((k : Nat) : Int) = v := AL_at ev
    have htk : l.take (i + 1) = l.take i ++ [((k : Nat) : Int)] := by rw [List.take_add_one, et]; rfl
    have hor := F_or _ (uniL6 (AL lists) (l.take i)) _ v6
    refine dg_name 3 (ds_cons (d1_augOr 2 rfl (de_call (ok_bits_of gl) (da_cons (PD.de (seqD_at (pd_var 0) hs (pd_var 3) (B.atI_nat (x := lotD v) (by rw [List.getElem?_map, ev]; rfl))) (da_nil ⟨v, v6, rfl, _, rfl, ds_nil ⟨rfl, some (.d (.int ((k : Nat) : Int))), ?_⟩⟩))))))
    rw [htk, ← uniP_snoc (by rw [eA]; exact v6), eA, ← hor.1]
    rfl
  · rintro ρ M' ⟨rfl, x3, rfl⟩
    rw [List.length_map, List.length_map, List.take_length]
    exact ds_cons (d1_ret (PD.de (pd_var 2) q))
def o_lack (K : PySem.W.Frag) : ON := fun gs M Q => ∃ (a d : Addr) (n : Nat) (ls : List (List Int)) (g : B.G) (lists : List (List Int)) (l : List Int), gs = [.op (.ref a), g, .d (lotD l)] ∧ SeqD g (lists.map lotD) ∧ (∀ w ∈ lists, w ∈ L6) ∧ (∀ p ∈ l, 0 ≤ p ∧ p < ((lists.length : Nat) : Int)) ∧ FuOk n ls ∧ FaM K a d n ls M ∧ ∀ kvs, Memo ls kvs → Q (.d (.int (lackP ls lists l))) (put M d (.dK kvs))
theorem ok_lack (gl : Gl K mg) (fk : FaK K mg) : Fn P w K mg base 4 "lack_of" (o_lack K) := by
  refine okf (k := 3) (d := d_lack_of) (N := ["faces", "lists", "persons"]) (ps := ["faces", "lists", "persons"]) gl (ixOf "lack_of") (by kernel_rfl) (fun _ _ _ _ _ _ us hl => match us, hl with | [_, _, _], _ => rfl) (by decide +kernel) (fun gs M Q ⟨_, _, _, _, _, _, _, e, _⟩ => by rw [e]; rfl) (fun gs M Q ⟨a, d, n, ls, g, lists, l, e, hs, h6, hp, fu, fa, q⟩ => ?_)
  subst e
  exact ds_cons (d1_ret (de_bin o_sub (PD.de (PD.to (pd_len (n_len gl) (pd_var 2) (.t (l.map PyData.int))) (by rw [List.length_map])) (de_meth (ok_rank gl fk (ixOf "how_many") (by kernel_rfl)) fk.s.c (pd_var 0) fa.a (da_cons (PD.de (pd_call (ok_wanted gl) (.cons (pd_var 1) (da1 (pd_var 2))) ⟨g, lists, l, rfl, hs, h6, hp, rfl, rfl⟩) (da_nil ⟨a, d, n, ls, uniP lists l, rfl, uniL6 _ _, fu, fa, fun kvs hm => ⟨_, _, rfl, rfl, q kvs hm⟩⟩)))))))
end
end K13
end
section
set_option maxHeartbeats 4000000
namespace K13
open PySem PySem.Spec PyProof.Rows L2 B
/-! W21: the law's own look for an exchange. -/
def StuckN (ls : List (List Int)) : Prop := ∀ a ∈ ls, ∀ b ∈ ls, ∀ t ∈ less a b, goB ls a b t = true
end K13
end
section
set_option maxHeartbeats 4000000
namespace K13
open PySem PySem.Spec PyProof.Rows L2 B
/-! P9: exchanges alone make all fulls alike in size; what a paper is. -/
def stuckB (ls : List (List Int)) : Bool := ls.all fun a => ls.all fun b => (less a b).all fun t => goB ls a b t
theorem stuckB_iff {ls : List (List Int)} : stuckB ls = true ↔ StuckN ls := by
  unfold stuckB StuckN
  simp only [List.all_eq_true]
end K13
end
section
set_option maxHeartbeats 4000000
namespace K13
open PySem PySem.Spec PyProof.Rows L2 B
/-! W31: weights looked at, next_best, best, is_choice. -/
section
variable {P : Program} {w : World} {K : PySem.W.Frag} {mg : Str → Option Value} {base : Heap}
def o_is_choice : ON := fun gs M Q => ∃ many ls, gs = [.d (heapD many ls)] ∧ HeapOk many ls ∧ Q (.d (.bool (stuckB ls))) M
theorem ok_is_choice (gl : Gl K mg) : Fn P w K mg base 4 "is_choice" o_is_choice := by
  refine okf (d := d_is_choice) (N := ["value"]) (ps := ["value"]) gl 11 rfl (fun _ _ _ _ _ _ us hl => match us, hl with | [_], _ => rfl) (by decide +kernel) (fun gs M Q ⟨_, _, e, _⟩ => by rw [e]; rfl) (fun gs M Q ⟨many, ls, e, ho, q⟩ => ?_)
  subst e
  have hz := ho.len
  have hlo := ho.lo
  have hhi := ho.hi
  obtain ⟨t9, e9⟩ := i_MOST_THINGS gl
  have ls0 : ls ≠ [] := ho.ne
  refine ds_cons (d1_ifB (k := false) (PB.to (PW'.pb (pw_or' (k := false) (l := false || !true) (pb_not (k := true) (pb_val (pd_callB o_isi (n_isinstance gl) rfl (.cons (pd_var 0) (.cons (pd_ty (n_tuple gl) rfl) .nil)) (oIsi_tuple ⟨rfl, rfl⟩)))) fun _ =>
    pw_or' (k := false) (pb_cmp o_ne (pd_len (n_len gl) (pd_var 0) (.t _)) pd_int ⟨_, _, .d _, .d _, pl_int _, pl_int _, by rw [eqv_int]; rfl, rfl⟩) fun _ => pw_or1' (pb_not (k := true) (pb_val (PD.to (pd_call (ok_is_int gl) (.cons (pd_at (pd_var 0) pd_int rfl) (.cons pd_int (da1 (pd_globI e9)))) ⟨.int many, 0, 9, rfl, rfl, rfl⟩) ?_))))) rfl) (fun z => nomatch z) (fun _ => ds_nil ?_))
  · show B.G.d (.bool (decide (0 ≤ many) && decide (many ≤ 9))) = _
    rw [decide_eq_true hlo, decide_eq_true (by omega)]
    rfl
  refine ds_cons (d1_ret (de_and (PD.de (pd_call (ok_are_lots gl) (.cons (pd_at (pd_var 0) pd_int rfl) (da1 (pd_at (pd_var 0) pd_int rfl))) ⟨many, ls, rfl, ho, rfl, rfl⟩) ⟨true, rfl, ifT rfl ?_⟩)))
  refine de_and (PD.de (g := .d (.bool true)) (PD.to (pd_cmp o_ne (pd_at (pd_var 0) pd_int rfl) (pd_tup (ds := []) .nil) ⟨_, _, .d _, .d _, pl_lots ls, ⟨by rw [PyData.plain]; rfl, by rw [PyData.depth, PyData.depthAll]; omega⟩, rfl, rfl⟩) ?_) ⟨true, rfl, ifT rfl ?_⟩)
  · cases ls with
    | nil => exact absurd rfl ls0
    | cons a r => rfl
  · refine de_one (de_cmp o_isN (de_call (ok_told_stuck gl) (da_cons (PD.de (pd_at (pd_var 0) pd_int rfl) (da_nil ⟨ls, rfl, fun l hl => (ho.mem l hl).1, by omega, fun r hr => PD.de pd_non ⟨r, rfl, rfl, ?_⟩⟩)))))
    rcases hr with ⟨rfl, hg⟩ | ⟨a, ha, b, hb, t, ht, hg, rfl⟩
    · rw [stuckB_iff.mpr hg] at q
      exact q
    · have : stuckB ls = false := by
        cases hs : stuckB ls with
        | false => rfl
        | true =>
          have := stuckB_iff.mp hs a ha b hb t ht
          rw [hg] at this
          cases this
      rw [this] at q
      exact q
end
end K13
end
section
set_option maxHeartbeats 4000000
namespace K13
open PySem PySem.Spec PyProof.Rows L2 B
/-! X1: choices and fulls looked at, exchanges. -/
theorem ChoiceI.heap {many : Int} {ls : List (List Int)} (h : ChoiceI many ls) (h0 : 0 ≤ many) (h6 : many ≤ 6) : HeapOk many ls :=
  ⟨h0, h6, h.ok.ne, Nat.le_trans (ChoiceOk.len h.ok) (by omega), h.ok.mem, h.inc, fun a ha b hb hne hs => hne (same_of (h.ok.mem a ha).1 (h.ok.mem b hb).1 (h.ok.eqn a ha b hb) (List.filter_eq_nil_iff.mpr fun t ht => by
    rw [List.contains_iff_mem.mpr (hs t ht)]
    simp))⟩
section
variable {P : Program} {w : World} {K : PySem.W.Frag} {mg : Str → Option Value} {base : Heap}
def o_look_c : ON := fun gs M Q => ∃ many ls, gs = [.d (heapD many ls)] ∧ HeapOk many ls ∧ GoodH ls ∧ Q (.d .none) M
theorem ok_look_c (gl : Gl K mg) : Fn P w K mg base 5 "look_at_choice" o_look_c := by
  refine okf (d := d_look_at_choice) (N := ["choice"]) (ps := ["choice"]) gl 12 rfl (fun _ _ _ _ _ _ us hl => match us, hl with | [_], _ => rfl) (by decide +kernel) (fun gs M Q ⟨_, _, e, _⟩ => by rw [e]; rfl) (fun gs M Q ⟨many, ls, e, ho, hg, q⟩ => ?_)
  subst e
  have hs : stuckB ls = true := stuckB_iff.mpr hg.2
  exact ds_cons (d1_ifB (k := false) (PB.to (pb_not (pb_val (pd_call (ok_is_choice gl) (da1 (pd_var 0)) ⟨many, ls, rfl, ho, rfl, rfl⟩))) (by rw [hs]; rfl)) (fun z => nomatch z) (fun _ => ds_nil (ds_nil q)))
end
end K13
end
section
set_option maxHeartbeats 4000000
namespace K13
open PySem PySem.Spec PyProof.Rows L2 B
/-! FY4: the law's own ranks, free lots, what is reached, tied lots. -/
section
variable {P : Program} {w : World} {K : PySem.W.Frag} {mg : Str → Option Value} {base : Heap}
theorem okfR2 {d : He.DefD} {N : List Str} {a b : Str} {k : Nat} {o : ON} (gl : Gl K mg) (i : Nat) (hd : fnL[i]? = some d)
    (hb : ∀ (kV doc pm : Value) (an : Option Addr) (cdv ct : Value) (u v : Value), bindArgs (PySem.W.fnOf d.name d.qual d.params d.body d.scope .none kV doc pm an cdv ct) ⟨[], [(b, v), (a, u)]⟩ = pure [(a, u), (b, v)])
    (S : C8.scC N [a, b] d.scope = true) (len : ∀ gs M Q, o gs M Q → gs.length = 2)
    (h : ∀ gs M Q, o gs M Q → DS ⟨P, w, K, mg, base, N, d.scope, k, fun _ => true, none, fun _ => True⟩ d.body (startG N gs) M (dRet Q)) : FnR2 P w K mg base (k + 1) d.name a b o := by
  obtain ⟨f, fd, F, hm⟩ := gl.df d (List.mem_of_getElem? hd)
  exact fn_okR2 F hm hb (C8.fnScope_by S) len h
def o_lrk (v : List (List Int) → List Int → PyData) : ON := fun gs M Q => ∃ many ls l, gs = [.d (heapD many ls), .d (lotD l)] ∧ ls ≠ [] ∧ ls.length ≤ 64 ∧ l.length ≤ 1000 ∧ Q (.d (v ls l)) M
theorem ok_lrank (gl : Gl K mg) : Fn P w K mg base 2 "_law_rank" (o_lrk fun ls l => .int (rk ls l)) := by
  refine okf (d := d__law_rank) (N := ["choice", "lot", "full", "thing"]) (ps := ["choice", "lot"]) gl (ixOf "_law_rank") (by kernel_rfl) (fun _ _ _ _ _ _ us hl => match us, hl with | [_, _], _ => rfl) (by decide +kernel) (fun gs M Q ⟨_, _, _, e, _⟩ => by rw [e]; rfl) (fun gs M Q ⟨many, ls, l, e, hne, hz, hl, q⟩ => ?_)
  subst e
  have hne2 : ls.map (fun f => (((inL l f).length : Nat) : Int)) ≠ [] := by simpa using hne
  refine ds_cons (d1_ret (PD.de (g := .d (.int (rk ls l))) (pd_callB o_maxL (n_max gl) rfl (da1 (pd_mapc [("full", 2)] (fun f : List Int => B.G.d (lotD f)) ls (fun f => .int (((inL l f).length : Nat) : Int)) (pit_tup (ds := ls.map lotD) (pd_at (pd_var 0) pd_int rfl)) (by rw [List.map_map]; rfl) (by show _ ≤ 16777216; omega) fun M' e f hf => dc_name 2 ⟨rfl, ?_⟩)) ⟨_, ls.map (fun f => (((inL l f).length : Nat) : Int)), rfl, ?_, hne2, rfl, rfl⟩) q))
  · refine PD.to (pd_len (n_len gl) (pd_filc [("thing", 3)] (fun t : Int => B.G.d (.int t)) l (fun t => f.contains t) (fun t => .int t) (pit_tup (ds := l.map PyData.int) (pd_var 1)) (by rw [List.map_map]; rfl) (by show _ ≤ 16777216; omega) fun M' e u hu => dc_name 3 ⟨rfl, pb_cmp o_in (pd_var 3) (pd_var 2) ⟨_, _, .d _, .t _, pl_int _, plA_ints f, by rw [isIn_ints]; rfl, rfl⟩, fun _ => pd_var 3⟩) (.l (.d _))) ?_
    rw [List.length_map]
    rfl
  · rw [show (ls.map fun f => (((inL l f).length : Nat) : Int)).map PyData.int = ls.map fun f => PyData.int (((inL l f).length : Nat) : Int) from List.map_map]; exact .d _
theorem ok_lfree (gl : Gl K mg) : Fn P w K mg base 2 "_law_is_free" (o_lrk fun ls l => .bool (freeB ls l)) := by
  refine okf (d := d__law_is_free) (N := ["choice", "lot", "full"]) (ps := ["choice", "lot"]) gl (ixOf "_law_is_free") (by kernel_rfl) (fun _ _ _ _ _ _ us hl => match us, hl with | [_, _], _ => rfl) (by decide +kernel) (fun gs M Q ⟨_, _, _, e, _⟩ => by rw [e]; rfl) (fun gs M Q ⟨many, ls, l, e, _, hz, hl, q⟩ => ?_)
  subst e
  exact ds_cons (d1_ret (PD.de (pd_anyc [("full", 2)] (fun f : List Int => B.G.d (lotD f)) ls (fun f => subL l f) (n_any gl) (pit_tup (ds := ls.map lotD) (pd_at (pd_var 0) pd_int rfl)) (by rw [List.map_map]; rfl) (by show _ ≤ 16777216; omega) fun M' e f hf => dc_name 2 ⟨rfl, pd_call (ok_has gl) (.cons (pd_var 2) (da1 (pd_var 1))) ⟨f, l, rfl, hl, rfl, rfl⟩⟩) q))
end
end K13
end
section
set_option maxHeartbeats 4000000
namespace K13
open PySem PySem.Spec PyProof.Rows L2 B
/-! KP3: look_at_lists, had. -/
theorem i_MOST_LISTS {K : PySem.W.Frag} {mg : Str → Option Value} (gl : Gl K mg) : ∃ t, mg "MOST_LISTS" = some (.int 9 t) := gl.nt _ _ (List.mem_of_getElem? (i := 74) rfl)
/-- a choice and lists -/
structure ChL (n : Nat) (ls lists : List (List Int)) : Prop where
  ch : Cho n ls
  li : ∀ w ∈ lists, LotN n w
theorem ChL.l6 {n : Nat} {ls lists : List (List Int)} (h : ChL n ls lists) : ∀ w ∈ lists, w ∈ L6 := fun w hw => (h.li w hw).1
theorem ChL.fu {n : Nat} {ls lists : List (List Int)} (h : ChL n ls lists) : FuOk n ls := h.ch.ho.fu
abbrev lsT (lists : List (List Int)) : PyData := .tuple (lists.map lotD)
section
variable {P : Program} {w : World} {K : PySem.W.Frag} {mg : Str → Option Value} {base : Heap}
def o_lookLi : ON := fun gs M Q => ∃ (n : Nat) (ls lists : List (List Int)), gs = [.d (heapD (n : Nat) ls), .d (lsT lists)] ∧ ChL n ls lists ∧ lists.length ≤ 9 ∧ Q (.d .none) M
theorem ok_lookLi (gl : Gl K mg) : Fn P w K mg base 6 "look_at_lists" o_lookLi := by
  refine okf (d := d_look_at_lists) (N := ["choice", "lists", "wished"]) (ps := ["choice", "lists"]) gl (ixOf "look_at_lists") (by kernel_rfl) (fun _ _ _ _ _ _ us hl => match us, hl with | [_, _], _ => rfl) (by decide +kernel) (fun gs M Q ⟨_, _, _, e, _⟩ => by rw [e]; rfl) (fun gs M Q ⟨n, ls, lists, e, h, hl, q⟩ => ?_)
  subst e
  obtain ⟨t9, e9⟩ := i_MOST_LISTS gl
  refine ds_cons (d1_expr (PD.de (pd_call (ok_look_c gl) (da1 (pd_var 0)) ⟨_, ls, rfl, h.ch.ho, h.ch.hg, rfl, rfl⟩) ?_))
  refine ds_cons (d1_ifB (k := false) (PW'.pb (pw_or' (k := false) (l := false) (pb_not (k := true) (pb_val (pd_callB o_isi (n_isinstance gl) rfl (.cons (pd_var 1) (.cons (pd_ty (n_tuple gl) rfl) .nil)) (oIsi_tuple ⟨rfl, rfl⟩)))) fun _ => pw_or1' (PB.to (pb_cmp o_gt (pd_len (n_len gl) (pd_var 1) (.t _)) (pd_globI e9) ⟨_, _, rfl, rfl, rfl, rfl⟩) (decide_eq_false (by rw [List.length_map]; omega))))) (fun z => nomatch z) (fun _ => ds_nil ?_))
  refine ds_cons (d1_ifB (k := false) (PB.to (pb_not (pb_val (pd_allc [("wished", 2)] (fun l : List Int => B.G.d (lotD l)) lists (fun _ => true) (n_all gl) (pit_tup (pd_var 1)) (by rw [List.map_map]; rfl) (by show _ ≤ 16777216; omega) fun M' e l hl' => dc_name 2 ⟨rfl, PD.to (pd_call (ok_is_lot gl) (.cons (pd_at (pd_var 0) pd_int rfl) (da1 (pd_var 2))) ⟨(n : Nat), lotD l, rfl, ?_, rfl, rfl⟩) (by rw [isLot_ok (h.li l hl').1 (h.li l hl').2])⟩))) (by rw [List.all_eq_true.mpr fun _ _ => rfl]; rfl)) (fun z => nomatch z) (fun _ => ds_nil (ds_nil q)))
  have := F_len l (h.li l hl').1
  exact wd_lot (by show _ ≤ 16777216; omega)
end
end K13
end
section
set_option maxHeartbeats 4000000
namespace B
open PySem PySem.Spec PyProof.Rows L2
/-! D75: how many a set of ints has. -/
section
variable {Γ : Gam} {ρ : GEnv} {M : Sto}
def oLenSI (w : World) : ON := fun xs M Q => ∃ p ns, xs = [.op (.ref p)] ∧ M p = some (.gen (SetI w p ns)) ∧ ∀ ks : List Int, ks.Nodup → (∀ k, k ∈ ks ↔ k ∈ ns) → Q (.d (.int (ks.length : Nat))) M
theorem o_lenSI : OpN Γ (.builtin "len") (oLenSI Γ.w) := fun X fit pins s σ H vs us Qv I rv ⟨xs, M, Q, rs, hm, ⟨p, ns, e, eM, q⟩, k⟩ => by
  subst e
  cases rs with
  | cons r t =>
    cases t
    cases r
    obtain ⟨⟨S, n, h1, h2, h3⟩, _, _⟩ := hm _ _ eM
    rw [Vals.ref1 rv]
    have R : SetR X.w s.heap p S n := setO_get I (by rw [fit.w]; exact h1)
    obtain ⟨o, es, ep, t, ho, hex, hd, hg, hnd, hS, hsz, hf, hn, _, _⟩ := R
    refine call_len_set ho hex hd hf (by unfold scanBound at hsz; omega) ?_
    have hk := q _ hnd fun j => (hS j).symm.trans (h2 j)
    rw [List.length_map, Array.length_toList] at hk
    exact ⟨.int (es.size : Nat), H, I.tok _, ⟨_, rfl⟩, k (.int _) H _ M (.refl H) hm (rgd (.int _)) hk⟩
end
end B
end
section
set_option maxHeartbeats 4000000
namespace K13
open PySem PySem.Spec PyProof.Rows L2 B
/-! KP4: are_given, shows_had. -/
abbrev told36 (ds : List PyData) : List Int := intsOf (.tuple ds)
def someB (n : Nat) (d : PyData) : Bool := isN d || isIntIn d 0 ((n : Int) - 1)
def inW (p : PyData × List Int) : Bool := isN p.1 || isIn p.1 (p.2.map PyData.int)
def givB (n : Nat) (ls lists : List (List Int)) : PyData → Bool
  | .tuple ds => decide (ds.length = lists.length) && (ds.all (someB n) && (decide (told36 ds).Nodup && (freeB ls (told36 ds) && (ds.zip lists).all inW)))
  | _ => false
theorem some_cases {n : Nat} {d : PyData} (h : someB n d = true) : d = .none ∨ ∃ t : Int, d = .int t ∧ 0 ≤ t ∧ t ≤ (n : Int) - 1 := by
  unfold someB at h
  rw [Bool.or_eq_true] at h
  rcases h with h | h
  · cases d with
    | none => exact .inl rfl
    | _ => cases h
  · cases d with
    | int i =>
      have h : (decide (0 ≤ i) && decide (i ≤ (n : Int) - 1)) = true := h
      simp only [Bool.and_eq_true, decide_eq_true_eq] at h
      exact .inr ⟨i, rfl, h.1, h.2⟩
    | _ => cases h
theorem told_map {n : Nat} : ∀ {ds : List PyData}, (∀ d ∈ ds, someB n d = true) → ds.filter (fun d => !isN d) = (told36 ds).map PyData.int
  | [], _ => rfl
  | d :: r, h => by
    have ih := told_map (ds := r) fun x hx => h x (List.mem_cons_of_mem _ hx)
    rcases some_cases (h d List.mem_cons_self) with rfl | ⟨t, rfl, _⟩
    · exact ih
    · show PyData.int t :: r.filter (fun d => !isN d) = PyData.int t :: (told36 r).map PyData.int
      rw [ih]
theorem told_in {n : Nat} : ∀ {ds : List PyData}, (∀ d ∈ ds, someB n d = true) → ∀ t ∈ told36 ds, 0 ≤ t ∧ t ≤ (n : Int) - 1
  | [], _, t, ht => nomatch ht
  | d :: r, h, t, ht => by
    have ih := told_in (ds := r) fun x hx => h x (List.mem_cons_of_mem _ hx)
    rcases some_cases (h d List.mem_cons_self) with rfl | ⟨u, rfl, h1, h2⟩
    · exact ih t ht
    · have ht : t ∈ u :: told36 r := ht
      rcases List.mem_cons.mp ht with e | ht
      · rw [e]; exact ⟨h1, h2⟩
      · exact ih t ht
theorem told_len (ds : List PyData) : (told36 ds).length ≤ ds.length := List.length_filterMap_le _ _
theorem bits_perm {a b : List Int} (h : a.Perm b) : bits a = bits b := by
  induction h with
  | nil => rfl
  | cons x _ ih =>
    unfold bits at ih ⊢
    rw [List.map_cons, List.map_cons, List.sum_cons, List.sum_cons, ih]
  | swap x y l =>
    unfold bits
    rw [List.map_cons, List.map_cons, List.map_cons, List.map_cons, List.sum_cons, List.sum_cons, List.sum_cons, List.sum_cons]
    omega
  | trans _ _ i1 i2 => exact i1.trans i2
theorem lot_told {n : Nat} (hn : n ≤ 6) {ts : List Int} (nd : ts.Nodup) (h : ∀ t ∈ ts, 0 ≤ t ∧ t ≤ (n : Int) - 1) (ls : List (List Int)) : ∃ X ∈ L6, bits X = bits ts ∧ freeB ls X = freeB ls ts := by
  obtain ⟨l, hl, e1, e2⟩ := lot_of_nd hn nd fun t ht => mem_rangeI.mpr ⟨(h t ht).1, by have := (h t ht).2; omega⟩
  have l6 := ((lotsB_iff hn).mp hl).1
  refine ⟨l, l6, bits_perm (perm_of_len (nd6 l6) (fun x hx => (e2 x).mp hx) (by omega)), ?_⟩
  rw [Bool.eq_iff_iff, free_iff, free_iff]
  exact ⟨fun ⟨f, hf, hs⟩ => ⟨f, hf, fun t ht => hs t ((e2 t).mpr ht)⟩, fun ⟨f, hf, hs⟩ => ⟨f, hf, fun t ht => hs t ((e2 t).mp ht)⟩⟩
theorem zip_mapR {α β γ : Type} (f : β → γ) : ∀ (as : List α) (bs : List β), as.zip (bs.map f) = (as.zip bs).map fun p => (p.1, f p.2)
  | [], _ => rfl
  | _ :: _, [] => rfl
  | a :: as, b :: bs => by rw [List.map_cons, List.zip_cons_cons, List.zip_cons_cons, List.map_cons, zip_mapR f as bs]
theorem card_nd {ks ts : List Int} (nk : ks.Nodup) (h : ∀ k, k ∈ ks ↔ k ∈ ts) : decide (ks.length = ts.length) = decide ts.Nodup := by
  rw [decide_eq_decide]
  constructor
  · intro e
    exact (perm_of_len nk (fun x hx => (h x).mp hx) (by omega)).nodup nk
  · intro nd
    exact Nat.le_antisymm (nk.length_le_of_subset fun x hx => (h x).mp hx) (nd.length_le_of_subset fun x hx => (h x).mpr hx)
theorem nd_list : ∀ ts : List Int, ∃ es : List Int, es.Nodup ∧ ∀ k, k ∈ es ↔ k ∈ ts
  | [] => ⟨[], .nil, fun k => Iff.rfl⟩
  | x :: r => by
    obtain ⟨es, h1, h2⟩ := nd_list r
    by_cases hx : x ∈ r
    · refine ⟨es, h1, fun k => (h2 k).trans ⟨fun h => List.mem_cons_of_mem _ h, fun h => ?_⟩⟩
      rcases List.mem_cons.mp h with e | h
      · rw [e]; exact hx
      · exact h
    · refine ⟨x :: es, List.nodup_cons.mpr ⟨fun h => hx ((h2 x).mp h), h1⟩, fun k => ?_⟩
      rw [List.mem_cons, List.mem_cons, h2 k]
theorem pd_lenSetL {Γ : Gam} {ρ : GEnv} {M : Sto} {e : Expr} {ns : List Int} {k : Nat} {p1 p2 c1 c2 : Pos} (hl : Γ.mg "len" = none) (hS : Γ.mg "set" = none) (h : PD Γ e ρ M (.d (.list (ns.map PyData.int)))) (hz : ns.length < 64) (hk : ∀ ks : List Int, ks.Nodup → (∀ k, k ∈ ks ↔ k ∈ ns) → ks.length = k)
    (g1 : GlD Γ "len" := by rfl) (g2 : GlD Γ "set" := by rfl) (he : ∀ env, starEach [e] env = (false, eval e env) :: starEach [] env := by intro _; rfl) : PD Γ (.Call (.Name "len" p1) [.Call (.Name "set" p2) [e] [] c2] [] c1) ρ M (.d (.int (k : Nat))) := by
  refine de_drop (de_callB o_lenSI hl rfl (da_cons (de_callT o_setI hS rfl (da_cons (PD.de h (da_nil ⟨_, ns, rfl, .d _, hz, fun p hp => da_nil ⟨p, ns, rfl, put_same, fun ks2 hk2 hm2 => ?_⟩⟩)) he) g2 (by decide) (by decide) he)) g1)
  rw [hk ks2 hk2 hm2]
  exact ⟨M, fun b o eb => by rw [put_ne (ne_free eb hp)]; exact eb, rfl, rfl⟩
section
variable {P : Program} {w : World} {K : PySem.W.Frag} {mg : Str → Option Value} {base : Heap}
def o_bits_ofL : ON := fun gs M Q => ∃ ts : List Int, gs = [.d (.list (ts.map PyData.int))] ∧ (∀ t ∈ ts, 0 ≤ t ∧ t ≤ 100) ∧ ts.length ≤ 1000 ∧ Q (.d (.int (bits ts))) M
theorem ok_bits_ofL (gl : Gl K mg) : Fn P w K mg base 1 "bits_of" o_bits_ofL := by
  refine okf (d := d_bits_of) (N := ["lot", "thing"]) (ps := ["lot"]) gl (ixOf "bits_of") (by kernel_rfl) (fun _ _ _ _ _ _ us hl => match us, hl with | [_], _ => rfl) (by decide +kernel) (fun gs M Q ⟨a, e, _⟩ => by rw [e]; rfl) (fun gs M Q ⟨l, e, hl, hz, q⟩ => ?_)
  subst e
  refine ds_cons (d1_ret (PD.de (g := .d (.int (bits l))) (PD.to (pd_sumc [("thing", 1)] (fun t : Int => B.G.d (.int t)) l (fun t => 1 * 2 ^ t.toNat) (n_sum gl) (pit_list (ds := l.map PyData.int) (pd_var 0) (.d _)) (by rw [List.map_map]; rfl) (by show _ ≤ 16777216; omega) fun M' e t ht => dc_name 1 ⟨rfl, pd_bin o_shl pd_int (pd_var 1) ⟨_, _, rfl, rfl, ⟨(hl t ht).1, by have := (hl t ht).2; omega, by decide⟩, rfl, rfl⟩⟩) ?_) q))
  show B.G.d (.int ((l.map fun t => (1 : Int) * 2 ^ t.toNat).sum)) = _
  unfold bits
  simp only [Int.one_mul]
def o_aregiven (K : PySem.W.Frag) : ON := fun gs M Q => ∃ (a d : Addr) (n : Nat) (ls lists : List (List Int)) (v : PyData), gs = [.op (.ref a), .d (lsT lists), .d v] ∧ ChL n ls lists ∧ lists.length ≤ 9 ∧ Wd v ∧ FaM K a d n ls M ∧ ∀ kvs, Memo ls kvs → Q (.d (.bool (givB n ls lists v))) (put M d (.dK kvs))
theorem ok_aregiven (gl : Gl K mg) (fk : FaK K mg) : Fn P w K mg base 5 "are_given" (o_aregiven K) := by
  refine okf (k := 4) (d := d_are_given) (N := ["faces", "lists", "value", "told", "thing", "wished"]) (ps := ["faces", "lists", "value"]) gl (ixOf "are_given") (by kernel_rfl) (fun _ _ _ _ _ _ us hl => match us, hl with | [_, _, _], _ => rfl) (by decide +kernel) (fun gs M Q ⟨_, _, _, _, _, _, e, _⟩ => by rw [e]; rfl) (fun gs M Q ⟨a, d, n, ls, lists, v, e, h, hl, hw, fa, q⟩ => ?_)
  subst e
  have hn : n ≤ 6 := h.ch.hi
  have t0 := fk.slot ("amount", 0) (by simp)
  obtain ⟨kvs0, hd0, hm0⟩ := fa.d
  have q0 : givB n ls lists v = false → Q (.d (.bool false)) M := fun e => by
    have := q kvs0 hm0
    rw [e, put_self hd0] at this
    exact this
  have isT := fun (k : Bool) (hk : isT v = k) => hk
  cases hT : B.isT v with
  | false =>
    have : givB n ls lists v = false := by cases v <;> first | rfl | cases hT
    exact ds_cons (d1_ifB (k := true) (PW'.pb (pw_or' (k := true) (l := true) (PB.to (pb_not (k := B.isT v) (pb_val (pd_callB o_isi (n_isinstance gl) rfl (.cons (pd_var 2) (.cons (pd_ty (n_tuple gl) rfl) .nil)) (oIsi_tuple ⟨rfl, rfl⟩)))) (by rw [hT]; rfl)) (fun z => nomatch z))) (fun _ => ds_cons (d1_ret (PD.de pd_bl (q0 this)))) (fun z => nomatch z))
  | true =>
  obtain ⟨ds, rfl⟩ := isT_tuple hT
  have hz := hw ds rfl
  have qe : givB n ls lists (.tuple ds) = (decide (ds.length = lists.length) && (ds.all (someB n) && (decide (told36 ds).Nodup && (freeB ls (told36 ds) && (ds.zip lists).all inW)))) := rfl
  by_cases hlen : ds.length = lists.length
  · rw [decide_eq_true hlen, Bool.true_and] at qe
    refine ds_cons (d1_ifB (k := false) (PW'.pb (pw_or' (k := false) (l := false) (pb_not (k := true) (pb_val (pd_callB o_isi (n_isinstance gl) rfl (.cons (pd_var 2) (.cons (pd_ty (n_tuple gl) rfl) .nil)) (oIsi_tuple ⟨rfl, rfl⟩)))) fun _ => pw_or1' (pb_cmp o_ne (pd_len (n_len gl) (pd_var 2) (.t _)) (PD.to (pd_len (n_len gl) (pd_var 1) (.t _)) (by rw [List.length_map])) ⟨_, _, .d _, .d _, pl_int _, pl_int _, by rw [eqv_int, hlen, decide_eq_true rfl]; rfl, rfl⟩))) (fun z => nomatch z) (fun _ => ds_nil ?_))
    refine ds_cons (d1_ifB (k := !ds.all (someB n)) (pb_not (pb_val (pd_allc [("thing", 4)] B.G.d ds (someB n) (n_all gl) (pit_tup (pd_var 2)) rfl hz fun M' e x hx => dc_name 4 ⟨rfl, pd_or (k := isN x) (pd_cmp o_isN (pd_var 4) pd_non ⟨x, rfl, rfl, rfl, rfl⟩) fun _ => pd_one (pd_call (ok_is_int gl) (.cons (pd_var 4) (.cons pd_int (da1 (pd_bin o_sub (pd_sl (pd_var 0) (e _ _ fa.a) fk.s.c t0 rfl) pd_int ⟨_, _, rfl, rfl, rfl, rfl⟩)))) ⟨x, 0, (n : Int) - 1, rfl, rfl, rfl⟩)⟩))) (fun hh => ?_) (fun hh => ds_nil ?_))
    · rw [Bool.not_eq_true'] at hh
      exact ds_cons (d1_ret (PD.de pd_bl (q0 (by rw [qe, hh]; rfl))))
    · rw [Bool.not_eq_false'] at hh
      rw [hh, Bool.true_and] at qe
      have hall := List.all_eq_true.mp hh
      have hmap := told_map hall
      have hin := told_in hall
      have hlt := told_len ds
      obtain ⟨ts, ets⟩ : ∃ ts, told36 ds = ts := ⟨_, rfl⟩
      rw [ets] at hmap hin hlt qe
      refine ds_cons (d1_filc [("thing", 4)] 3 B.G.d ds (fun x => !isN x) id (pit_tup (pd_var 2)) rfl hz (fun M' e x hx => dc_name 4 ⟨rfl, pb_cmp o_notN (pd_var 4) pd_non ⟨x, rfl, rfl, rfl, rfl⟩, fun _ => pd_var 4⟩) (.frz ?_))
      rw [List.map_id, hmap]
      obtain ⟨es, n3, n4⟩ := nd_list ts
      have hcard := card_nd n3 n4
      have hts9 : ts.length ≤ 9 := by omega
      refine ds_cons (d1_if (DW.dt (dw_or (PB.dt (b := !decide ts.Nodup) (PB.to (pb_cmp o_ne (pd_lenSetL (ns := ts) (k := es.length) (n_len gl) (n_set gl) (pd_var 3) (by omega) fun ks n1 n2 => Nat.le_antisymm (n1.length_le_of_subset fun x hx => (n4 x).mpr ((n2 x).mp hx)) (n3.length_le_of_subset fun x hx => (n2 x).mpr ((n4 x).mp hx))) (PD.to (pd_len (ds := ts.map PyData.int) (n_len gl) (pd_var 3) (.l (.d _))) (by rw [List.length_map])) ⟨_, _, .d _, .d _, pl_int _, pl_int _, rfl, rfl⟩) (by rw [eqv_int, ← hcard]; congr 1; exact decide_eq_decide.mpr (by omega))) ?_))))
      by_cases nd : ts.Nodup
      · rw [decide_eq_true nd, Bool.true_and] at qe
        rw [decide_eq_true nd]
        obtain ⟨X, X6, eb, ef⟩ := lot_told hn nd hin ls
        refine ifF rfl (dw_or1 (dt_not (dt_val (de_meth (ok_free gl fk (ixOf "how_many") (by kernel_rfl)) fk.s.c (pd_var 0) fa.a (da_cons (PD.de (pd_call (ok_bits_ofL gl) (da1 (pd_var 3)) ⟨ts, rfl, fun t ht => by have := hin t ht; omega, by omega, rfl, rfl⟩) (da_nil ⟨a, d, n, ls, X, by rw [eb], X6, h.fu, fa, fun kvs hm => ⟨_, rfl, ?_⟩⟩)))))))
        rw [ef]
        cases hf : freeB ls ts with
        | false =>
          refine ifT rfl (ds_cons (d1_ret (PD.de pd_bl ?_)))
          have := q kvs hm
          rw [qe, hf] at this
          exact this
        | true =>
          rw [hf, Bool.true_and] at qe
          refine ifF rfl (ds_nil (ds_cons (d1_ret (PD.de (pd_allc [("thing", 4), ("wished", 5)] (fun p : PyData × List Int => B.G.d (.tuple [p.1, lotD p.2])) (ds.zip lists) inW (n_all gl) (pit_zipT (n_zip gl) (pd_var 2) (pd_var 1)) ?_ ?_ ?_) ?_))))
          · rw [zipG_eq, zip_mapR, List.map_map]
            rfl
          · rw [List.length_zip]
            show _ ≤ 16777216
            omega
          · rintro M' e ⟨x, wx⟩ hx
            have hxd := (List.of_mem_zip hx).1
            refine dc_tup (n := 2) (ds := [x, lotD wx]) (dcs_cons (dc_name 4 (dcs_cons (dc_name 5 (dcs_nil ⟨rfl, ?_⟩))))) rfl
            refine pd_or (k := isN x) (pd_cmp o_isN (pd_var 4) pd_non ⟨x, rfl, rfl, rfl, rfl⟩) fun hnx => ?_
            rcases some_cases (hall x hxd) with rfl | ⟨t, rfl, _⟩
            · cases hnx
            · exact pd_one (pd_cmp o_in (pd_var 4) (pd_var 5) ⟨_, _, .d _, .t (wx.map PyData.int), pl_int _, plA_ints wx, rfl, rfl⟩)
          · have := q kvs hm
            rw [qe] at this
            exact this
      · rw [decide_eq_false nd, Bool.false_and] at qe
        rw [decide_eq_false nd]
        exact ifT rfl (ifT rfl (ds_cons (d1_ret (PD.de pd_bl (q0 qe)))))
  · have : givB n ls lists (.tuple ds) = false := by rw [qe, decide_eq_false hlen]; rfl
    exact ds_cons (d1_ifB (k := true) (PW'.pb (pw_or' (k := false) (l := true) (pb_not (k := true) (pb_val (pd_callB o_isi (n_isinstance gl) rfl (.cons (pd_var 2) (.cons (pd_ty (n_tuple gl) rfl) .nil)) (oIsi_tuple ⟨rfl, rfl⟩)))) fun _ => pw_or1' (pb_cmp o_ne (pd_len (n_len gl) (pd_var 2) (.t _)) (PD.to (pd_len (n_len gl) (pd_var 1) (.t _)) (by rw [List.length_map])) ⟨_, _, .d _, .d _, pl_int _, pl_int _, by rw [eqv_int, decide_eq_false (by omega)]; rfl, rfl⟩))) (fun _ => ds_cons (d1_ret (PD.de pd_bl (q0 this)))) (fun z => nomatch z))
end
end K13
end
section
set_option maxHeartbeats 4000000
/-! D86: C(..) beside other instances; calls with three keywords the other way about; a comprehension over a list whose tests change the store. -/
namespace B
open PySem PySem.Spec PyProof.Rows L2 LamX
/-- whatever is told of the abstract heap is told by things that never change -/
def FrmG (M : Sto) : Prop := ∀ b φ, M b = some (.gen φ) → (∀ H, φ H → ∃ ψ, H b = some (.ext ψ)) ∧ ∀ H H', Pers H H' → φ H → φ H'
theorem FrmG.put {M : Sto} (h : FrmG M) {a : Addr} {o : MO} (k : ∀ φ, o = .gen φ → (∀ H, φ H → ∃ ψ, H a = some (.ext ψ)) ∧ ∀ H H', Pers H H' → φ H → φ H') : FrmG (B.put M a o) := fun b φ e => by
  unfold B.put at e
  split at e
  · next hb =>
    cases e
    rw [hb]
    exact k _ rfl
  · exact h b φ e
/-- a def of three parameters, called with all as keywords, the last first -/
structure FnR3 (P : Program) (w : World) (K : PySem.W.Frag) (mg : Str → Option Value) (base : Heap) (k : Nat) (x a b c : Str) (o : ON) : Prop where
  ex : ∃ f fd, FnG P w K mg base k f fd [a, b, c] o ∧ mg x = some (.ref f) ∧ PySem.W.keepIn K (.ref f) = true ∧ ∀ (s : Shared) (u v z : Value), BindsTo s fd ⟨[], [(c, z), (b, v), (a, u)]⟩ [(a, u), (b, v), (c, z)]
section
variable {Γ : Gam} {ρ : GEnv} {M : Sto} {Q : G → Sto → Prop} {e1 e2 e3 : Expr} {pos p kp1 kp2 kp3 : Pos}
theorem FnR3.fit {X : Cx} (f : Γ.Fit X) {k : Nat} {x a b c : Str} {o : ON} (h : FnR3 Γ.P Γ.w Γ.K Γ.mg Γ.base k x a b c o) : FnR3 X.prog X.w X.K X.mg X.base k x a b c o := by
  rw [f.prog, f.w, f.K, f.mg, f.base]
  exact h
end
end B
end
section
set_option maxHeartbeats 4000000
/-! D87: calls with places and then two or three keywords the other way about. -/
namespace B
open PySem PySem.Spec PyProof.Rows L2
structure FnP2 (P : Program) (w : World) (K : PySem.W.Frag) (mg : Str → Option Value) (base : Heap) (k : Nat) (x : Str) (n : Nat) (b c : Str) (o : ON) : Prop where
  ex : ∃ f fd ps, FnG P w K mg base k f fd ps o ∧ mg x = some (.ref f) ∧ PySem.W.keepIn K (.ref f) = true ∧ ∀ (s : Shared) (us : List Value) (v z : Value), us.length = n → BindsTo s fd ⟨us, [(c, z), (b, v)]⟩ (ps.zip (us ++ [v, z]))
structure FnP3 (P : Program) (w : World) (K : PySem.W.Frag) (mg : Str → Option Value) (base : Heap) (k : Nat) (x : Str) (n : Nat) (b c d : Str) (o : ON) : Prop where
  ex : ∃ f fd ps, FnG P w K mg base k f fd ps o ∧ mg x = some (.ref f) ∧ PySem.W.keepIn K (.ref f) = true ∧ ∀ (s : Shared) (us : List Value) (v z y : Value), us.length = n → BindsTo s fd ⟨us, [(d, y), (c, z), (b, v)]⟩ (ps.zip (us ++ [v, z, y]))
section
variable {P : Program} {w : World} {K : PySem.W.Frag} {mg : Str → Option Value} {base : Heap}
theorem fn_okP2 {x qual b c : Str} {params : Arguments} {body : List Stmt} {scope : Scope} {f : Addr} {fd : FuncData} {N ps : List Str} {k n : Nat} {o : ON} (F : FunD K x qual params body scope [] [] f fd) (hm : mg x = some (.ref f))
    (hb : ∀ (kV doc pm : Value) (an : Option Addr) (cdv ct : Value) (us : List Value) (v z : Value), us.length = n → bindArgs (PySem.W.fnOf x qual params body scope .none kV doc pm an cdv ct) ⟨us, [(c, z), (b, v)]⟩ = pure (ps.zip (us ++ [v, z]))) (S : FnScope N ps scope) (len : ∀ gs M Q, o gs M Q → gs.length = ps.length)
    (h : ∀ gs M Q, o gs M Q → DS ⟨P, w, K, mg, base, N, scope, k, fun _ => true, none, fun _ => True⟩ body (startG N gs) M (dRet Q)) : FnP2 P w K mg base (k + 1) x n b c o := by
  have kp := F.kp
  obtain ⟨oc, od, dV, kV, doc, pm, an, cdv, ct, osl, rfl, lk, hcd, h1, h2⟩ := F.ex
  rcases h1 with ⟨_, rfl⟩ | ⟨e, _⟩
  · exact ⟨f, _, ps, fnG_of (cd := none) lk hcd S len (fun p z => nomatch z) h, hm, kp, fun s us v z l => .of_eq (hb kV doc pm an cdv ct us v z l)⟩
  · exact absurd rfl e
end
section
variable {Γ : Gam} {ρ : GEnv} {M : Sto} {Q : G → Sto → Prop} {e0 e1 e2 e3 : Expr} {es : List Expr} {pos p kp1 kp2 kp3 : Pos}
theorem FnP2.fit {X : Cx} (f : Γ.Fit X) {k n : Nat} {x b c : Str} {o : ON} (h : FnP2 Γ.P Γ.w Γ.K Γ.mg Γ.base k x n b c o) : FnP2 X.prog X.w X.K X.mg X.base k x n b c o := by
  rw [f.prog, f.w, f.K, f.mg, f.base]
  exact h
theorem FnP3.fit {X : Cx} (f : Γ.Fit X) {k n : Nat} {x b c d : Str} {o : ON} (h : FnP3 Γ.P Γ.w Γ.K Γ.mg Γ.base k x n b c d o) : FnP3 X.prog X.w X.K X.mg X.base k x n b c d o := by
  rw [f.prog, f.w, f.K, f.mg, f.base]
  exact h
/-- f(e0, .., c = e1, b = e2) -/
theorem de_callP2 {o : ON} {x b c : Str} {k n : Nat} (cc : FnP2 Γ.P Γ.w Γ.K Γ.mg Γ.base k x n b c o) (h : DA Γ (e0 :: es) ρ M fun gs M1 => gs.length = n ∧ DE Γ e1 ρ M1 fun g1 M2 => DE Γ e2 ρ M2 fun g2 M3 => o (gs ++ [g2, g1]) M3 Q) (hk : k ≤ Γ.lv := by exact Nat.le_of_ble_eq_true rfl) (hg : GlD Γ x := by rfl) (hdb : (x == ("__debug__" : Str)) = false := by decide)
    (hall : ∀ env, (backToKw pos (keywordEach [⟨some c, e1, kp1⟩, ⟨some b, e2, kp2⟩] env)).all (·.1.isSome) = true := by intro _; rfl) (hks : ∀ env, (backToKw pos (keywordEach [⟨some c, e1, kp1⟩, ⟨some b, e2, kp2⟩] env)).filterMap (·.1) = [c, b] := by intro _; rfl)
    (he : ∀ env, starEach (e0 :: es) env = (false, eval e0 env) :: starEach es env := by intro _; rfl)
    (hpl : ∀ env, ((backTo pos (starEach (e0 :: es) env)).any (·.1) || (backToKw pos (keywordEach [⟨some c, e1, kp1⟩, ⟨some b, e2, kp2⟩] env)).any (·.1.isNone)) = false := by intro _; rfl) :
    DE Γ (.Call (.Name x p) (e0 :: es) [⟨some c, e1, kp1⟩, ⟨some b, e2, kp2⟩] pos) ρ M Q := by
  refine ⟨fun X fit => ⟨fun pins s σ H Qv I ⟨r, h0, kk⟩ => ?_⟩⟩
  obtain ⟨f, fd, ps, F, hm, kp, bnd⟩ := (cc.fit fit).ex
  refine wpAny_Call_Name_kw (ld_glob I (GlD.gl fit hg) hm ?_ hdb)
  refine PySem.W.callWith_KW (h₀ := X.base) I.ok.mod.kin kp (hall _) (thn ((h.run X fit).run pos pins s σ H (fun vs H1 => vs.length = n ∧ ∃ gs M1, Pers H H1 ∧ REnv Γ.K H1 σ ρ ∧ Hold Γ.K H1 M1 ∧ RGs Γ.K H1 vs gs ∧ DE Γ e1 ρ M1 fun g1 M2 => DE Γ e2 ρ M2 fun g2 M3 => o (gs ++ [g2, g1]) M3 Q) I
    ⟨r, h0, fun vs H1 gs M1 p1 h1 rs ⟨hl, q⟩ => ⟨by rw [rs.length]; exact hl, gs, M1, p1, r.mono p1, h1, rs, q⟩⟩) fun us s1 ⟨vs, H1, I1, rv, hl1, gs, M1, p1, r1, h1, rs, q1⟩ => ?_) (hpl _) (he _)
  refine thn ((pk_cons (nm := some c) (kpos := kp1) (pe_all fit e1) (pk_cons (nm := some b) (kpos := kp2) (pe_all fit e2) pk_nil)).run pos pins s1 σ H1 (fun zs H2 => ∃ v1 v2, zs = [v1, v2] ∧ upN X.K o (vs ++ [v2, v1]) H2 Qv) I1
    (all_of q1 r1 h1 fun v1 H2 g1 M2 p2 r2 h2 rg1 d => all_of d r2 h2 fun v2 H3 g2 M3 p3 r3 h3 rg2 q => ⟨v1, v2, rfl, gs ++ [g2, g1], M3, Q, by rw [fit.K]; exact (rs.mono (p2.trans p3)).append (.cons rg2 (.cons (rg1.mono p3) .nil)), by rw [fit.K]; exact h3, q, by rw [fit.K]; exact KOk.later (p1.trans (p2.trans p3)) kk⟩)) fun ws s2 ⟨zs, H2, I2, rz, v1, v2, ez, q⟩ => ⟨I2.kIn, ?_⟩
  subst ez
  rw [hks]
  obtain ⟨u1, u2, rfl, ra, rb⟩ : ∃ u1 u2, ws = [u1, u2] ∧ RelV v1 u1 ∧ RelV v2 u2 := by
    cases rz with
    | cons a t =>
      cases t with
      | cons b t =>
        cases t
        exact ⟨_, _, rfl, a, b⟩
  have rvz : Vals (vs ++ [v2, v1]) (us ++ [u2, u1]) := rv.append (.cons rb (.cons ra .nil))
  exact F.call (args := ⟨us, [(c, u1), (b, u2)]⟩) (us := us ++ [u2, u1]) (fit.room.mono hk) I2 (bnd s2 us u2 u1 (by rw [← rv.length]; exact hl1)) rvz q
end
end B
end
section
set_option maxHeartbeats 4000000
namespace K13
open PySem PySem.Spec PyProof.Rows L2 B
/-! KP5: shows_had. -/
def VV (v : PyData) : Prop := ∀ ds, v = .tuple ds → ∀ x ∈ ds, Wd x
section
variable {n : Nat} {ls lists : List (List Int)}
theorem plA_some : ∀ {ds : List PyData}, (∀ d ∈ ds, someB n d = true) → PyData.plainAll ds = true ∧ PyData.depthAll ds ≤ 1
  | [], _ => by constructor <;> simp [PyData.plainAll, PyData.depthAll]
  | d :: r, ha => by
    obtain ⟨h1, h2⟩ := plA_some fun x hx => ha x (List.mem_cons_of_mem _ hx)
    rcases some_cases (ha d List.mem_cons_self) with rfl | ⟨t, rfl, _⟩
    · exact ⟨by rw [PyData.plainAll, h1]; rfl, by rw [PyData.depthAll, PyData.depth]; omega⟩
    · exact ⟨by rw [PyData.plainAll, h1]; rfl, by rw [PyData.depthAll, PyData.depth]; omega⟩
theorem giv_is {L : PyData} (h : givB n ls lists L = true) : ∃ ds, L = .tuple ds ∧ PlA ds := by
  cases L <;> try cases h
  rename_i ds
  refine ⟨ds, rfl, ?_⟩
  have h : (decide (ds.length = lists.length) && (ds.all (someB n) && (decide (told36 ds).Nodup && (freeB ls (told36 ds) && (ds.zip lists).all inW)))) = true := h
  simp only [Bool.and_eq_true] at h
  have ha := List.all_eq_true.mp h.2.1
  have key := plA_some ha
  exact ⟨key.1, by omega⟩
end
section
variable {P : Program} {w : World} {K : PySem.W.Frag} {mg : Str → Option Value} {base : Heap}
theorem okfP2 {d : He.DefD} {N ps : List Str} {b c : Str} {k n : Nat} {o : ON} (gl : Gl K mg) (i : Nat) (hd : fnL[i]? = some d)
    (hb : ∀ (kV doc pm : Value) (an : Option Addr) (cdv ct : Value) (us : List Value) (v z : Value), us.length = n → bindArgs (PySem.W.fnOf d.name d.qual d.params d.body d.scope .none kV doc pm an cdv ct) ⟨us, [(c, z), (b, v)]⟩ = pure (ps.zip (us ++ [v, z])))
    (S : C8.scC N ps d.scope = true) (len : ∀ gs M Q, o gs M Q → gs.length = ps.length)
    (h : ∀ gs M Q, o gs M Q → DS ⟨P, w, K, mg, base, N, d.scope, k, fun _ => true, none, fun _ => True⟩ d.body (startG N gs) M (dRet Q)) : FnP2 P w K mg base (k + 1) d.name n b c o := by
  obtain ⟨f, fd, F, hm⟩ := gl.df d (List.mem_of_getElem? hd)
  exact fn_okP2 F hm hb (C8.fnScope_by S) len h
end
end K13
end
section
set_option maxHeartbeats 4000000
/-! D72: dicts with tuples of ints as keys, made key by key. -/
namespace B
open PySem PySem.Spec PyProof.Rows L2
section
variable {Γ : Gam} {ρ : GEnv} {M : Sto} {pos : Pos} {a b e : Expr}
/-- {}, to have tuples as keys -/
theorem de_emptyT {Q : G → Sto → Prop} (q : ∀ p, M p = none → Q (.op (.ref p)) (put M p (.raw (.dT [])))) : DE Γ (.Dict [] [] pos) ρ M Q :=
  DE.of (fun X f => pe_dnewT) fun X f σ H Qv r h0 k => fun p np => k _ _ (.op (.ref p)) _ (.new np) (h0.new (m := .raw (.dT [])) np ⟨upd_same, trivial⟩) rfl (q p (h0.fresh np))
/-- d[tuple] = True -/
theorem d1_dputT {D : DEnds} {p' : Pos} (h : DE Γ e ρ M fun z M1 => z = .d (.bool true) ∧ DE Γ a ρ M1 fun x M2 => DE Γ b ρ M2 fun y M3 => ∃ p kvs l, x = .op (.ref p) ∧ M3 p = some (.raw (.dT kvs)) ∧ y = .d (tupI l) ∧ kvs.length < sizeLine ∧ D.nx ρ (put M3 p (.raw (.dT (putK kvs (keyI l) (.bl true))))))
    (hs : ∀ env, swapsWith e (some (.Subscript a b p')) pos.line env = pure false := by intro _; rfl) : D1 Γ (.Assign [.Subscript a b p'] e pos) ρ M D :=
  D1.of (fun X f => ps_dput (units1 f) (pe_all f a) (pe_all f b) (pe_all f e) (hs _)) fun X f E σ H r h0 k => all_of h r h0 fun v H1 z M1 p1 r1 h1 rz ⟨ez, d⟩ => all_of d r1 h1 fun u H2 x M2 p2 r2 h2 rx d2 => all_of d2 r2 h2 fun w H3 y M3 p3 r3 h3 ry ⟨p, kvs, l, e1, e2, e3, hz, q⟩ => by
    subst e1 e3 ez
    cases rx
    have ev : v = V.bl true := by cases rz; rfl
    subst ev
    obtain ⟨bb, ws, rfl, hb, rb⟩ := Rp.sqt ry
    rw [RpAll.ints rb] at hb
    obtain ⟨e4, _⟩ := h3 _ _ e2
    have pr : Pers H3 (upd H3 p (.dT (putK kvs (keyI l) (.bl true)))) := Pers.put e4 (fun _ z => nomatch z) (fun _ _ z => nomatch z)
    obtain ⟨_, h4⟩ := h3.put (o := .dT (putK kvs (keyI l) (.bl true))) (m' := .raw (.dT (putK kvs (keyI l) (.bl true)))) e2 ⟨upd_same, trivial⟩
    exact ⟨p, _, rfl, DPut.t e4 (by rw [kv_int]; exact hb) hz, k.nx _ _ _ _ (p1.trans (p2.trans (p3.trans pr))) (r3.mono pr) h4 q⟩
end
end B
end
section
set_option maxHeartbeats 4000000
/-! D73: == of two dicts with tuples as keys, all values True. -/
namespace B
open PySem PySem.Spec PyProof.Rows L2
end B
end
section
set_option maxHeartbeats 4000000
namespace K13
open PySem PySem.Spec PyProof.Rows L2 B
/-! EF20: two dicts of lots are equal if they have the same keys; the key that an order makes of a lot (plain). -/
theorem putK_keys (kvs : List (List L2.Key × V)) (k : List L2.Key) (v : V) (nd : (kvs.map (·.1)).Nodup) : ((putK kvs k v).map (·.1)).Nodup := by
  unfold putK
  split
  · have : (kvs.map fun kv => if kv.1 = k then (kv.1, v) else kv).map (·.1) = kvs.map (·.1) := by
      rw [List.map_map]
      refine List.map_congr_left fun kv _ => ?_
      show (if kv.1 = k then (kv.1, v) else kv).1 = kv.1
      split <;> rfl
    rw [this]
    exact nd
  · rename_i h
    rw [List.map_append]
    refine List.nodup_append.mpr ⟨nd, List.pairwise_singleton _ _, fun x hx y hy e => ?_⟩
    obtain ⟨kv, hkv, rfl⟩ := List.mem_map.mp hx
    rw [show ([(k, v)] : List (List L2.Key × V)).map (·.1) = [k] from rfl, List.mem_singleton] at hy
    exact h (List.any_eq_true.mpr ⟨kv, hkv, decide_eq_true (e.trans hy)⟩)
theorem dictT_nd : ∀ (ls : List (List Int)) (acc : List (List L2.Key × V)), (acc.map (·.1)).Nodup → ((dictT acc ls).map (·.1)).Nodup
  | [], acc, h => h
  | l :: ls, acc, h => dictT_nd ls _ (putK_keys acc _ _ h)
theorem dictT_snoc (ls : List (List Int)) (l : List Int) : dictT [] (ls ++ [l]) = putK (dictT [] ls) (keyI l) (.bl true) := by
  unfold dictT
  rw [List.foldl_append]
  rfl
theorem dictT_keys : ∀ (ls : List (List Int)) (acc : List (List L2.Key × V)), (∀ k ∈ acc, ∃ l, k.1 = keyI l) → ∀ k ∈ dictT acc ls, ∃ l, k.1 = keyI l
  | [], acc, h => h
  | l :: ls, acc, h => dictT_keys ls _ fun k hk => by
    have hk : k ∈ putK acc (keyI l) (.bl true) := hk
    unfold putK at hk
    split at hk
    · obtain ⟨kv, hkv, rfl⟩ := List.mem_map.mp hk
      obtain ⟨l', e⟩ := h kv hkv
      exact ⟨l', by split <;> exact e⟩
    · rcases List.mem_append.mp hk with z | z
      · exact h k z
      · exact ⟨l, by rw [List.mem_singleton.mp z]⟩
theorem dictT_mem {ls : List (List Int)} {k : List L2.Key} : k ∈ (dictT [] ls).map (·.1) ↔ ∃ l ∈ ls, keyI l = k := by
  have ha : ∀ l, ((dictT [] ls).any fun kv => decide (kv.1 = keyI l)) = ls.contains l := fun l => by
    rw [dictT_any]
    simp
  constructor
  · intro h
    obtain ⟨kv, hkv, rfl⟩ := List.mem_map.mp h
    obtain ⟨l, e⟩ := dictT_keys ls [] (fun _ h => absurd h List.not_mem_nil) kv hkv
    refine ⟨l, ?_, e.symm⟩
    rw [← List.contains_iff_mem, ← ha l]
    exact List.any_eq_true.mpr ⟨kv, hkv, decide_eq_true e⟩
  · rintro ⟨l, hl, rfl⟩
    have := (ha l).trans (List.contains_iff_mem.mpr hl)
    obtain ⟨kv, hkv, e⟩ := List.any_eq_true.mp this
    exact List.mem_map.mpr ⟨kv, hkv, of_decide_eq_true e⟩
end K13
end
section
set_option maxHeartbeats 4000000
/-! D97: sorted of a dict with tuples of ints as keys. -/
namespace B
open PySem PySem.Spec PyProof.Rows L2
theorem keys_rp {K : PySem.W.Frag} {H : Hp} : ∀ {kvs : List (List L2.Key × V)} {bs : List Addr} {ls : List (List Int)}, Paired (fun p b => H b = some (.tup (p.1.map kV))) kvs bs → kvs.map (·.1) = ls.map keyI → RpAll K H (bs.map V.ref) (ls.map tupI) := by
  intro kvs bs ls h
  induction h generalizing ls with
  | nil =>
    intro e
    cases ls with
    | nil => exact .nil
    | cons a r => cases e
  | @cons p b ps bs h t ih =>
    intro e
    cases ls with
    | nil => cases e
    | cons a r =>
      injection e with e1 e2
      have h2 : H b = some (.tup (a.map V.int)) := by rw [h, show p.1 = keyI a from e1, kv_int]
      exact .cons (.tup h2 (RpAll.of_ints _)) (ih e2)
section
variable {Γ : Gam}
def oSortT : ON := fun xs M Q => ∃ (p : Addr) (kvs : List (List L2.Key × V)) (ls : List (List Int)), xs = [.op (.ref p)] ∧ M p = some (.raw (.dT kvs)) ∧ kvs.map (·.1) = ls.map keyI ∧ CanSort (ls.map tupI) ∧ ls.length ≤ 1000 ∧ NewL (sortD (ls.map tupI)) M Q
theorem o_sortT : OpN Γ (.builtin "sorted") oSortT := fun X fit pins s σ H vs us Qv I rv ⟨xs, M, Q, rs, hm, ⟨p, kvs, ls, e, eM, hk, cs, hz, q⟩, k⟩ => by
  subst e
  obtain ⟨v, rfl⟩ : ∃ v, vs = [v] := by
    cases rs with
    | cons r t => cases t; exact ⟨_, rfl⟩
  have r : RG Γ.K H v (.op (.ref p)) := by
    cases rs with
    | cons r t => exact r
  cases r
  obtain ⟨u, rfl, ru⟩ := vals1 rv
  cases ru
  obtain ⟨hp, _⟩ := hm _ _ eM
  obtain ⟨z, hs, ks, pr, o, es, ep, ho, hx, hdt, he, hn⟩ := (show ObjOk X.prog X.w H s.heap p (.dT kvs) from I.hok p _ hp)
  have l1 : es.size = ks.length := size_of_entries he
  have l2 : kvs.length = ks.length := Paired.length pr
  have l3 : kvs.length = ls.length := by
    have := congrArg List.length hk
    rwa [List.length_map, List.length_map] at this
  refine sorted_of_col (C := fun vs s1 => vs = (ks.map fun x => x.2.1).map Value.ref ∧ (∀ b o, s.heap.get? b = some o → s1.heap.get? b = some o) ∧ ∃ h' tk, s1 = { s with heap := h', toks := tk }) (args_sorted1 _) (fun _ => args_list_sort _) (fun E => ?_) fun vs s1 ⟨ev, kp, h', tk, es⟩ => ?_
  · refine PySem.W.kdu_collect (A := X.A.in1) (kdl_raw hs hx hdt) (I.ok.hd fit.calm) ho (by rw [l1, ← l2, l3]; show _ ≤ 16777216; omega) fun h' tk acc kp it => ⟨?_, kp, h', tk, rfl⟩
    rw [List.map_map]
    have hl : acc.toList.length = ks.length := by rw [Array.length_toList, it.1]; exact l1
    apply List.ext_getElem?
    intro j
    rw [List.getElem?_map]
    cases hj : acc.toList[j]? with
    | none =>
      have h1 := List.getElem?_eq_none_iff.mp hj
      rw [List.getElem?_eq_none (by omega)]
      rfl
    | some v =>
      obtain ⟨en, hen, hv⟩ := it.2 j v (by rw [← Array.getElem?_toList]; exact hj)
      have qe := entry_at he j
      rw [hen] at qe
      cases hb : ks[j]? with
      | none =>
        rw [hb] at qe
        exact nomatch (show some en = none from qe)
      | some b =>
        rw [hb] at qe
        have e2 : en = entryOfKey (tupleKind (mixKind X.prog X.w)) b := Option.some.inj qe
        rw [hv, e2]
        rfl
  · subst ev
    have J : Inv X pins σ H s1 := by
      subst es
      exact I.kept kp
    have hlen : ((ks.map fun x => x.2.1).map Value.ref).length = ls.length := by rw [List.length_map, List.length_map]; omega
    refine ⟨by rw [hlen]; show _ ≤ 16777216; omega, fun E' => sort_tail fit (A := X.A.in1.in1) (by show X.A.units + 1 + 1 ≤ _; omega) J (fun b o e => e) ⟨s1.heap, s1.toks, rfl⟩ (keys_rp (isKeys_of pr) hk) (vals_refs _) cs (by rw [List.length_map]; show _ ≤ 16777216; omega) hm q k E'⟩
end
end B
end
section
set_option maxHeartbeats 4000000
/-! D98: list.extend(a tuple). -/
namespace B
open PySem PySem.Spec PyProof.Rows L2
section
open PyProof
theorem ext_lt (l : Addr) (items : Array Value) (n : Nat) (b : Addr) (items2 : Array Value) (hs0 : ¬(!items.isEmpty && Builtin.List.listTooLong (items.size + items2.size)) = true) (hs1 : items.size ≤ sizeLine) (hs2 : items.size + items2.size ≤ sizeLine + 1) :
    Meets (Builtin.«list.extend» ⟨[.ref l, .ref b], []⟩) (fun _ R s => s.heap.get? l = some { cls := .type "list", dict := none, data := .seq items n, slots := #[] } ∧ IsTup s.heap b items2 ∧ R (.ok (.ret Value.none)) { s with heap := s.heap.update l (Obj.mapSeq fun x => x ++ items2), toks := s.toks }) :=
  .of_wp fun prog w A R s h => by
    obtain ⟨hp, g, d, tk, os⟩ := s
    obtain ⟨hl, ⟨⟨cl, dc, da, sl⟩, hb, hc, n2, hd⟩, h⟩ := h
    subst hc hd
    have f1 := AutoSeq1.idx_int; have f2 := AutoSeq1.sub_tuple_tuple; have f3 := AutoSeq1.sub_list_list; have f4 := AutoSeq1.sub_tuple_list; have f5 := AutoSeq1.sub_list_tuple;
    have hz' : (items ++ items2).size ≤ sizeLine + 1 := by rw [Array.size_append]; exact hs2
    wp_walk using (wpAny_updateSeq hl rfl (hz := hs1) (_hz' := hz')), AutoSeq1.wpAny_loadPart' hl, AutoSeq1.wpAny_loadPart' hb; exact ⟨_, rfl, h⟩
end
section
variable {X : Cx}
def rExtendT : V → List V → Hp → VK → Prop := fun x vs H Q => ∃ l b xs zs, x = .ref l ∧ vs = [.ref b] ∧ H l = some (.lst xs) ∧ H b = some (.tup zs) ∧ xs.length + zs.length ≤ sizeLine ∧ Q .non (upd H l (.lst (xs ++ zs)))
theorem mt_extendT : MtM X "list.extend" rExtendT := by
  intro pins s σ H x vs v us Q I rx rv h
  obtain ⟨l, b, xs, zs, rfl, rfl, hH, hB, hz, q⟩ := h
  cases rx
  obtain ⟨u, rfl, ru⟩ := rv.one
  cases ru
  obtain ⟨z, its, n, r, hl, e⟩ := I.lstM hH
  obtain ⟨its2, r2, e2, hl2z⟩ := I.tuple (.inl (.inl hB))
  have hl2 : its2.length = zs.length := r2.length.symm
  have hsz : its.toArray.size + its2.toArray.size ≤ sizeLine := by rw [List.size_toArray, List.size_toArray]; omega
  have hlong : ¬ (!its.toArray.isEmpty && Builtin.List.listTooLong (its.toArray.size + its2.toArray.size)) = true := by
    rw [notLongL hsz, Bool.and_false]
    exact Bool.false_ne_true
  refine call_meets F.slot_list_extend ⟨_, e, rfl⟩ F.entry_list_extend (F.args_list_extend_2 _ _)
    (ext_lt l its.toArray n b its2.toArray hlong (by rw [List.size_toArray]; omega) (by omega)) ⟨e, e2, ?_⟩
  refine ⟨.non, _, I.lset (its' := its ++ its2) hH e (by simp) (r.append r2) ?_, rfl, q⟩
  rw [List.length_append]
  omega
end
section
variable {Γ : Gam} {ρ : GEnv} {M : Sto} {o e : Expr} {apos cpos : Pos} {Q : G → Sto → Prop}
theorem de_extendT (h : DE Γ o ρ M fun x M1 => ∃ a g0, x = .op (.ref a) ∧ M1 a = some (.lst g0) ∧ DE Γ e ρ M1 fun y M2 => ∃ ds gs, y = .d (.tuple ds) ∧ M2 a = some (.lst gs) ∧ gs.length + ds.length ≤ sizeLine ∧ Q (.d .none) (put M2 a (.lst (gs ++ ds.map G.d))))
    (hbase : ∀ env, attributeBase o "extend" env (eval o env) = eval o env := by intro _; rfl) (hfew : ∀ env, fewOk e cpos env = true := by intro _; rfl) (hline : (apos.endLine == cpos.line) = true := by rfl)
    (hs : ∀ env, starEach [e] env = (false, eval e env) :: starEach [] env := by intro _; rfl) : DE Γ (.Call (.Attribute o "extend" apos) [e] [] cpos) ρ M Q :=
  DE.of (fun X f => pe_bm PySem.F.plainAttrs_list PySem.F.slot_list_extend PySem.F.type_list_extend mt_extendT (pe_all f o) (pa_all f [e]) (hbase _) (hfew _) hline (hs _) rfl) fun X f σ H Qv r h0 k => all_of h r h0 fun v H1 x M1 p1 r1 h1 rx ⟨a, g0, e1, e2, d⟩ => by
    subst e1
    cases rx
    obtain ⟨us0, e3, _⟩ := h1 _ _ e2
    refine ⟨.inl ⟨rfl, us0, .inl (.inl e3)⟩, allA_of (da_one d hs) r1 h1 fun vs H2 gs M2 p2 r2 h2 rs ⟨g, eg, ds, gs', ey, e4, hz, q⟩ => ?_⟩
    subst eg ey
    cases rs with
    | cons rg t =>
      cases t
      obtain ⟨us, e5, rs'⟩ := h2 _ _ e4
      obtain ⟨b, ws, rfl, e7, rs2⟩ := Rp.sqt rg
      obtain ⟨p3, h3⟩ := lst_put (a := a) h2 e4 e5 (rs'.append (RGs.of_data rs2))
      exact ⟨a, b, us, ws, rfl, rfl, e5, e7, by rw [rs'.length, rs2.length]; exact hz, k _ _ _ _ (p1.trans (p2.trans p3)) h3 (rgd Rp.non) q⟩
end
end B
end
section
set_option maxHeartbeats 4000000
namespace K13
open PySem PySem.Spec PyProof.Rows L2 B
/-! KP6: the law's own looks at persons. -/
def allL (ws : List (List Int)) : List Int := six.filter fun t => ws.any fun w => w.contains t
theorem all6 (ws : List (List Int)) : allL ws ∈ L6 := filt6 (by decide +kernel) _
theorem allL_iff {ws : List (List Int)} (h6 : ∀ w ∈ ws, w ∈ L6) {t : Int} : t ∈ allL ws ↔ t ∈ ws.flatten := by
  unfold allL
  rw [List.mem_filter, List.any_eq_true, List.mem_flatten]
  constructor
  · rintro ⟨_, w, hw, h⟩
    exact ⟨w, hw, List.contains_iff_mem.mp h⟩
  · rintro ⟨w, hw, h⟩
    exact ⟨F_mem _ (h6 w hw) t h, w, hw, List.contains_iff_mem.mpr h⟩
theorem allL_uni (lists : List (List Int)) (l : List Int) : allL (l.map (AL lists)) = uniP lists l := by
  unfold allL uniP uniL
  congr 1
  funext t
  rw [List.any_map]
  rfl
theorem pl_lotsL (ls : List (List Int)) : Pl (.list (ls.map lotD)) := by
  refine ⟨?_, ?_⟩
  · rw [PyData.plain]
    exact (lots_plain ls).1
  · rw [PyData.depth]
    have := (lots_plain ls).2
    omega
theorem eqv_nilL (ls : List (List Int)) : PyData.eqv (.list (ls.map lotD)) (.list []) = ls.isEmpty := by
  cases ls with
  | nil => rfl
  | cons a r => rfl
section
variable {P : Program} {w : World} {K : PySem.W.Frag} {mg : Str → Option Value} {base : Heap}
def o_lall : ON := fun gs M Q => ∃ ws : List (List Int), gs = [.d (.list (ws.map lotD))] ∧ (∀ w ∈ ws, w ∈ L6) ∧ ws.length ≤ 6 ∧ Q (.d (lotD (allL ws))) M
theorem ok_lall (gl : Gl K mg) : Fn P w K mg base 1 "_law_all_of" o_lall := by
  refine okf (d := d__law_all_of) (N := ["lots", "things", "lot"]) (ps := ["lots"]) gl (ixOf "_law_all_of") (by kernel_rfl) (fun _ _ _ _ _ _ us hl => match us, hl with | [_], _ => rfl) (by decide +kernel) (fun gs M Q ⟨_, e, _⟩ => by rw [e]; rfl) (fun gs M Q ⟨ws, e, h6, hl, q⟩ => ?_)
  subst e
  have small : ∀ vs : List (List Int), (∀ v ∈ vs, v ∈ L6) → vs.flatten.length ≤ 6 * vs.length := fun vs => by
    induction vs with
    | nil => intro _; exact Nat.le_refl _
    | cons a r ih =>
      intro h
      have h1 := ih fun v hv => h v (List.mem_cons_of_mem _ hv)
      have h2 := F_len a (h a List.mem_cons_self)
      rw [List.flatten_cons, List.length_append, List.length_cons]
      omega
  refine ds_cons (d1_set 1 (de_listM (da_nil ⟨Nat.le_of_ble_eq_true rfl, fun p hp => ?_⟩)))
  refine ds_cons (d1_for (di_list (PD.de (pd_var 0) ⟨ws.map lotD, .d _, fun i ρ M' => ∃ x2, M' = put M p (.lst (((ws.take i).flatten.map PyData.int).map B.G.d)) ∧ ρ = [some (.d (.list (ws.map lotD))), some (.op (.ref p)), x2], ⟨_, rfl, rfl⟩, fun _ _ _ _ _ => .d _, ?_, ?_⟩)))
  · rintro i g ρ M' eg ⟨x2, rfl, rfl⟩
    rw [List.getElem?_map, List.getElem?_map] at eg
    cases et : ws[i]? with
    | none => rw [et] at eg; cases eg
    | some v =>
    rw [et] at eg
    cases eg
    have hi := (List.getElem?_eq_some_iff.mp et).1
    have v6 := h6 v (List.mem_of_getElem? et)
    have hv := F_len v v6
    have hs := small (ws.take i) fun u hu => h6 u (List.mem_of_mem_take hu)
    rw [List.length_take] at hs
    have htk : (ws.take (i + 1)).flatten = (ws.take i).flatten ++ v := by rw [List.take_add_one, et, List.flatten_append]; simp
    refine dg_name 2 (ds_cons (d1_expr (de_extendT (PD.de (pd_var 1) ⟨p, _, rfl, put_same, PD.de (pd_var 2) ⟨v.map PyData.int, _, rfl, put_same, by rw [List.length_map, List.length_map, List.length_map]; show _ ≤ 16777216; omega, ds_nil ⟨_, ?_, rfl⟩⟩⟩))))
    rw [put_put, htk, List.map_append, List.map_append]
  · rintro ρ M' ⟨x2, rfl, rfl⟩
    have hz := small ws h6
    rw [List.length_map, List.length_map, List.take_length]
    refine ds_cons (d1_ret (de_drop (de_callT o_tuple (n_tuple gl) rfl (da_cons (de_callB o_sortI (n_sorted gl) rfl (da_cons (de_callT o_setI (n_set gl) rfl (da_cons (PD.de (pd_var 1) (da_nil ⟨_, ws.flatten, rfl, .l put_same, by omega, fun b hb => da_nil ⟨b, ws.flatten, rfl, put_same, fun ns hs hm b2 hb2 => da_nil ⟨_, ns.map PyData.int, rfl, .l (.l put_same), M, ?_, ?_⟩⟩⟩))))))))))
    · intro a o e
      have h1 : a ≠ p := fun z => by rw [z, hp] at e; cases e
      have e1 : put M p (.lst ((ws.flatten.map PyData.int).map B.G.d)) a = some o := by rw [put_ne h1]; exact e
      have h2 : a ≠ b := fun z => by rw [z, hb] at e1; cases e1
      have e2 := (put_ne (o := .gen (SetI w b ws.flatten)) h2).trans e1
      have h3 : a ≠ b2 := fun z => by rw [z, hb2] at e2; cases e2
      exact (put_ne h3).trans e2
    · have n6 : ns ∈ L6 := L6_of hs fun t ht => by
        have h1 := (allL_iff h6).mpr ((hm t).mp ht)
        exact ((L6_pw _ (all6 ws)).2 t h1)
      have : ns = allL ws := ext6 n6 (all6 ws) fun t => (hm t).trans (allL_iff h6).symm
      rw [this]
      exact q
def o_llack : ON := fun gs M Q => ∃ (n : Nat) (ls lists : List (List Int)) (l : List Int), gs = [.d (heapD (n : Nat) ls), .d (lsT lists), .d (lotD l)] ∧ ChL n ls lists ∧ lists.length ≤ 6 ∧ l ∈ L6 ∧ (∀ p ∈ l, p < ((lists.length : Nat) : Int)) ∧ Q (.d (.int (lackP ls lists l))) M
theorem ok_llack (gl : Gl K mg) : Fn P w K mg base 3 "_law_lacking" o_llack := by
  refine okf (d := d__law_lacking) (N := ["choice", "lists", "persons", "person"]) (ps := ["choice", "lists", "persons"]) gl (ixOf "_law_lacking") (by kernel_rfl) (fun _ _ _ _ _ _ us hl => match us, hl with | [_, _, _], _ => rfl) (by decide +kernel) (fun gs M Q ⟨_, _, _, _, e, _⟩ => by rw [e]; rfl) (fun gs M Q ⟨n, ls, lists, l, e, h, hl, l6, hlt, q⟩ => ?_)
  subst e
  have hz := F_len l l6
  have fu := h.fu
  have h6 : ∀ w ∈ l.map (AL lists), w ∈ L6 := fun w hw => by
    obtain ⟨p, _, rfl⟩ := List.mem_map.mp hw
    exact AL6 h.l6 p
  have hu : (uniP lists l).length ≤ 6 := F_len _ (uniL6 (AL lists) l)
  refine ds_cons (d1_ret (PD.de (g := .d (.int (lackP ls lists l))) (pd_bin o_sub (PD.to (pd_len (ds := l.map PyData.int) (n_len gl) (pd_var 2) (.t _)) (by rw [List.length_map])) (pd_call (ok_lrank gl) (.cons (pd_var 0) (da1 (pd_call (z := .d (lotD (uniP lists l))) (ok_lall gl) (da1 (pd_mapc [("person", 3)] (fun t : Int => B.G.d (.int t)) l (fun p => lotD (AL lists p)) (pit_tup (ds := l.map PyData.int) (pd_var 2)) (by rw [List.map_map]; rfl) (by show _ ≤ 16777216; omega) fun M' e t ht => dc_name 3 ⟨rfl, ?_⟩)) ⟨l.map (AL lists), by rw [List.map_map]; rfl, h6, by rw [List.length_map]; omega, by rw [allL_uni], rfl⟩))) ⟨_, ls, uniP lists l, rfl, fu.ne, fu.len, by omega, rfl, rfl⟩) ⟨_, _, rfl, rfl, rfl, rfl⟩) q))
  have h0 := ((L6_pw l l6).2 t ht).1
  have h1 := hlt t ht
  obtain ⟨k, rfl⟩ : ∃ k : Nat, t = (k : Nat) := ⟨t.toNat, by omega⟩
  have hk : k < lists.length := by omega
  obtain ⟨v, ev⟩ : ∃ v, lists[k]? = some v := ⟨_, List.getElem?_eq_getElem hk⟩
  rw [AL_at ev]
  exact pd_at (ds := lists.map lotD) (pd_var 1) (pd_var 3) (B.atI_nat (x := lotD v) (by rw [List.getElem?_map, ev]; rfl))
def o_lgiven : ON := fun gs M Q => ∃ (n : Nat) (ls lists : List (List Int)) (v : PyData), gs = [.d (heapD (n : Nat) ls), .d (lsT lists), .d v] ∧ ChL n ls lists ∧ lists.length ≤ 6 ∧ Wd v ∧ Q (.d (.bool (givB n ls lists v))) M
theorem ok_lgiven (gl : Gl K mg) : Fn P w K mg base 3 "_law_are_given" o_lgiven := by
  refine okf (d := d__law_are_given) (N := ["choice", "lists", "value", "told", "thing", "wished"]) (ps := ["choice", "lists", "value"]) gl (ixOf "_law_are_given") (by kernel_rfl) (fun _ _ _ _ _ _ us hl => match us, hl with | [_, _, _], _ => rfl) (by decide +kernel) (fun gs M Q ⟨_, _, _, _, e, _⟩ => by rw [e]; rfl) (fun gs M Q ⟨n, ls, lists, v, e, h, hl, hw, q⟩ => ?_)
  subst e
  have hn : n ≤ 6 := h.ch.hi
  have fu := h.fu
  cases hT : B.isT v with
  | false =>
    have : givB n ls lists v = false := by cases v <;> first | rfl | cases hT
    rw [this] at q
    exact ds_cons (d1_ifB (k := true) (PW'.pb (pw_or' (k := true) (l := true) (PB.to (pb_not (k := B.isT v) (pb_val (pd_callB o_isi (n_isinstance gl) rfl (.cons (pd_var 2) (.cons (pd_ty (n_tuple gl) rfl) .nil)) (oIsi_tuple ⟨rfl, rfl⟩)))) (by rw [hT]; rfl)) (fun z => nomatch z))) (fun _ => ds_cons (d1_ret (PD.de pd_bl q))) (fun z => nomatch z))
  | true =>
  obtain ⟨ds, rfl⟩ := isT_tuple hT
  have hz := hw ds rfl
  have qe : givB n ls lists (.tuple ds) = (decide (ds.length = lists.length) && (ds.all (someB n) && (decide (told36 ds).Nodup && (freeB ls (told36 ds) && (ds.zip lists).all inW)))) := rfl
  rw [qe] at q
  by_cases hlen : ds.length = lists.length
  · rw [decide_eq_true hlen, Bool.true_and] at q
    refine ds_cons (d1_ifB (k := false) (PW'.pb (pw_or' (k := false) (l := false) (pb_not (k := true) (pb_val (pd_callB o_isi (n_isinstance gl) rfl (.cons (pd_var 2) (.cons (pd_ty (n_tuple gl) rfl) .nil)) (oIsi_tuple ⟨rfl, rfl⟩)))) fun _ => pw_or1' (pb_cmp o_ne (pd_len (n_len gl) (pd_var 2) (.t _)) (PD.to (pd_len (n_len gl) (pd_var 1) (.t _)) (by rw [List.length_map])) ⟨_, _, .d _, .d _, pl_int _, pl_int _, by rw [eqv_int, hlen, decide_eq_true rfl]; rfl, rfl⟩))) (fun z => nomatch z) (fun _ => ds_nil ?_))
    refine ds_cons (d1_ifB (k := !ds.all (someB n)) (pb_not (pb_val (pd_allc [("thing", 4)] B.G.d ds (someB n) (n_all gl) (pit_tup (pd_var 2)) rfl hz fun M' e x hx => dc_name 4 ⟨rfl, pd_or (k := isN x) (pd_cmp o_isN (pd_var 4) pd_non ⟨x, rfl, rfl, rfl, rfl⟩) fun _ => pd_one (pd_call (ok__law_is_int gl) (.cons (pd_var 4) (.cons pd_int (da1 (pd_bin o_sub (pd_at (pd_var 0) pd_int rfl) pd_int ⟨_, _, rfl, rfl, rfl, rfl⟩)))) ⟨x, 0, (n : Int) - 1, rfl, rfl, rfl⟩)⟩))) (fun hh => ?_) (fun hh => ds_nil ?_))
    · rw [Bool.not_eq_true'] at hh
      rw [hh, Bool.false_and] at q
      exact ds_cons (d1_ret (PD.de pd_bl q))
    · rw [Bool.not_eq_false'] at hh
      rw [hh, Bool.true_and] at q
      have hall := List.all_eq_true.mp hh
      have hmap := told_map hall
      have hlt := told_len ds
      obtain ⟨ts, ets⟩ : ∃ ts, told36 ds = ts := ⟨_, rfl⟩
      rw [ets] at hmap hlt q
      obtain ⟨us, hp, hus⟩ := B.perm_map_of (f := PyData.int) (List.mergeSort_perm (ts.map PyData.int) leD) rfl
      have hus : sortD (ts.map PyData.int) = us.map PyData.int := hus
      refine ds_cons (d1_set 3 (de_callB o_sorted (n_sorted gl) rfl (da_cons (PD.de (pd_filc [("thing", 4)] B.G.d ds (fun x => !isN x) id (pit_tup (pd_var 2)) rfl hz fun M' e x hx => dc_name 4 ⟨rfl, pb_cmp o_notN (pd_var 4) pd_non ⟨x, rfl, rfl, rfl, rfl⟩, fun _ => pd_var 4⟩) (da_nil ⟨_, ts.map PyData.int, rfl, by rw [List.map_id, hmap]; exact .l (.d _), canSort_ints ts, by rw [List.length_map]; show _ ≤ 16777216; omega, .frz ?_⟩)))))
      rw [hus]
      obtain ⟨es, n3, n4⟩ := nd_list us
      have hcard := card_nd n3 n4
      have hul : us.length = ts.length := hp.length_eq
      have hnd : decide us.Nodup = decide ts.Nodup := decide_eq_decide.mpr hp.nodup_iff
      have hfr : freeB ls us = freeB ls ts := by
        rw [Bool.eq_iff_iff, free_iff, free_iff]
        exact ⟨fun ⟨f, hf, hs⟩ => ⟨f, hf, fun t ht => hs t (hp.mem_iff.mpr ht)⟩, fun ⟨f, hf, hs⟩ => ⟨f, hf, fun t ht => hs t (hp.mem_iff.mp ht)⟩⟩
      refine ds_cons (d1_if (DW.dt (dw_or (PB.dt (b := !decide ts.Nodup) (PB.to (pb_cmp o_ne (pd_lenSetL (ns := us) (k := es.length) (n_len gl) (n_set gl) (pd_var 3) (by omega) fun ks n1 n2 => Nat.le_antisymm (n1.length_le_of_subset fun x hx => (n4 x).mpr ((n2 x).mp hx)) (n3.length_le_of_subset fun x hx => (n2 x).mpr ((n4 x).mp hx))) (PD.to (pd_len (ds := us.map PyData.int) (n_len gl) (pd_var 3) (.l (.d _))) (by rw [List.length_map])) ⟨_, _, .d _, .d _, pl_int _, pl_int _, rfl, rfl⟩) (by rw [eqv_int, ← hnd, ← hcard]; congr 1; exact decide_eq_decide.mpr (by omega))) ?_))))
      by_cases nd : ts.Nodup
      · rw [decide_eq_true nd, Bool.true_and] at q
        rw [decide_eq_true nd]
        refine ifF rfl (dw_or1 (PB.dt (b := !freeB ls ts) (pb_not (pb_val (pd_call (ok_lfree gl) (.cons (pd_var 0) (da1 (pd_tup1 (ds := us.map PyData.int) (n_tuple gl) (pd_var 3)))) ⟨_, ls, us, rfl, fu.ne, fu.len, by omega, by rw [← hfr], rfl⟩))) ?_))
        cases hf : freeB ls ts with
        | false =>
          rw [hf, Bool.false_and] at q
          exact ifT rfl (ds_cons (d1_ret (PD.de pd_bl q)))
        | true =>
          rw [hf, Bool.true_and] at q
          refine ifF rfl (ds_nil (ds_cons (d1_ret (PD.de (pd_allc [("thing", 4), ("wished", 5)] (fun p : PyData × List Int => B.G.d (.tuple [p.1, lotD p.2])) (ds.zip lists) inW (n_all gl) (pit_zipT (n_zip gl) (pd_var 2) (pd_var 1)) ?_ ?_ ?_) q))))
          · rw [zipG_eq, zip_mapR, List.map_map]
            rfl
          · rw [List.length_zip]
            show _ ≤ 16777216
            omega
          · rintro M' e ⟨x, wx⟩ hx
            have hxd := (List.of_mem_zip hx).1
            refine dc_tup (n := 2) (ds := [x, lotD wx]) (dcs_cons (dc_name 4 (dcs_cons (dc_name 5 (dcs_nil ⟨rfl, ?_⟩))))) rfl
            refine pd_or (k := isN x) (pd_cmp o_isN (pd_var 4) pd_non ⟨x, rfl, rfl, rfl, rfl⟩) fun hnx => ?_
            rcases some_cases (hall x hxd) with rfl | ⟨t, rfl, _⟩
            · cases hnx
            · exact pd_one (pd_cmp o_in (pd_var 4) (pd_var 5) ⟨_, _, .d _, .t (wx.map PyData.int), pl_int _, plA_ints wx, rfl, rfl⟩)
      · rw [decide_eq_false nd, Bool.false_and] at q
        rw [decide_eq_false nd]
        exact ifT rfl (ifT rfl (ds_cons (d1_ret (PD.de pd_bl q))))
  · rw [decide_eq_false hlen, Bool.false_and] at q
    exact ds_cons (d1_ifB (k := true) (PW'.pb (pw_or' (k := false) (l := true) (pb_not (k := true) (pb_val (pd_callB o_isi (n_isinstance gl) rfl (.cons (pd_var 2) (.cons (pd_ty (n_tuple gl) rfl) .nil)) (oIsi_tuple ⟨rfl, rfl⟩)))) fun _ => pw_or1' (pb_cmp o_ne (pd_len (n_len gl) (pd_var 2) (.t _)) (PD.to (pd_len (n_len gl) (pd_var 1) (.t _)) (by rw [List.length_map])) ⟨_, _, .d _, .d _, pl_int _, pl_int _, by rw [eqv_int, decide_eq_false (by omega)]; rfl, rfl⟩))) (fun _ => ds_cons (d1_ret (PD.de pd_bl q))) (fun z => nomatch z))
end
end K13
end
section
set_option maxHeartbeats 4000000
namespace K13
open PySem PySem.Spec PyProof.Rows L2 B
/-! KP7: the law's own look at what is told; lists drawn. -/
section
variable {P : Program} {w : World} {K : PySem.W.Frag} {mg : Str → Option Value} {base : Heap}
def o_ilot : ON := fun gs M Q => ∃ (n : Nat) (v : PyData), gs = [.d (.int (n : Nat)), .d v] ∧ n ≤ 7 ∧ Wd v ∧ Q (.d (.bool (isLotD ((n : Nat) : Int) v))) M
theorem ok_ilot (gl : Gl K mg) : Fn P w K mg base 2 "_law_is_lot" o_ilot := by
  refine okf (d := d__law_is_lot) (N := ["many", "value", "thing", "one", "other"]) (ps := ["many", "value"]) gl (ixOf "_law_is_lot") (by kernel_rfl) (fun _ _ _ _ _ _ us hl => match us, hl with | [_, _], _ => rfl) (by decide +kernel) (fun gs M Q ⟨_, _, e, _⟩ => by rw [e]; rfl) (fun gs M Q ⟨n, v, e, hn, hw, q⟩ => ?_)
  subst e
  cases hv : isT v with
  | false =>
    have : isLotD ((n : Nat) : Int) v = false := by cases v <;> first | rfl | cases hv
    rw [this] at q
    exact ds_cons (d1_ifB (k := true) (PW'.pb (pw_or' (k := true) (l := true) (PB.to (pb_not (k := isT v) (pb_val (pd_callB o_isi (n_isinstance gl) rfl (.cons (pd_var 1) (.cons (pd_ty (n_tuple gl) rfl) .nil)) (oIsi_tuple ⟨rfl, rfl⟩)))) (by rw [hv]; rfl)) (fun z => nomatch z))) (fun _ => ds_cons (d1_ret (PD.de pd_bl q))) (fun z => nomatch z))
  | true =>
    obtain ⟨ds, rfl⟩ := isT_tuple hv
    have qe : isLotD ((n : Nat) : Int) (.tuple ds) = ((ds.all fun d => isIntIn d 0 ((n : Int) - 1)) && risD ds) := rfl
    refine ds_cons (d1_ifB (k := !(ds.all fun d => isIntIn d 0 ((n : Int) - 1))) (PW'.pb (pw_or' (k := false) (l := !(ds.all fun d => isIntIn d 0 ((n : Int) - 1))) (pb_not (k := true) (pb_val (pd_callB o_isi (n_isinstance gl) rfl (.cons (pd_var 1) (.cons (pd_ty (n_tuple gl) rfl) .nil)) (oIsi_tuple ⟨rfl, rfl⟩)))) fun _ => pw_or1' (pb_not (pb_val (pd_allc [("thing", 2)] B.G.d ds (fun d => isIntIn d 0 ((n : Int) - 1)) (n_all gl) (pit_tup (pd_var 1)) rfl (hw ds rfl) fun M' e d hd => dc_name 2 ⟨rfl, pd_call (ok__law_is_int gl) (.cons (pd_var 2) (.cons pd_int (.cons (pd_bin o_sub (pd_var 0) pd_int ⟨_, _, rfl, rfl, rfl, rfl⟩) .nil))) ⟨_, _, _, rfl, rfl, rfl⟩⟩))))) (fun h => ?_) (fun h => ds_nil ?_))
    · rw [Bool.not_eq_true'] at h
      rw [qe, h, Bool.false_and] at q
      exact ds_cons (d1_ret (PD.de pd_bl q))
    · rw [Bool.not_eq_false'] at h
      rw [qe, h, Bool.true_and] at q
      obtain ⟨l, e, _⟩ := ints_of_all h
      have hz := hw ds rfl
      subst e
      have ak := alkA_ints l (by rw [List.length_map] at hz; exact hz)
      refine ds_cons (d1_ret (PD.de (pd_allc [("one", 3), ("other", 4)] (fun p : PyData × PyData => G.d (.tuple [p.1, p.2])) ((l.map PyData.int).zip ((l.map PyData.int).drop 1)) (fun p => PySem.W.dataLt p.1 p.2) (n_all gl) (pit_zipT (n_zip gl) (pd_var 1) (pd_slT (pd_var 1) (.some pd_int) .none)) (by rw [cut_from1, zipG_eq]) (by rw [List.length_zip, List.length_drop]; exact Nat.le_trans (Nat.min_le_left _ _) hz) fun M' e p hp => ?_) q))
      obtain ⟨m1, m2⟩ := List.of_mem_zip hp
      have m2 := List.mem_of_mem_drop m2
      obtain ⟨h1, h2, h3⟩ := ak
      exact dc_tup (ds := [p.1, p.2]) (n := 2) (dcs_cons (dc_name 3 (dcs_cons (dc_name 4 (dcs_nil ⟨rfl, pd_cmp o_ltD (pd_var 3) (pd_var 4) ⟨_, _, .d _, .d _, (h1 _ m1).1, (h1 _ m2).1, h2 _ m1 _ m2, (h1 _ m1).2, rfl, rfl⟩⟩))))) rfl
def o_ldrawn : ON := fun gs M Q => ∃ (p : Addr) (l : List B.G) (c : Int) (n : Nat) (most : Int), gs = [.op (.ref p), .d (.int (n : Nat)), .d (.int most)] ∧ M p = some (.lst l) ∧ PotL l c ∧ c + 200 ≤ 1000000 ∧ n ≤ 6 ∧ 0 ≤ most ∧ most ≤ 6 ∧ ∀ (lists : List (List Int)) (l' : List B.G), (∀ w ∈ lists, LotN n w) → ((lists.length : Nat) : Int) ≤ most → PotL l' (c + 100) → Q (.d (lsT lists)) (put M p (.lst l'))
theorem ok_ldrawn (gl : Gl K mg) : Fn P w K mg base 3 "_law_lists_drawn" o_ldrawn := by
  refine okf (d := d__law_lists_drawn) (N := ["pot", "many", "most", "found", "person", "way", "lot", "thing"]) (ps := ["pot", "many", "most"]) gl (ixOf "_law_lists_drawn") (by kernel_rfl) (fun _ _ _ _ _ _ us hl => match us, hl with | [_, _, _], _ => rfl) (by decide +kernel) (fun gs M Q ⟨_, _, _, _, _, e, _⟩ => by rw [e]; rfl) (fun gs M Q ⟨p, l, c, n, most, e, hp, hl, hc, hn, hm0, hm, q⟩ => ?_)
  subst e
  refine ds_cons (d1_set 3 (de_listM (da_nil ⟨Nat.le_of_ble_eq_true rfl, fun b hb => ?_⟩)))
  have hpb : p ≠ b := ne_free hp hb
  refine ds_cons (d1_for (di_range1 (n_range gl) (de_call (ok_take gl) (da_cons (PD.de (pd_var 0) (da_cons (PD.de (pd_bin o_add (pd_var 2) pd_int ⟨_, _, rfl, rfl, rfl, rfl⟩) (da_nil ⟨p, l, c, most + 1, rfl, by rw [put_ne hpb]; exact hp, hl, by omega, by omega, by omega, fun k l3 hk0 hk1 hl3 => ?_⟩))))))))
  rw [put_comm (Ne.symm hpb)]
  refine ⟨k, rfl, by omega, by omega, fun i ρ M' => ∃ (l' : List B.G) (ls : List (List Int)) (x4 x5 x6 : Option B.G), M' = put (put M p (.lst l')) b (.lst ((ls.map lotD).map B.G.d)) ∧ PotL l' (c + 1 + 8 * i) ∧ ls.length = i ∧ (∀ w ∈ ls, LotN n w) ∧
    ρ = [some (.op (.ref p)), some (.d (.int (n : Nat))), some (.d (.int most)), some (.op (.ref b)), x4, x5, x6, none], ⟨l3, [], _, _, _, rfl, hl3.up (by omega), rfl, (fun _ h => nomatch h), rfl⟩, fun _ _ _ _ _ => trivial, ?_, ?_⟩
  · rintro i g ρ M' eg ⟨l', ls, x4, x5, x6, rfl, hl', hls, hln, rfl⟩
    obtain ⟨hi, rfl⟩ := rangeG_get eg
    have hi6 : i < 6 := by omega
    have fb : ∀ o, put (put M p o) b (.lst ((ls.map lotD).map B.G.d)) b = some (.lst ((ls.map lotD).map B.G.d)) := fun o => put_same
    refine dg_name 4 (ds_cons (d1_set 5 (de_call (ok_take gl) (da_cons (PD.de (pd_var 0) (da_cons (PD.de pd_int (da_nil ⟨p, l', c + 1 + 8 * i, 4, rfl, by rw [put_ne hpb]; exact put_same, hl', by omega, by omega, by omega, fun way l4 hw0 hw1 hl4 => ?_⟩))))))))
    rw [put_put_ne hpb]
    refine ds_cons (d1_set 6 (de_callT o_tuple (n_tuple gl) rfl (da_cons (de_lc (own := [("thing", 7)]) (lcP_effT (fun j l => PotL l (c + 2 + 8 * i + j)) (fun j : Nat => .int (0 + (j : Nat))) p l4 (fun i : Nat => B.G.d (.int (0 + (i : Nat)))) (List.range (((n : Nat) : Int)).toNat) (by rw [put_ne hpb]; exact put_same) (hl4.up (by omega)) (pitx_range1 (n_range gl) (pd_var 1) ⟨by omega, by omega⟩) rfl ?_ ?_ ?_) (blkOk_by (by kernel_rfl))))))
    · rw [List.length_range]; show _ ≤ 16777216; omega
    · intro j M2 l6 hj _ hp6 hS6 x2 ex2
      rw [List.length_range] at hj
      exact dc_name 7 ⟨rfl, dt_cmp o_eq (de_call (ok_take gl) (da_cons (PD.de (pd_var 0) (da_cons (PD.de pd_int (da_nil ⟨p, l6, c + 2 + 8 * i + j, 2, rfl, hp6, hS6, by omega, by omega, by omega, fun d l7 hd0 hd1 hl7 => PD.de pd_int ⟨_, _, .d _, .d _, pl_int _, pl_int _, _, rfl, l7, hl7.up (by omega), rfl, pd_var 7⟩⟩))))))⟩
    · intro ys l6 hys hS6
      rw [List.length_range, Int.toNat_natCast] at hS6
      have hS6 := hS6.up (d := c + 8 + 8 * i) (by omega)
      obtain ⟨lot, elot⟩ : ∃ lot : List Int, ys.map (fun j : Nat => 0 + ((j : Nat) : Int)) = lot := ⟨_, rfl⟩
      have hlot : LotN n lot := by
        have hmem : ∀ t ∈ lot, 0 ≤ t ∧ t < (n : Int) := fun t ht => by
          rw [← elot] at ht
          obtain ⟨j, hj, rfl⟩ := List.mem_map.mp ht
          have := List.mem_range.mp (hys.mem hj)
          omega
        have hpw : lot.Pairwise (· < ·) := by
          rw [← elot]
          exact List.pairwise_map.mpr ((List.pairwise_lt_range.sublist hys).imp fun h => by omega)
        refine ⟨L6_of hpw (fun t ht => ⟨(hmem t ht).1, Int.lt_of_lt_of_le (hmem t ht).2 (by omega)⟩), fun t ht => (hmem t ht).2⟩
      have etup : (ys.map fun j : Nat => PyData.int (0 + (j : Nat))) = lot.map PyData.int := by
        rw [← elot, List.map_map]
        rfl
      have h7 := F_len lot hlot.1
      have cut : LotN n (lot.take 2) := ⟨by
        have := L6_pw lot hlot.1
        exact L6_of (this.1.sublist (List.take_sublist _ _)) (fun t ht => this.2 t (List.mem_of_mem_take ht)), fun t ht => hlot.2 t (List.mem_of_mem_take ht)⟩
      have app : ∀ (v : List Int) (l7 : List B.G), LotN n v → PotL l7 (c + 9 + 8 * i) → ∃ (l' : List B.G) (ls' : List (List Int)) (x4 x5 x6 : Option B.G), put (put (put M p (.lst l7)) b (.lst ((ls.map lotD).map B.G.d))) b (.lst ((ls.map lotD).map B.G.d ++ [B.G.d (lotD v)])) = put (put M p (.lst l')) b (.lst ((ls'.map lotD).map B.G.d)) ∧ PotL l' (c + 1 + 8 * (i + 1)) ∧ ls'.length = i + 1 ∧ (∀ w ∈ ls', LotN n w) ∧ [some (.op (.ref p)), some (.d (.int (n : Nat))), some (.d (.int most)), some (.op (.ref b)), some (.d (.int (0 + ((i : Nat) : Int)))), some (.d (.int way)), some (.d (lotD lot)), none] = [some (.op (.ref p)), some (.d (.int (n : Nat))), some (.d (.int most)), some (.op (.ref b)), x4, x5, x6, none] := fun v l7 hv hl7 => by
        refine ⟨l7, ls ++ [v], _, _, _, ?_, hl7.up (by omega), by rw [List.length_append, hls]; rfl, fun w hw => ?_, rfl⟩
        · rw [put_put, List.map_append, List.map_append]
          rfl
        · rcases List.mem_append.mp hw with hw | hw
          · exact hln w hw
          · rw [List.mem_singleton.mp hw]; exact hv
      have hsz : ((ls.map lotD).map B.G.d).length < sizeLine := by rw [List.length_map, List.length_map]; show _ < 16777216; omega
      rw [put_put_ne hpb]
      refine .frz (da_nil ⟨_, lot.map PyData.int, rfl, by rw [etup]; exact .l (.d _), ?_⟩)
      refine ds_cons (d1_expr (de_append (PD.de (pd_var 3) ⟨b, _, rfl, put_same, de_ifB (k := decide (way = 0) && !ls.isEmpty) (pb_and (pb_cmp o_eq (pd_var 5) pd_int ⟨_, _, .d _, .d _, pl_int _, pl_int _, by rw [eqv_int], rfl⟩) (pb_cmp o_ne (pd_var 3) (pd_list (ds := []) .nil) ⟨_, _, .l put_same, .d _, pl_lotsL ls, ⟨by rw [PyData.plain]; rfl, by rw [PyData.depth, PyData.depthAll]; omega⟩, by rw [eqv_nilL], rfl⟩)) (fun hk => ?_) (fun hk => ?_)⟩)))
      · rw [Bool.and_eq_true] at hk
        have hne : ls ≠ [] := by
          intro z
          rw [z] at hk
          exact absurd hk.2 (by decide)
        refine de_call (ok_of gl) (da_cons (PD.de (pd_var 0) (da_cons (PD.de (pd_var 3) (da_nil ⟨p, l6, c + 8 + 8 * i, .op (.ref b), ls.map lotD, rfl, .l (.l put_same), by simpa using hne, by rw [List.length_map]; omega, by rw [put_ne hpb]; exact put_same, hS6, by omega, fun l9 => .l (.l (by rw [put_ne (Ne.symm hpb)]; exact put_same)), fun d hd l9 hl9 => ?_⟩)))))
        obtain ⟨v, hv, rfl⟩ := List.mem_map.mp hd
        rw [put_put_ne hpb]
        exact ⟨_, put_same, hsz, ds_nil (app v l9 (hln v hv) (hl9.up (by omega)))⟩
      · refine de_ifB (k := decide (way = 1)) (pb_cmp o_eq (pd_var 5) pd_int ⟨_, _, .d _, .d _, pl_int _, pl_int _, by rw [eqv_int], rfl⟩) (fun _ => PD.de (g := .d (lotD (lot.take 2))) (PD.to (pd_slT (ds := lot.map PyData.int) (pd_var 6) .none (.some pd_int)) ?_) ⟨_, put_same, hsz, ds_nil (app _ l6 cut (hS6.up (by omega)))⟩) (fun _ => PD.de (pd_var 6) ⟨_, put_same, hsz, ds_nil (app lot l6 hlot (hS6.up (by omega)))⟩)
        have := cut_to (lot.map PyData.int) 2
        rw [show (some ((2 : Nat) : Int)) = (some (2 : Int)) from rfl] at this
        rw [this]
        unfold lotD
        rw [List.map_take]
  · rintro ρ M' ⟨l', ls, x4, x5, x6, rfl, hl', hls, hln, rfl⟩
    rw [rangeG_length] at hl' hls
    have hb1 : put M p (.lst l') b = none := by rw [put_ne (Ne.symm hpb)]; exact hb
    refine ds_cons (d1_ret (de_drop (de_callT o_tuple (n_tuple gl) rfl (da_cons (PD.de (pd_var 3) (da_nil ⟨_, ls.map lotD, rfl, .l (.l put_same), put M p (.lst l'), fun a o e => ?_, q ls l' hln (by omega) (hl'.up (by omega))⟩))))))
    rw [put_ne (fun z => by rw [z, hb1] at e; cases e)]
    exact e
end
end K13
end
section
set_option maxHeartbeats 4000000
namespace K13
open PySem PySem.Spec PyProof.Rows L2 B
/-! KP8: the law's own going person by person. -/
theorem dictT_lots (es : List (List Int)) : ∃ L : List (List Int), (dictT [] es).map (·.1) = L.map keyI ∧ L.Nodup ∧ ∀ X, X ∈ L ↔ X ∈ es := by
  have hk : ∀ k ∈ (dictT [] es).map (·.1), ∃ l, k = keyI l := fun k hk => by
    obtain ⟨l, _, e⟩ := dictT_mem.mp hk
    exact ⟨l, e.symm⟩
  have key : ∀ ks : List (List L2.Key), (∀ k ∈ ks, ∃ l, k = keyI l) → ∃ L : List (List Int), ks = L.map keyI := fun ks => by
    induction ks with
    | nil => exact fun _ => ⟨[], rfl⟩
    | cons k r ih =>
      intro h
      obtain ⟨L, e⟩ := ih fun x hx => h x (List.mem_cons_of_mem _ hx)
      obtain ⟨l, e2⟩ := h k List.mem_cons_self
      exact ⟨l :: L, by rw [List.map_cons, ← e, e2]⟩
  obtain ⟨L, e⟩ := key _ hk
  have nd := dictT_nd es [] .nil
  rw [e] at nd
  refine ⟨L, e, ((List.pairwise_map.mp nd).imp fun h e => h (congrArg keyI e)), fun X => ?_⟩
  have h1 : keyI X ∈ (dictT [] es).map (·.1) ↔ X ∈ es := by
    rw [dictT_mem]
    exact ⟨fun ⟨l, hl, e⟩ => keyI_inj e ▸ hl, fun h => ⟨X, h, rfl⟩⟩
  rw [← h1, e, List.mem_map]
  exact ⟨fun h => ⟨X, h, rfl⟩, fun ⟨l, hl, e⟩ => keyI_inj e ▸ hl⟩
/-- what is made of some lots by a list -/
def nextK (ls : List (List Int)) (w : List Int) (K : List (List Int)) (X : List Int) : Prop := ∃ Y t, Y ∈ K ∧ t ∈ w ∧ t ∉ Y ∧ X = ins Y t ∧ freeB ls X = true
theorem next6 {ls : List (List Int)} {w : List Int} {K : List (List Int)} {X : List Int} (hK : ∀ Y ∈ K, Y ∈ L6) (hw : w ∈ L6) (h : nextK ls w K X) : X ∈ L6 := by
  obtain ⟨Y, t, hY, ht, _, rfl, _⟩ := h
  exact (F_ins Y (hK Y hY) t (F_mem w hw t ht)).2
theorem dict_small {es : List (List Int)} (h : ∀ X ∈ es, X ∈ L6) : (dictT [] es).length ≤ 64 := by
  obtain ⟨L', hk, nd, hm⟩ := dictT_lots es
  have h1 := congrArg List.length hk
  rw [List.length_map, List.length_map] at h1
  have : L'.length ≤ L6.length := nd.length_le_of_subset fun X hX => h X ((hm X).mp hX)
  have h2 : L6.length = 64 := by decide +kernel
  omega
section
variable {P : Program} {w : World} {K : PySem.W.Frag} {mg : Str → Option Value} {base : Heap}
def o_lcan : ON := fun gs M Q => ∃ (n : Nat) (ls lists : List (List Int)) (gl0 : B.G), gs = [.d (heapD (n : Nat) ls), gl0] ∧ SeqD gl0 (lists.map lotD) ∧ ChL n ls lists ∧ lists.length ≤ 6 ∧ Q (.d (.bool (!(keysAt (freeB ls) false lists).isEmpty))) M
abbrev NCan : List Str := ["choice", "lists", "lots", "wished", "later", "lot", "thing", "more"]
theorem ok_lcan (gl : Gl K mg) : Fn P w K mg base 3 "_law_can_have" o_lcan := by
  refine okf (d := d__law_can_have) (N := NCan) (ps := ["choice", "lists"]) gl (ixOf "_law_can_have") (by kernel_rfl) (fun _ _ _ _ _ _ us hl => match us, hl with | [_, _], _ => rfl) (by decide +kernel) (fun gs M Q ⟨_, _, _, _, e, _⟩ => by rw [e]; rfl) (fun gs M Q ⟨n, ls, lists, gl0, e, hg, h, hl, q⟩ => ?_)
  subst e
  have hn : n ≤ 6 := h.ch.hi
  have fu := h.fu
  have h6 := h.l6
  refine ds_cons (d1_set 2 (PD.de (pd_list (ds := [lotD []]) (da1 (pd_tup (ds := []) .nil))) ?_))
  refine ds_cons (d1_for (di_seqD (PD.de (pd_var 1) ⟨rfl, rfl⟩) hg fun C hC => ⟨fun i ρ M' => ∃ (L : List (List Int)) (x3 x4 x5 x6 x7 : Option B.G), M' = M ∧ (∀ X, X ∈ L ↔ X ∈ keysAt (freeB ls) false (lists.take i)) ∧ (∀ X ∈ L, X ∈ L6) ∧ L.length ≤ 64 ∧ ρ = [some (.d (heapD (n : Nat) ls)), some gl0, some (.d (.list (L.map lotD))), x3, x4, x5, x6, x7], ⟨[[]], _, _, _, _, _, rfl, fun X => by rw [List.take_zero]; exact Iff.rfl, fun X hX => by rw [List.mem_singleton.mp hX]; decide +kernel, by decide, rfl⟩, fun _ _ _ _ _ => hC _, ?_, ?_⟩))
  · rintro i g0 ρ M' eg ⟨L, x3, x4, x5, x6, x7, rfl, hL, hL6, hLz, rfl⟩
    rw [List.getElem?_map, List.getElem?_map] at eg
    cases et : lists[i]? with
    | none => rw [et] at eg; cases eg
    | some v =>
    rw [et] at eg
    cases eg
    have v6 := h6 v (List.mem_of_getElem? et)
    refine dg_name 3 (ds_cons (d1_set 4 (de_emptyT fun D hD => ?_)))
    have ext : ∀ es, Ext M' (put M' D (.raw (.dT (dictT [] es)))) := fun es => Ext.put hD
    refine ds_cons (d1_for (di_list (PD.de (pd_var 2) ⟨L.map lotD, .d _, fun j ρ M2 => ∃ (es : List (List Int)) (y5 y6 y7 : Option B.G), M2 = put M' D (.raw (.dT (dictT [] es))) ∧ (∀ X, X ∈ es ↔ nextK ls v (L.take j) X) ∧ ρ = [some (.d (heapD (n : Nat) ls)), some gl0, some (.d (.list (L.map lotD))), some (.d (lotD v)), some (.op (.ref D)), y5, y6, y7], ⟨[], _, _, _, rfl, fun X => ⟨fun z => (nomatch z), fun ⟨Y, t, hY, _⟩ => by rw [List.take_zero] at hY; cases hY⟩, rfl⟩, fun _ _ _ _ _ => .d _, ?_, ?_⟩)))
    · rintro j g1 ρ M2 eg ⟨es, y5, y6, y7, rfl, hes, rfl⟩
      rw [List.getElem?_map, List.getElem?_map] at eg
      cases eY : L[j]? with
      | none => rw [eY] at eg; cases eg
      | some Y =>
      rw [eY] at eg
      cases eg
      have Y6 := hL6 Y (List.mem_of_getElem? eY)
      have hYz := F_len Y Y6
      refine dg_name 5 (ds_cons (d1_for (di_tup (PD.de (pd_var 3) ⟨v.map PyData.int, rfl, fun k ρ M3 => ∃ (es : List (List Int)) (z6 z7 : Option B.G), M3 = put M' D (.raw (.dT (dictT [] es))) ∧ (∀ X, X ∈ es ↔ nextK ls v (L.take j) X ∨ nextK ls (v.take k) [Y] X) ∧ ρ = [some (.d (heapD (n : Nat) ls)), some gl0, some (.d (.list (L.map lotD))), some (.d (lotD v)), some (.op (.ref D)), some (.d (lotD Y)), z6, z7], ⟨es, _, _, rfl, fun X => ?_, rfl⟩, fun _ _ _ _ _ => trivial, ?_, ?_⟩))))
      · rw [hes X]
        refine ⟨.inl, fun z => z.elim id fun ⟨_, t, _, ht, _⟩ => ?_⟩
        rw [List.take_zero] at ht
        cases ht
      · rintro k g2 ρ M3 eg ⟨es, z6, z7, rfl, hes, rfl⟩
        rw [List.getElem?_map, List.getElem?_map] at eg
        cases etk : v[k]? with
        | none => rw [etk] at eg; cases eg
        | some t =>
        rw [etk] at eg
        cases eg
        have htv := List.mem_of_getElem? etk
        have t6 := F_mem v v6 t htv
        have htk : v.take (k + 1) = v.take k ++ [t] := by rw [List.take_add_one, etk]; rfl
        obtain ⟨us, hp, hus⟩ := B.perm_map_of (f := PyData.int) (L := Y ++ [t]) (List.mergeSort_perm ((Y ++ [t]).map PyData.int) leD) rfl
        have hus : sortD ((Y ++ [t]).map PyData.int) = us.map PyData.int := hus
        have hul : us.length ≤ 7 := by rw [hp.length_eq, List.length_append]; show _ + 1 ≤ 7; omega
        have esm : ∀ es2 : List (List Int), (∀ X, X ∈ es2 ↔ X ∈ es ∨ (X = ins Y t ∧ t ∉ Y ∧ freeB ls X = true)) → ∀ X, X ∈ es2 ↔ nextK ls v (L.take j) X ∨ nextK ls (v.take (k + 1)) [Y] X := fun es2 h2 X => by
          rw [h2, hes, htk]
          constructor
          · rintro ((h | ⟨Y', t', h1, h2, h3⟩) | ⟨h1, h2, h3⟩)
            · exact .inl h
            · exact .inr ⟨Y', t', h1, List.mem_append_left _ h2, h3⟩
            · exact .inr ⟨Y, t, by simp, by simp, h2, h1, h3⟩
          · rintro (h | ⟨Y', t', h1, h2, h3, h4, h5⟩)
            · exact .inl (.inl h)
            · rcases List.mem_append.mp h2 with h2 | h2
              · exact .inl (.inr ⟨Y', t', h1, h2, h3, h4, h5⟩)
              · rw [List.mem_singleton.mp h1] at h3 h4
                rw [List.mem_singleton.mp h2] at h3 h4
                exact .inr ⟨h4, h3, h5⟩
        refine dg_name 6 (ds_cons (d1_set 7 (de_callT o_tuple (n_tuple gl) rfl (da_cons (de_callB o_sorted (n_sorted gl) rfl (da_cons (PD.de (PD.to (pd_bin o_catT (pd_var 5) (pd_tup (ds := [.int t]) (da1 (pd_var 6))) ⟨Y.map PyData.int, [.int t], rfl, rfl, by rw [List.length_map]; show _ + 1 ≤ 16777216; omega, rfl, rfl⟩) (show _ = B.G.d (.tuple ((Y ++ [t]).map PyData.int)) by rw [List.map_append]; rfl)) (da_nil ⟨_, (Y ++ [t]).map PyData.int, rfl, .t _, canSort_ints _, by rw [List.length_map, List.length_append]; show _ + 1 ≤ 16777216; omega, .frz (da_nil ⟨_, us.map PyData.int, rfl, by rw [hus]; exact .l (.d _), ?_⟩)⟩))))))))
        have es6 : ∀ X ∈ es, X ∈ L6 := fun X hX => ((hes X).mp hX).elim (next6 (fun Z hZ => hL6 Z (List.mem_of_mem_take hZ)) v6) (next6 (fun Z hZ => by rw [List.mem_singleton.mp hZ]; exact Y6) v6 ∘ fun ⟨Y', t', h1, h2, h3⟩ => ⟨Y', t', h1, List.mem_of_mem_take h2, h3⟩)
        refine ds_cons (d1_ifB (k := !Y.contains t && freeB ls us) (pb_and (PB.to (pb_cmp o_notIn (pd_var 6) (pd_var 5) ⟨_, Y.map PyData.int, .d _, .t _, pl_int _, plA_ints Y, rfl, rfl⟩) (by rw [isIn_ints]; rfl)) (pb_val (pd_call (ok_lfree gl) (.cons (pd_var 0) (da1 (pd_var 7))) ⟨_, ls, us, rfl, fu.ne, fu.len, by omega, rfl, rfl⟩))) (fun hk => ?_) (fun hk => ds_nil (ds_nil ⟨es, _, _, rfl, esm es fun X => ⟨.inl, fun z => z.elim id fun ⟨h1, h2, h3⟩ => ?_⟩, rfl⟩)))
        · rw [Bool.and_eq_true, Bool.not_eq_true'] at hk
          have hn2 : t ∉ Y := fun z => by rw [List.contains_iff_mem.mpr z] at hk; exact absurd hk.1 (by decide)
          have eu : us = ins Y t := by
            have h1 := ins_sorted Y6 t6 hn2
            rw [show Y.map PyData.int ++ [.int t] = (Y ++ [t]).map PyData.int by rw [List.map_append]; rfl, hus] at h1
            exact lotD_inj (congrArg PyData.tuple h1)
          rw [eu] at hk ⊢
          refine ds_cons (d1_dputT (PD.de pd_bl ⟨rfl, PD.de (pd_var 4) (PD.de (pd_var 7) ⟨D, _, ins Y t, rfl, put_same, rfl, Nat.lt_of_le_of_lt (dict_small es6) (by show _ < 16777216; omega), ds_nil (ds_nil ⟨es ++ [ins Y t], _, _, ?_, esm _ fun X => ?_, rfl⟩)⟩)⟩))
          · rw [put_put, dictT_snoc]
          · rw [List.mem_append, List.mem_singleton]
            exact ⟨fun z => z.imp id fun e => ⟨e, hn2, by rw [e]; exact hk.2⟩, fun z => z.imp id fun e => e.1⟩
        · rw [h1] at h3
          have eu : us = ins Y t := by
            have h1 := ins_sorted Y6 t6 h2
            rw [show Y.map PyData.int ++ [.int t] = (Y ++ [t]).map PyData.int by rw [List.map_append]; rfl, hus] at h1
            exact lotD_inj (congrArg PyData.tuple h1)
          rw [eu, h3, Bool.and_true, Bool.not_eq_false', List.contains_iff_mem] at hk
          exact absurd hk h2
      · rintro ρ M3 ⟨es, z6, z7, rfl, hes, rfl⟩
        rw [List.length_map, List.length_map, List.take_length] at hes
        have hjt : L.take (j + 1) = L.take j ++ [Y] := by rw [List.take_add_one, eY]; rfl
        refine ds_nil ⟨es, _, _, _, rfl, fun X => ?_, rfl⟩
        rw [hes, hjt]
        constructor
        · rintro (⟨Y', t', h1, h2⟩ | ⟨Y', t', h1, h2⟩)
          · exact ⟨Y', t', List.mem_append_left _ h1, h2⟩
          · exact ⟨Y', t', List.mem_append_right _ h1, h2⟩
        · rintro ⟨Y', t', h1, h2⟩
          rcases List.mem_append.mp h1 with h1 | h1
          · exact .inl ⟨Y', t', h1, h2⟩
          · exact .inr ⟨Y', t', h1, h2⟩
    · rintro ρ M2 ⟨es, y5, y6, y7, rfl, hes, rfl⟩
      rw [List.length_map, List.length_map, List.take_length] at hes
      have es6 : ∀ X ∈ es, X ∈ L6 := fun X hX => next6 hL6 v6 ((hes X).mp hX)
      obtain ⟨L', hk', nd', hm'⟩ := dictT_lots es
      have hz' : L'.length ≤ 64 := nd'.length_le_of_subset fun X hX => es6 X ((hm' X).mp hX)
      refine ds_cons (d1_set 2 (de_callB o_sortT (n_sorted gl) rfl (da_cons (PD.de (pd_var 4) (da_nil ⟨D, dictT [] es, L', rfl, put_same, hk', canSort_any L', by omega, .frz ?_⟩)))))
      rw [show L'.map tupI = L'.map lotD from rfl, sortD_lots fun l hl => es6 l ((hm' l).mp hl)]
      refine ds_drop (ext es) (ds_nil ⟨sortLots L', _, _, _, _, _, rfl, fun X => ?_, fun X hX => es6 X ((hm' X).mp ((sortLots_perm L').mem_iff.mp hX)), by rw [(sortLots_perm L').length_eq]; exact hz', rfl⟩)
      rw [(sortLots_perm L').mem_iff, hm', hes, List.take_add_one, et, show (some v).toList = [v] from rfl, keysAt_snoc, layN_iff]
      constructor
      · rintro ⟨Y, t, h1, h2, h3, h4, h5⟩
        exact .inr ⟨Y, t, (hL Y).mp h1, h2, h3, h4, h5⟩
      · rintro (⟨h, _⟩ | ⟨Y, t, h1, h2, h3, h4, h5⟩)
        · cases h
        · exact ⟨Y, t, (hL Y).mpr h1, h2, h3, h4, h5⟩
  · rintro ρ M' ⟨L, x3, x4, x5, x6, x7, rfl, hL, hL6, hLz, rfl⟩
    rw [List.length_map, List.length_map, List.take_length] at hL
    have : L.isEmpty = (keysAt (freeB ls) false lists).isEmpty := by
      rw [Bool.eq_iff_iff, List.isEmpty_iff, List.isEmpty_iff, List.eq_nil_iff_forall_not_mem, List.eq_nil_iff_forall_not_mem]
      exact ⟨fun z X hX => z X ((hL X).mpr hX), fun z X hX => z X ((hL X).mp hX)⟩
    rw [← this] at q
    exact ds_cons (d1_ret (PD.de (pd_cmp o_ne (pd_var 2) (pd_list (ds := []) .nil) ⟨_, _, .d _, .d _, pl_lotsL L, ⟨by rw [PyData.plain]; rfl, by rw [PyData.depth, PyData.depthAll]; omega⟩, by rw [eqv_nilL], rfl⟩) q))
end
end K13
end
section
set_option maxHeartbeats 4000000
namespace K13
open PySem PySem.Spec PyProof.Rows L2 B
/-! EV2: values of any kind, drawn. -/
theorem eqv_tnil (ds : List PyData) : PyData.eqv (.tuple ds) (.tuple []) = ds.isEmpty := by cases ds <;> rfl
theorem cut_len (ds : List PyData) (l h : Option Int) : (B.cutD ds l h).length ≤ ds.length := by
  unfold B.cutD
  rw [List.length_take, List.length_drop]
  omega
section
variable {P : Program} {w : World} {K : PySem.W.Frag} {mg : Str → Option Value} {base : Heap}
def o_odd : ON := fun gs M Q => ∃ p l c, gs = [.op (.ref p)] ∧ M p = some (.lst l) ∧ PotL l c ∧ c ≤ 1000000 ∧ ∀ d l', d ∈ oddL → PotL l' (c + 1) → Q (.d d) (put M p (.lst l'))
theorem ok_odd (gl : Gl K mg) : Fn P w K mg base 3 "_law_odd" o_odd := by
  refine okf (d := d__law_odd) (N := ["pot", "some"]) (ps := ["pot"]) gl 27 rfl (fun _ _ _ _ _ _ us hl => match us, hl with | [_], _ => rfl) (by decide +kernel) (fun gs M Q ⟨_, _, _, e, _⟩ => by rw [e]; rfl) (fun gs M Q ⟨p, l, c, e, hp, hl, hc, q⟩ => ?_)
  subst e
  refine ds_cons (d1_set 1 (PD.de (pd_list (ds := odd1) ?_) ?_))
  · repeat' first
      | exact .nil
      | refine .cons ?_ ?_
      | exact pd_non
      | exact pd_bl
      | exact pd_int
      | exact pd_str
      | exact pd_dict0
      | exact pd_un o_neg pd_int ⟨_, rfl, rfl, rfl⟩
      | exact pd_bin o_pow pd_int pd_int ⟨_, _, rfl, rfl, ⟨by omega, by omega, by decide⟩, rfl, rfl⟩
      | refine pd_tup ?_
      | refine pd_list ?_
  refine ds_cons (d1_set 1 (PD.de (pd_bin (z := .d (.list (odd1 ++ odd2))) o_catL (pd_var 1) (pd_list (ds := odd2) ?_) ⟨_, _, .d _, .d _, by decide, .frz ⟨rfl, rfl⟩⟩) ?_))
  · repeat' first
      | exact .nil
      | refine .cons ?_ ?_
      | exact pd_non
      | exact pd_bl
      | exact pd_int
      | exact pd_str
      | exact pd_dict1
      | refine pd_tup ?_
  refine ds_cons (d1_set 1 (PD.de (pd_bin (z := .d (.list (odd1 ++ odd2 ++ odd3))) o_catL (pd_var 1) (pd_list (ds := odd3) ?_) ⟨_, _, .d _, .d _, by decide, .frz ⟨rfl, rfl⟩⟩) ?_))
  · repeat' first
      | exact .nil
      | refine .cons ?_ ?_
      | exact pd_int
      | exact pd_str
      | refine pd_tup ?_
  refine ds_cons (d1_ret (de_call (ok_of gl) (da_cons (PD.de (pd_var 0) (da_cons (PD.de (pd_var 1) (da_nil ⟨p, l, c, _, odd1 ++ odd2 ++ odd3, rfl, .l (.d _), (fun z => nomatch z), by decide, hp, hl, hc, fun _ => .l (.d _), fun d hd l' hl' => q d l' hd hl'⟩)))))))
end
end K13
end
section
set_option maxHeartbeats 4000000
namespace K13
open PySem PySem.Spec PyProof.Rows L2 B
/-! F16: the parts of a choice. -/
theorem mem_lotsOf {n : Nat} (hn : n ≤ 6) {l : List Int} : l ∈ lotsOf (n : Nat) ↔ LotN n l :=
  ⟨fun h => (F_lots n (by rw [List.mem_range]; omega)).1 l h, fun h => F_lotsIn n (by rw [List.mem_range]; omega) l h.1 h.2⟩
end K13
end
section
set_option maxHeartbeats 4000000
namespace K13
open PySem PySem.Spec PyProof.Rows L2 B
/-! KP9: what is told, with one thing otherwise; what had tells is right (plain). -/
theorem cut_mem {ds : List PyData} {l h : Option Int} {x : PyData} (hx : x ∈ B.cutD ds l h) : x ∈ ds := by
  unfold B.cutD at hx
  exact List.mem_of_mem_drop (List.mem_of_mem_take hx)
theorem v28_of {ds : List PyData} (h : ∀ x ∈ ds, Wd x) : VV (.tuple ds) := fun es e => by
  cases e
  exact h
theorem v28_no {d : PyData} (h : isT d = false) : VV d := fun es e => by
  rw [e] at h
  cases h
def v28B : PyData → Bool
  | .tuple ds => ds.all fun x => match x with | .tuple es => decide (es.length ≤ 1000) | _ => true
  | _ => true
theorem v28B_ok {d : PyData} (h : v28B d = true) : VV d := fun ds e x hx es e2 => by
  subst e
  have := List.all_eq_true.mp h x hx
  subst e2
  have h2 := of_decide_eq_true this
  show _ ≤ 16777216
  omega
theorem F_odd28 : (oddL.all v28B) = true := by decide +kernel
theorem odd_v28 {d : PyData} (h : d ∈ oddL) : VV d := v28B_ok (List.all_eq_true.mp F_odd28 d h)
theorem zeros_is (x : PyData) : ∀ n : Nat, (List.replicate n [x]).flatten = List.replicate n x
  | 0 => rfl
  | n + 1 => by rw [List.replicate_succ, List.replicate_succ, List.flatten_cons, zeros_is x n]; rfl
end K13
end
section
set_option maxHeartbeats 4000000
namespace K13
open PySem PySem.Spec PyProof.Rows L2 B
/-! EH3: as many persons as can be (plain). -/
section
variable {fr : List Int → Bool}
theorem way_sub : ∀ {ws : List (List Int)} {gs : List (Option Int)} {X : List Int}, Way fr true ws gs X → ∃ (vs : List (List Int)) (hs : List (Option Int)), vs.Sublist ws ∧ Way fr false vs hs X
  | [], [], X, h => ⟨[], [], .slnil, h⟩
  | [], _ :: _, X, h => h.elim
  | w :: ws, [], X, h => h.elim
  | w :: ws, none :: gs, X, h => by
    obtain ⟨vs, hs, s, k⟩ := way_sub h.2
    exact ⟨vs, hs, s.cons _, k⟩
  | w :: ws, some t :: gs, X, h => by
    obtain ⟨Y, hY, h2, h3, h4, h5⟩ := h
    obtain ⟨vs, hs, s, k⟩ := way_sub hY
    exact ⟨w :: vs, some t :: hs, s.cons₂ _, Y, k, h2, h3, h4, h5⟩
theorem way_up {vs ws : List (List Int)} (s : vs.Sublist ws) : ∀ {hs : List (Option Int)} {X : List Int}, Way fr false vs hs X → ∃ gs, Way fr true ws gs X := by
  induction s with
  | slnil =>
    intro hs X h
    match hs, h with
    | [], h => exact ⟨[], h⟩
  | cons w s ih =>
    intro hs X h
    obtain ⟨gs, k⟩ := ih h
    exact ⟨none :: gs, rfl, k⟩
  | cons_cons w s ih =>
    intro hs X h
    match hs, h with
    | none :: _, h => exact absurd h.1 (by decide)
    | some t :: hs, ⟨Y, hY, h2, h3, h4, h5⟩ =>
      obtain ⟨gs, k⟩ := ih hY
      exact ⟨some t :: gs, Y, k, h2, h3, h4, h5⟩
theorem key_way {left : Bool} {lists : List (List Int)} {X : List Int} : X ∈ keysAt fr left lists ↔ ∃ gs, Way fr left lists.reverse gs X := by
  constructor
  · intro h
    exact ⟨_, back_way (by rw [List.reverse_reverse]; exact h)⟩
  · rintro ⟨gs, h⟩
    have := way_key h
    rwa [List.reverse_reverse] at this
theorem key_len {lists : List (List Int)} {X : List Int} (h6 : ∀ w ∈ lists, w ∈ L6) (h : X ∈ keysAt fr false lists) : X.length = lists.length := by
  obtain ⟨gs, hw⟩ := key_way.mp h
  obtain ⟨x6, hm, nd, _⟩ := way_lot (fun w hw => h6 w (List.mem_reverse.mp hw)) hw
  have hl := back_len hw
  have hno := way_none hw
  have e : ∀ gs : List (Option Int), none ∉ gs → (gs.filterMap id).length = gs.length := fun gs => by
    induction gs with
    | nil => intro _; rfl
    | cons o r ih =>
      intro h
      cases o with
      | none => exact absurd List.mem_cons_self h
      | some t => rw [List.filterMap_cons, List.length_cons, ← ih fun z => h (List.mem_cons_of_mem _ z)]; rfl
  have e1 := e gs hno
  have hmm : ∀ t, t ∈ X ↔ t ∈ gs.filterMap id := fun t => by
    rw [hm, List.mem_filterMap]
    exact ⟨fun z => ⟨some t, z, rfl⟩, fun ⟨o, ho, e⟩ => by have e : o = some t := e; rw [← e]; exact ho⟩
  have a1 := incl_len (nd6 x6) fun t ht => (hmm t).mp ht
  have a2 := incl_len nd fun t ht => (hmm t).mpr ht
  rw [List.length_reverse] at hl
  omega
end
section
variable {n : Nat} {ls lists : List (List Int)}
theorem lists_map (lists : List (List Int)) : (rangeI lists.length).map (AL lists) = lists := by
  rw [rangeI_map]
  refine List.ext_getElem? fun i => ?_
  rw [List.getElem?_map]
  by_cases hi : i < lists.length
  · rw [List.getElem?_range hi, List.getElem?_eq_getElem hi]
    show some (AL lists ((i : Nat) : Int)) = _
    rw [AL_at (List.getElem?_eq_getElem hi)]
  · rw [List.getElem?_eq_none_iff.mpr (by rw [List.length_range]; omega), List.getElem?_eq_none_iff.mpr (by omega)]
    rfl
theorem rangeI_asc (m : Nat) : (rangeI m).Pairwise (· < ·) := by
  unfold rangeI
  exact List.pairwise_map.mpr (List.pairwise_lt_range.imp fun h => by omega)
theorem sub_lot {m : Nat} (hm : m ≤ 6) {P : List Int} (s : P.Sublist (rangeI m)) : P ∈ lotsB m := by
  refine (lotsB_iff hm).mpr ⟨L6_of ((rangeI_asc m).sublist s) fun t ht => ?_, fun t ht => (mem_rangeI.mp (s.mem ht)).2⟩
  have := mem_rangeI.mp (s.mem ht)
  omega
theorem lot_sub {m : Nat} (hm : m ≤ 6) {P : List Int} (h : P ∈ lotsB m) : P.Sublist (rangeI m) := by
  obtain ⟨p6, lt⟩ := (lotsB_iff hm).mp h
  have : P = (rangeI m).filter fun t => P.contains t := by
    refine ext6 p6 ?_ fun t => ?_
    · refine L6_of ((rangeI_asc m).filter _) fun t ht => ?_
      have := mem_rangeI.mp (List.mem_filter.mp ht).1
      omega
    · rw [List.mem_filter, List.contains_iff_mem]
      exact ⟨fun z => ⟨mem_rangeI.mpr ⟨((L6_pw P p6).2 t z).1, lt t z⟩, z⟩, fun z => z.2⟩
  rw [this]
  exact List.filter_sublist
theorem key_up (hm : lists.length ≤ 6) {P : List Int} (hP : P ∈ lotsB lists.length) (h6 : ∀ w ∈ lists, w ∈ L6) {Y : List Int} (h : Y ∈ keysAt (freeB ls) false (P.map (AL lists))) : Y ∈ keysAt (freeB ls) true lists ∧ Y.length = P.length := by
  have hl := key_len (fun w hw => by obtain ⟨p, _, rfl⟩ := List.mem_map.mp hw; exact AL6 h6 p) h
  rw [List.length_map] at hl
  refine ⟨?_, hl⟩
  obtain ⟨gs, hw⟩ := key_way.mp h
  have s : (P.map (AL lists)).reverse.Sublist lists.reverse := by
    rw [List.reverse_sublist]
    have := (lot_sub hm hP).map (AL lists)
    rwa [lists_map] at this
  exact key_way.mpr (way_up s hw)
theorem key_down (hm : lists.length ≤ 6) (h6 : ∀ w ∈ lists, w ∈ L6) {X : List Int} (h : X ∈ keysAt (freeB ls) true lists) : ∃ P ∈ lotsB lists.length, X ∈ keysAt (freeB ls) false (P.map (AL lists)) ∧ P.length = X.length := by
  obtain ⟨gs, hw⟩ := key_way.mp h
  obtain ⟨vs, hs, s, k⟩ := way_sub hw
  have s2 : vs.reverse.Sublist lists := by rw [← List.reverse_reverse (as := lists), List.reverse_sublist]; exact s
  rw [← lists_map lists] at s2
  obtain ⟨P, sP, e⟩ := List.sublist_map_iff.mp s2
  have hk : X ∈ keysAt (freeB ls) false (P.map (AL lists)) := key_way.mpr ⟨hs, by rw [← e, List.reverse_reverse]; exact k⟩
  exact ⟨P, sub_lot hm sP, hk, ((key_up hm (sub_lot hm sP) h6 hk).2).symm⟩
theorem srv_re {A : Int → List Int} {P : List Int} (nP : P.Nodup) : Srv ls (AL (P.map A)) (rangeI P.length) ↔ Srv ls A P := by
  have at' : ∀ i (hi : i < P.length), AL (P.map A) ((i : Nat) : Int) = A P[i] := fun i hi => AL_at (by rw [List.getElem?_map, List.getElem?_eq_getElem hi]; rfl)
  constructor
  · rintro ⟨g, h1, h2, f, hf, h3⟩
    have key : ∀ p ∈ P, ∃ (i : Nat) (hi : i < P.length), P.idxOf p = i ∧ P[i] = p := fun p hp => by
      have hi := List.idxOf_lt_length_of_mem hp
      exact ⟨P.idxOf p, hi, rfl, List.getElem_idxOf hi⟩
    have em : P.map (fun p => g ((P.idxOf p : Nat) : Int)) = (rangeI P.length).map g := by
      rw [rangeI_map]
      refine List.ext_getElem? fun i => ?_
      rw [List.getElem?_map, List.getElem?_map]
      by_cases hi : i < P.length
      · rw [List.getElem?_range hi, List.getElem?_eq_getElem hi]
        show some (g ((P.idxOf P[i] : Nat) : Int)) = some (g ((i : Nat) : Int))
        rw [List.Nodup.idxOf_getElem nP i hi]
      · rw [List.getElem?_eq_none_iff.mpr (by omega), List.getElem?_eq_none_iff.mpr (by rw [List.length_range]; omega)]
        rfl
    refine ⟨fun p => g ((P.idxOf p : Nat) : Int), fun p hp => ?_, by rw [em]; exact h2, f, hf, fun p hp => ?_⟩
    · obtain ⟨i, hi, e1, e2⟩ := key p hp
      have := h1 ((i : Nat) : Int) (mem_rangeI.mpr ⟨by omega, by omega⟩)
      rw [at' i hi, e2] at this
      show g ((P.idxOf p : Nat) : Int) ∈ _
      rw [e1]
      exact this
    · obtain ⟨i, hi, e1, e2⟩ := key p hp
      show g ((P.idxOf p : Nat) : Int) ∈ _
      rw [e1]
      exact h3 _ (mem_rangeI.mpr ⟨by omega, by omega⟩)
  · rintro ⟨g, h1, h2, f, hf, h3⟩
    have em : (rangeI P.length).map (fun i => g (P.getD i.toNat 0)) = P.map g := by
      rw [rangeI_map]
      refine List.ext_getElem? fun i => ?_
      rw [List.getElem?_map, List.getElem?_map]
      by_cases hi : i < P.length
      · rw [List.getElem?_range hi, List.getElem?_eq_getElem hi]
        show some (g (P.getD (((i : Nat) : Int)).toNat 0)) = some (g P[i])
        rw [Int.toNat_natCast, List.getD_eq_getElem?_getD, List.getElem?_eq_getElem hi]
        rfl
      · rw [List.getElem?_eq_none_iff.mpr (by rw [List.length_range]; omega), List.getElem?_eq_none_iff.mpr (by omega)]
        rfl
    have key : ∀ i ∈ rangeI P.length, ∃ (k : Nat) (hk : k < P.length), i = (k : Nat) ∧ P.getD i.toNat 0 = P[k] := fun i hi => by
      obtain ⟨a, b⟩ := mem_rangeI.mp hi
      refine ⟨i.toNat, by omega, by omega, ?_⟩
      rw [List.getD_eq_getElem?_getD, List.getElem?_eq_getElem (by omega)]
      rfl
    refine ⟨fun i => g (P.getD i.toNat 0), fun i hi => ?_, by rw [em]; exact h2, f, hf, fun i hi => ?_⟩
    · obtain ⟨k, hk, e1, e2⟩ := key i hi
      show g (P.getD i.toNat 0) ∈ _
      rw [e2, e1, at' k hk]
      exact h1 _ (List.getElem_mem hk)
    · obtain ⟨k, hk, e1, e2⟩ := key i hi
      show g (P.getD i.toNat 0) ∈ _
      rw [e2]
      exact h3 _ (List.getElem_mem hk)
theorem keys_ip (c : Cho n ls) (h6 : ∀ w ∈ lists, w ∈ L6) {P : List Int} (nP : P.Nodup) : (∃ Y, Y ∈ keysAt (freeB ls) false (P.map (AL lists))) ↔ IP (fU ls (AL lists)) P := by
  rw [keys_srv c fun w hw => by obtain ⟨p, _, rfl⟩ := List.mem_map.mp hw; exact AL6 h6 p, List.length_map, srv_re nP, srv_iff c nP fun p _ => AL6 h6 p]
theorem most_spec (c : Cho n ls) (h6 : ∀ w ∈ lists, w ∈ L6) (hm : lists.length ≤ 6) {X : List Int} (hX : X ∈ keysAt (freeB ls) true lists) (hmax : ∀ Y ∈ keysAt (freeB ls) true lists, Y.length ≤ X.length) :
    (∃ l ∈ lotsB lists.length, lackP ls lists l = ((lists.length : Nat) : Int) - ((X.length : Nat) : Int)) ∧ (∀ l ∈ lotsB lists.length, lackP ls lists l ≤ ((lists.length : Nat) : Int) - ((X.length : Nat) : Int)) ∧ (∃ P ∈ lotsB lists.length, keysAt (freeB ls) false (P.map (AL lists)) ≠ [] ∧ P.length = X.length) ∧ ∀ P ∈ lotsB lists.length, keysAt (freeB ls) false (P.map (AL lists)) ≠ [] → P.length ≤ X.length := by
  obtain ⟨P, hP, hk, hPl⟩ := key_down hm h6 hX
  obtain ⟨p6, plt⟩ := (lotsB_iff hm).mp hP
  have nP := nd6 p6
  have iP := (keys_ip c h6 nP).mp ⟨X, hk⟩
  have po := fU_poly c (AL lists)
  have big : ∀ Q ∈ lotsB lists.length, keysAt (freeB ls) false (Q.map (AL lists)) ≠ [] → Q.length ≤ X.length := fun Q hQ hne => by
    obtain ⟨Y, hY⟩ := List.exists_mem_of_ne_nil _ hne
    obtain ⟨a, b⟩ := key_up hm hQ h6 hY
    have := hmax Y a
    omega
  have hs : ∀ t ∈ P, t ∈ rangeI lists.length := fun t ht => mem_rangeI.mpr ⟨((L6_pw P p6).2 t ht).1, plt t ht⟩
  have ipc : ∀ {A B : List Int}, (∀ t, t ∈ A ↔ t ∈ B) → IP (fU ls (AL lists)) A → IP (fU ls (AL lists)) B := fun e i K nK sK => i K nK fun t ht => (e t).mpr (sK t ht)
  refine ⟨?_, fun l hl => ?_, ⟨P, hP, (fun z => by rw [z] at hk; cases hk), hPl⟩, big⟩
  · obtain ⟨K, nK, sK, eK⟩ := po.lack (X := P) (W := rangeI lists.length) nP (rangeI_nd _) hs iP fun y hy hn i => by
      obtain ⟨Q, hQ, e1, e2⟩ := lot_of_nd hm (L := y :: P) (List.nodup_cons.mpr ⟨hn, nP⟩) fun t ht => by
        rcases List.mem_cons.mp ht with e | ht
        · rw [e]; exact hy
        · exact hs t ht
      have nQ := nd6 ((lotsB_iff hm).mp hQ).1
      obtain ⟨Y, hY⟩ := (keys_ip c h6 nQ).mpr (ipc (fun t => (e2 t).symm) i)
      have := big Q hQ fun z => by rw [z] at hY; cases hY
      rw [e1, List.length_cons] at this
      omega
    obtain ⟨l, hl, e1, e2⟩ := lot_of_nd hm nK sK
    refine ⟨l, hl, ?_⟩
    have inv := po.inv (K := l) (L := K) e2
    have h3 : fU ls (AL lists) l = rk ls (uniP lists l) := rfl
    have hr : (rangeI lists.length).length = lists.length := by unfold rangeI; rw [List.length_map, List.length_range]
    unfold lackP
    rw [← h3, inv, e1, ← hPl]
    rw [hr] at eK
    exact eK
  · obtain ⟨l6, llt⟩ := (lotsB_iff hm).mp hl
    have nl := nd6 l6
    have h1 := iP (inL l P) (inL_nd nl) fun t ht => (inL_iff.mp ht).2
    have h2 : fU ls (AL lists) (inL l P) ≤ fU ls (AL lists) l := po.mono fun t ht => (inL_iff.mp ht).1
    have h3 : fU ls (AL lists) l = rk ls (uniP lists l) := rfl
    have h4 := inL_less l P
    have h5 : (less l P).length ≤ (less (rangeI lists.length) P).length := incl_len (nl.filter _) fun t ht => by
      obtain ⟨a, b⟩ := less_iff.mp ht
      exact less_iff.mpr ⟨mem_rangeI.mpr ⟨((L6_pw l l6).2 t a).1, llt t a⟩, b⟩
    have h6' := inL_less (rangeI lists.length) P
    have h7 : P.length ≤ (inL (rangeI lists.length) P).length := incl_len nP fun t ht => inL_iff.mpr ⟨hs t ht, ht⟩
    have hr : (rangeI lists.length).length = lists.length := by unfold rangeI; rw [List.length_map, List.length_range]
    unfold lackP
    omega
end
end K13
end
section
set_option maxHeartbeats 4000000
namespace K13
open PySem PySem.Spec PyProof.Rows L2 B
/-! K37A: most_had, shows_most_had, the law's own look at it. -/
theorem keys_nd {fr : List Int → Bool} {left : Bool} (lists : List (List Int)) : (keysAt fr left lists).Nodup := by
  rw [show lists = lists.reverse.reverse by rw [List.reverse_reverse]]
  cases lists.reverse with
  | nil => exact List.pairwise_singleton _ _
  | cons w ws => rw [keys_rev]; exact layN_ok.nd
theorem keys_small {ls lists : List (List Int)} (hl : lists.length ≤ 5) (h6 : ∀ w ∈ lists, w ∈ L6) : (keysAt (freeB ls) true lists).length < 64 := by
  have h1 : (keysAt (freeB ls) true lists).length ≤ (L6.filter fun l => decide (l.length ≤ 5)).length := (keys_nd lists).length_le_of_subset fun X hX => by
    obtain ⟨P, hP, _, e⟩ := key_down (by omega) h6 hX
    have h2 := (lot_sub (by omega) hP).length_le
    have hr : (rangeI lists.length).length = lists.length := by unfold rangeI; rw [List.length_map, List.length_range]
    exact List.mem_filter.mpr ⟨keys_l6 h6 X hX, decide_eq_true (by omega)⟩
  have h2 : (L6.filter fun l => decide (l.length ≤ 5)).length = 63 := by decide +kernel
  omega
theorem keys_top {ls lists : List (List Int)} : ∃ X, X ∈ keysAt (freeB ls) true lists := by
  have : ∀ ws : List (List Int), ∃ gs, Way (freeB ls) true ws gs [] := fun ws => by
    induction ws with
    | nil => exact ⟨[], rfl⟩
    | cons w ws ih =>
      obtain ⟨gs, h⟩ := ih
      exact ⟨none :: gs, rfl, h⟩
  exact ⟨[], key_way.mpr (this _)⟩
theorem sorted_lots (ks : List (List Int)) : ∃ Ks : List (List Int), Ks.Perm ks ∧ (Ks.map bits).Pairwise (· ≤ ·) := by
  obtain ⟨Ks, p, e⟩ := B.perm_map_of (f := bits) (L := ks) (List.mergeSort_perm (ks.map bits) fun a b => decide (a ≤ b)) rfl
  refine ⟨Ks, p, ?_⟩
  rw [← e]
  have tot : ∀ a b : Int, (decide (a ≤ b) || decide (b ≤ a)) = true := fun a b => by
    rcases Int.le_total a b with h | h
    · rw [decide_eq_true h, Bool.true_or]
    · rw [decide_eq_true h, Bool.or_true]
  exact (List.pairwise_mergeSort (le := fun a b : Int => decide (a ≤ b)) (fun a b c h1 h2 => decide_eq_true (Int.le_trans (of_decide_eq_true h1) (of_decide_eq_true h2))) tot _).imp fun h => of_decide_eq_true h
theorem perm_eq {a b : List Int} (p : a.Perm b) (ha : a.Pairwise (· ≤ ·)) (hb : b.Pairwise (· ≤ ·)) : a = b := List.Perm.eq_of_pairwise (fun x y _ _ h1 h2 => Int.le_antisymm h1 h2) ha hb p
theorem pd_sortF {Γ : Gam} {ρ : GEnv} {M : Sto} {e : Expr} {p c : Pos} {kvs : List (Key × PyData)} {ks : List (List Int)} {Ks : List (List Int)} (hs : Γ.mg "sorted" = none) (h : PD Γ e ρ M (.fd kvs)) (hk : kvs.map (·.1) = ks.map fun X => (Sum.inl (bits X) : Key)) (hz : ks.length < 64) (hp : Ks.Perm ks) (ha : (Ks.map bits).Pairwise (· ≤ ·))
    (hg : GlD Γ "sorted" := by rfl) (he : ∀ env, starEach [e] env = (false, eval e env) :: starEach [] env := by intro _; rfl) (hpl : ∀ env, (backTo c (starEach [] env)).any (·.1) = false := by intro _; rfl) : PD Γ (.Call (.Name "sorted" p) [e] [] c) ρ M (.d (.list ((Ks.map bits).map PyData.int))) := by
  refine de_frz (de_callB o_sortF hs rfl (da_cons (PD.de h (da_nil ⟨kvs, ks.map bits, rfl, by rw [hk, List.map_map]; rfl, by rw [List.length_map]; exact hz, fun ys h1 h2 b nb => .inr ⟨b, ys.map PyData.int, rfl, put_same, ?_, del_put nb⟩⟩)) he) hg (by decide) (by decide) he hpl)
  rw [perm_eq (h1.trans (hp.map bits).symm) h2 ha]
section
variable {P : Program} {w : World} {K : PySem.W.Frag} {mg : Str → Option Value} {base : Heap}
def o_most37 : ON := fun gs M Q => ∃ (n : Nat) (ls lists : List (List Int)), gs = [.d (heapD (n : Nat) ls), .d (lsT lists)] ∧ ChL n ls lists ∧ lists.length ≤ 5 ∧ NoGen M ∧ ∀ (X l : List Int), X ∈ keysAt (freeB ls) true lists → (∀ Y ∈ keysAt (freeB ls) true lists, Y.length ≤ X.length) → l ∈ lotsB lists.length → lackP ls lists l = ((lists.length : Nat) : Int) - ((X.length : Nat) : Int) → Q (.d (.tuple [.tuple ((givenL (freeB ls) true lists X).map optD), lotD l])) M
abbrev NMo : List Str := ["choice", "lists", "faces", "layers", "bits", "most", "found", "persons"]
theorem most_body (gl : Gl K mg) (fk : FaK K mg) (gs : List B.G) (M : Sto) (Q : B.G → Sto → Prop) (ho : o_most37 gs M Q) : DS ⟨P, w, K, mg, base, NMo, d_most_had.scope, 6, fun _ => true, none, fun _ => True⟩ d_most_had.body (startG NMo gs) M (dRet Q) := by
  obtain ⟨n, ls, lists, e, h, hl, ng, q⟩ := ho
  subst e
  have h6 := h.l6
  have hm : lists.length ≤ 6 := by omega
  refine ds_cons (d1_expr (PD.de (pd_call (ok_lookLi gl) (.cons (pd_var 0) (da1 (pd_var 1))) ⟨n, ls, lists, rfl, h, by omega, rfl, rfl⟩) ?_))
  refine ds_cons (d1_set 2 (de_faces gl fk (ixOf "every_bit") (by kernel_rfl) h.fu (PD.de (pd_var 0) ⟨rfl, ng, fun a d M2 fa ha hd eM => ?_⟩)))
  have fs := FS.of fa ha hd eM
  refine ds_cons (d1_set 3 (de_call (ok_layers gl fk) (da_cons (PD.de (pd_var 2) (da_cons (PD.de (pd_var 1) (da_cons (PD.de pd_bl (da_nil ⟨a, d, n, ls, lists, _, true, rfl, .inl rfl, h.li, by omega, h.fu, fa, fun kvs L hmk hL => ?_⟩)))))))))
  obtain ⟨M3, eM3⟩ : ∃ M3, put M2 d (.dK kvs) = M3 := ⟨_, rfl⟩
  have fs3 : FS K a d n ls M M3 := by rw [← eM3]; exact fs.memo hmk
  obtain ⟨kvs0, hd0, _⟩ := fa.d
  have Ld : L ≠ d := fun z => by rw [z, hd0] at hL; cases hL
  have hL3 : M3 L = none := by rw [← eM3, put_ne Ld]; exact hL
  rw [eM3]
  obtain ⟨lay, elay⟩ : ∃ lay, (B.G.fd lay0 :: (laysL (freeB ls) true lists).map layG : List B.G) = lay := ⟨_, rfl⟩
  obtain ⟨lkv, hat, hkeys⟩ := last_keys (fr := freeB ls) (left := true) (lists := lists)
  rw [elay] at hat ⊢
  have hML : M L = none := by
    cases hm2 : M L with
    | none => rfl
    | some o => rw [fs3.ex L o hm2] at hL3; cases hL3
  have extL : ∀ kv, Memo ls kv → Ext M (put (put M3 d (.dK kv)) L (.lst lay)) := fun kv hkv p o e => by
    rw [put_ne (fun z => by rw [z, hML] at e; cases e)]
    exact (fs3.memo hkv).ex p o e
  obtain ⟨kvs3, hd3, hm3⟩ := fs3.fa.d
  obtain ⟨ks, eks⟩ : ∃ ks, keysAt (freeB ls) true lists = ks := ⟨_, rfl⟩
  have ksm := keys_small (ls := ls) hl h6
  have k6 : ∀ X ∈ ks, X ∈ L6 := by rw [← eks]; exact keys_l6 h6
  obtain ⟨X0, hX0⟩ := keys_top (ls := ls) (lists := lists)
  rw [eks] at hkeys ksm q hX0
  have hne : ks.map (fun X => ((X.length : Nat) : Int)) ≠ [] := by
    have := List.ne_nil_of_mem hX0
    simpa using this
  obtain ⟨m1, m2⟩ := maxI_spec hne
  obtain ⟨most, emost⟩ : ∃ most, maxI (ks.map fun X => ((X.length : Nat) : Int)) = most := ⟨_, rfl⟩
  rw [emost] at m1 m2
  refine ds_cons (d1_set 5 (PD.de (g := .d (.int most)) (pd_callB o_maxL (n_max gl) rfl (da1 (pd_mapc [("bits", 4)] (fun X : List Int => B.G.d (.int (bits X))) ks (fun X => .int ((X.length : Nat) : Int)) (pit_keysF (kvs := lkv) (pd_ix (z := .fd lkv) o_ixM (pd_var 3) (PD.to (pd_un o_neg pd_int ⟨_, rfl, rfl, rfl⟩) rfl) ⟨L, lay, -1, _, rfl, put_same, rfl, hat, rfl, rfl⟩)) ?_ (by show _ ≤ 16777216; omega) fun M' e X hX => dc_name 4 ⟨rfl, pd_call (ok_many gl (ixOf "how_many") (by kernel_rfl)) (da1 (pd_var 4)) ⟨X, k6 X hX, rfl, rfl, rfl⟩⟩)) ⟨_, ks.map (fun X => ((X.length : Nat) : Int)), rfl, by rw [List.map_map]; exact .d _, hne, by rw [emost], rfl⟩) ?_))
  · have := congrArg (List.map fun k : Key => B.G.d (kdat k)) hkeys
    rw [List.map_map, List.map_map] at this
    exact this
  obtain ⟨Ks, pKs, aKs⟩ := sorted_lots ks
  obtain ⟨tops, etops⟩ : ∃ tops, Ks.filter (fun X => decide (((X.length : Nat) : Int) = most)) = tops := ⟨_, rfl⟩
  obtain ⟨Xm, hXm, eXm⟩ := List.mem_map.mp m1
  have htop : ∃ X r, tops = X :: r := by
    have : Xm ∈ tops := by rw [← etops]; exact List.mem_filter.mpr ⟨pKs.mem_iff.mpr hXm, decide_eq_true eXm⟩
    cases tops with
    | nil => cases this
    | cons a b => exact ⟨a, b, rfl⟩
  obtain ⟨X, r, eX⟩ := htop
  have hX : X ∈ ks ∧ ((X.length : Nat) : Int) = most := by
    have : X ∈ tops := by rw [eX]; exact List.mem_cons_self
    rw [← etops] at this
    obtain ⟨a1, a2⟩ := List.mem_filter.mp this
    exact ⟨pKs.mem_iff.mp a1, of_decide_eq_true a2⟩
  have hmax : ∀ Y ∈ ks, Y.length ≤ X.length := fun Y hY => by
    have := m2 _ (List.mem_map.mpr ⟨Y, hY, rfl⟩)
    omega
  have kz : Ks.length < 64 := by rw [pKs.length_eq]; exact ksm
  refine ds_cons (d1_set 4 (PD.de (g := .d (.int (bits X))) (pd_atL (ds := tops.map fun X => PyData.int (bits X)) (PD.to (pd_filc [("bits", 4)] (fun X : List Int => B.G.d (.int (bits X))) Ks (fun X => decide (((X.length : Nat) : Int) = most)) (fun X => PyData.int (bits X)) (pit_list (ds := (Ks.map bits).map PyData.int) (pd_sortF (n_sorted gl) (pd_ix (z := .fd lkv) o_ixM (pd_var 3) (PD.to (pd_un o_neg pd_int ⟨_, rfl, rfl, rfl⟩) rfl) ⟨L, lay, -1, _, rfl, put_same, rfl, hat, rfl, rfl⟩) hkeys ksm pKs aKs) (.d _)) (by rw [List.map_map, List.map_map]; rfl) (by show _ ≤ 16777216; omega) fun M' e Y hY => dc_name 4 ⟨rfl, pb_cmp o_eq (pd_call (ok_many gl (ixOf "how_many") (by kernel_rfl)) (da1 (pd_var 4)) ⟨Y, k6 Y (pKs.mem_iff.mp hY), rfl, rfl, rfl⟩) (pd_var 5) ⟨_, _, .d _, .d _, pl_int _, pl_int _, by rw [eqv_int], rfl⟩, fun _ => pd_var 4⟩) (by rw [etops])) (.d _) pd_int (B.atI_nat (i := 0) (by rw [eX]; rfl))) ?_))
  have dL : d ≠ L := Ne.symm Ld
  have hz := lotsB_len hm
  obtain ⟨pos, epos⟩ : ∃ pos, (lotsB lists.length).filter (fun l => decide (lackP ls lists l = ((lists.length : Nat) : Int) - most)) = pos := ⟨_, rfl⟩
  have sp := most_spec h.ch h6 hm (X := X) (by rw [eks]; exact hX.1) (by rw [eks]; exact hmax)
  have hpos : ∃ l r, pos = l :: r := by
    obtain ⟨l, hl1, hl2⟩ := sp.1
    have : l ∈ pos := by rw [← epos]; exact List.mem_filter.mpr ⟨hl1, decide_eq_true (by rw [hl2, hX.2])⟩
    cases pos with
    | nil => cases this
    | cons a b => exact ⟨a, b, rfl⟩
  obtain ⟨l0, r0, e0⟩ := hpos
  have hl0 : l0 ∈ lotsB lists.length ∧ lackP ls lists l0 = ((lists.length : Nat) : Int) - most := by
    have : l0 ∈ pos := by rw [e0]; exact List.mem_cons_self
    rw [← epos] at this
    obtain ⟨a1, a2⟩ := List.mem_filter.mp this
    exact ⟨a1, of_decide_eq_true a2⟩
  refine ds_cons (d1_setLc 6 (own := [("persons", 7)]) (lcP_S (fun M0 => ∃ kv, Memo ls kv ∧ M0 = put (put M3 d (.dK kv)) L (.lst lay)) (fun l : List Int => B.G.d (lotD l)) (lotsB lists.length) (fun l => decide (lackP ls lists l = ((lists.length : Nat) : Int) - most)) lotD (pitT_listD (ds := (lotsB lists.length).map lotD) (pd_call (ok_persons gl) (da1 (pd_var 1)) ⟨_, lists, rfl, .inl rfl, hm, rfl, rfl⟩)) (by rw [List.map_map]; rfl) (by show _ ≤ 16777216; omega) ⟨kvs3, hm3, by rw [put_self hd3]⟩ ?_ ?_) (blkOk_by (by kernel_rfl)))
  · rintro M0 D acc ⟨kv, hkv, rfl⟩ hD l hl'
    obtain ⟨l6, lt⟩ := lotsB_mem hm hl'
    have DL : D ≠ L := fun z => by rw [z, put_same] at hD; cases hD
    have Dd : D ≠ d := fun z => by rw [z, put_ne dL, put_same] at hD; cases hD
    have hD3 : put M3 d (.dK kv) D = none := by rw [put_ne DL] at hD; exact hD
    have fsk := fs3.memo hkv
    have aL : a ≠ L := fun z => by have := fs3.fa.a; rw [z, hL3] at this; cases this
    have faL : FaM K a d n ls (put (put M3 d (.dK kv)) L (.lst lay)) := ⟨by rw [put_ne aL]; exact fsk.fa.a, kv, by rw [put_ne dL]; exact put_same, hkv⟩
    have faD := fa_under faL hD acc
    refine dc_name 7 (dts_one (dt_cmp o_eq (de_call (ok_lack gl fk) (da_cons (PD.de (pd_var 2) (da_cons (PD.de (pd_var 1) (da_cons (PD.de (pd_var 7) (da_nil ⟨a, d, n, ls, _, lists, l, rfl, .inl rfl, h6, fun p hp => ⟨((L6_pw l l6).2 p hp).1, lt p hp⟩, h.fu, faD, fun kv2 hkv2 => PD.de (pd_bin o_sub (PD.to (pd_len (n_len gl) (pd_var 1) (.t _)) (by rw [List.length_map])) (pd_var 5) ⟨_, _, rfl, rfl, rfl, rfl⟩) ⟨_, _, .d _, .d _, pl_int _, pl_int _, _, rfl, by rw [eqv_int], ?_⟩⟩))))))))))
    have esw : put (put (put (put M3 d (.dK kv)) L (.lst lay)) D (.lst acc)) d (.dK kv2) = put (put (put M3 d (.dK kv2)) L (.lst lay)) D (.lst acc) := by
      rw [put_comm Dd, put_comm Ld, put_put]
    have hD2 : put (put M3 d (.dK kv2)) L (.lst lay) D = none := by
      rw [put_ne DL, put_ne Dd] at hD ⊢
      exact hD
    exact ⟨fun _ => ⟨_, ⟨kv2, hkv2, rfl⟩, hD2, esw⟩, fun _ => PD.de (pd_var 7) ⟨rfl, _, ⟨kv2, hkv2, rfl⟩, hD2, esw⟩⟩
  · rintro M0 ⟨kv, hkv, rfl⟩
    rw [epos]
    refine ds_cons (d1_ret (de_drop (de_tup (da_cons (de_call (ok_givenB gl (freeB ls) true) (da_cons (PD.de (pd_var 3) (da_cons (PD.de (pd_var 4) (da_nil ⟨L, lists, X, rfl, by rw [elay]; exact put_same, h6, by omega, by rw [eks]; exact hX.1, da_cons (PD.de (pd_atL (ds := pos.map lotD) (pd_var 6) (.d _) pd_int (B.atI_nat (i := 0) (x := lotD l0) (by rw [e0]; rfl))) (da_nil ⟨[.tuple ((givenL (freeB ls) true lists X).map optD), lotD l0], rfl, Nat.le_of_ble_eq_true rfl, M, extL kv hkv, q X l0 hX.1 hmax hl0.1 (by rw [hl0.2, hX.2])⟩))⟩))))))))))
theorem ok_mostR (gl : Gl K mg) (fk : FaK K mg) : FnR2 P w K mg base 7 "most_had" "choice" "lists" o_most37 :=
  okfR2 (d := d_most_had) (N := NMo) gl (ixOf "most_had") (by kernel_rfl) (fun _ _ _ _ _ _ _ _ => rfl) (by decide +kernel) (fun gs M Q ⟨_, _, _, e, _⟩ => by rw [e]; rfl) (most_body gl fk)
end
end K13
end
section
set_option maxHeartbeats 4000000
namespace K13
open PySem PySem.Spec PyProof.Rows L2 B
/-! K37B: shows_most_had, the law's own look at it. -/
def noneC (a : PyData) : Int := ((((tupV a).filter isN).length : Nat) : Int)
def mostB (n : Nat) (ls lists : List (List Int)) : PyData → Bool
  | .tuple [a, b] => isLotD ((lists.length : Nat) : Int) b && (givB n ls lists a && decide (noneC a = lackP ls lists (intsOf b)))
  | _ => false
inductive Sh37 : PyData → Prop
  | n {d : PyData} (h : isT d = false) : Sh37 d
  | l {ds : List PyData} (h : ds.length ≠ 2) : Sh37 (.tuple ds)
  | f (a b : PyData) : Sh37 (.tuple [a, b])
theorem sh37 (d : PyData) : Sh37 d := by
  cases hT : isT d with
  | false => exact .n hT
  | true =>
    obtain ⟨ds, rfl⟩ := isT_tuple hT
    match ds with
    | [] => exact .l (by decide)
    | [_] => exact .l (by simp)
    | [a, b] => exact .f _ _
    | _ :: _ :: _ :: _ => exact .l (by simp)
section
variable {n : Nat} {ls lists : List (List Int)}
theorem mb_n {d : PyData} (h : isT d = false) : mostB n ls lists d = false := by cases d <;> first | rfl | cases h
theorem mb_l {ds : List PyData} (h : ds.length ≠ 2) : mostB n ls lists (.tuple ds) = false := by
  match ds, h with
  | [], _ => rfl
  | [a], _ => rfl
  | [_, _], h => exact absurd rfl h
  | a :: _ :: _ :: _, _ => rfl
theorem mb_f (a b : PyData) : mostB n ls lists (.tuple [a, b]) = (isLotD ((lists.length : Nat) : Int) b && (givB n ls lists a && decide (noneC a = lackP ls lists (intsOf b)))) := rfl
end
section
variable {P : Program} {w : World} {K : PySem.W.Frag} {mg : Str → Option Value} {base : Heap}
def o_showsM : ON := fun gs M Q => ∃ (n : Nat) (ls lists : List (List Int)) (v : PyData), gs = [.d (heapD (n : Nat) ls), .d (lsT lists), .d v] ∧ ChL n ls lists ∧ lists.length ≤ 6 ∧ NoGen M ∧ VV v ∧ Q (.d (.bool (mostB n ls lists v))) M
theorem ok_showsM (gl : Gl K mg) (fk : FaK K mg) : FnP2 P w K mg base 7 "shows_most_had" 1 "lists" "value" o_showsM := by
  refine okfP2 (k := 6) (d := d_shows_most_had) (N := ["choice", "lists", "value", "faces", "thing"]) (ps := ["choice", "lists", "value"]) gl (ixOf "shows_most_had") (by kernel_rfl) (fun _ _ _ _ _ _ us v z hl => match us, hl with | [_], _ => rfl) (by decide +kernel) (fun gs M Q ⟨_, _, _, _, e, _⟩ => by rw [e]; rfl) (fun gs M Q ⟨n, ls, lists, v, eg, h, hl, ng, hv, q⟩ => ?_)
  subst eg
  have h6 := h.l6
  refine ds_cons (d1_expr (PD.de (pd_call (ok_lookLi gl) (.cons (pd_var 0) (da1 (pd_var 1))) ⟨n, ls, lists, rfl, h, by omega, rfl, rfl⟩) ?_))
  cases sh37 v with
  | n hh =>
    rw [mb_n hh] at q
    exact ds_cons (d1_ifB (k := true) (PW'.pb (pw_or' (k := true) (l := true) (PB.to (pb_not (k := isT v) (pb_val (pd_callB o_isi (n_isinstance gl) rfl (.cons (pd_var 2) (.cons (pd_ty (n_tuple gl) rfl) .nil)) (oIsi_tuple ⟨rfl, rfl⟩)))) (by rw [hh]; rfl)) (fun z => nomatch z))) (fun _ => ds_cons (d1_ret (PD.de pd_bl q))) (fun z => nomatch z))
  | @l ds hh =>
    rw [mb_l hh] at q
    exact ds_cons (d1_ifB (k := true) (PW'.pb (pw_or' (k := false) (l := true) (pb_not (k := true) (pb_val (pd_callB o_isi (n_isinstance gl) rfl (.cons (pd_var 2) (.cons (pd_ty (n_tuple gl) rfl) .nil)) (oIsi_tuple ⟨rfl, rfl⟩)))) fun _ => pw_or' (k := true) (l := true) (PB.to (pb_cmp o_ne (pd_len (ds := ds) (n_len gl) (pd_var 2) (.t _)) pd_int ⟨_, _, .d _, .d _, pl_int _, pl_int _, rfl, rfl⟩) (by rw [eqv_int, decide_eq_false (by omega)]; rfl)) (fun z => nomatch z))) (fun _ => ds_cons (d1_ret (PD.de pd_bl q))) (fun z => nomatch z))
  | f x L =>
    have wx : Wd x := hv _ rfl x (by simp)
    have wL : Wd L := hv _ rfl L (by simp)
    rw [mb_f] at q
    refine ds_cons (d1_ifB (k := !isLotD ((lists.length : Nat) : Int) L) (PW'.pb (pw_or' (k := false) (l := !isLotD ((lists.length : Nat) : Int) L) (pb_not (k := true) (pb_val (pd_callB o_isi (n_isinstance gl) rfl (.cons (pd_var 2) (.cons (pd_ty (n_tuple gl) rfl) .nil)) (oIsi_tuple ⟨rfl, rfl⟩)))) fun _ => pw_or' (k := false) (l := !isLotD ((lists.length : Nat) : Int) L) (PB.to (pb_cmp o_ne (pd_len (ds := [x, L]) (n_len gl) (pd_var 2) (.t _)) pd_int ⟨_, _, .d _, .d _, pl_int _, pl_int _, rfl, rfl⟩) (by rw [eqv_int]; rfl)) fun _ => pw_or1' (pb_not (pb_val (pd_call (ok_is_lot gl) (.cons (PD.to (pd_len (n_len gl) (pd_var 1) (.t _)) (by rw [List.length_map])) (da1 (pd_at (ds := [x, L]) (pd_var 2) pd_int (B.atI_nat (i := 1) rfl)))) ⟨((lists.length : Nat) : Int), L, rfl, wL, rfl, rfl⟩))))) (fun hh => ?_) (fun hh => ds_nil ?_))
    · rw [Bool.not_eq_true'] at hh
      rw [hh, Bool.false_and] at q
      exact ds_cons (d1_ret (PD.de pd_bl q))
    rw [Bool.not_eq_false'] at hh
    rw [hh, Bool.true_and] at q
    obtain ⟨l, rfl, l6, lt⟩ := isLot_is (by omega) hh
    rw [show intsOf (lotD l) = l from intsOf_ints l] at q
    refine ds_cons (d1_set 3 (de_faces gl fk (ixOf "every_bit") (by kernel_rfl) h.fu (PD.de (pd_var 0) ⟨rfl, ng, fun a d M2 fa ha hd eM => ?_⟩)))
    have fs := FS.of fa ha hd eM
    refine ds_cons (d1_if (dt_not (dt_val (de_call (ok_aregiven gl fk) (da_cons (PD.de (pd_var 3) (da_cons (PD.de (pd_var 1) (da_cons (PD.de (pd_at (ds := [x, lotD l]) (pd_var 2) pd_int (B.atI_nat (i := 0) rfl)) (da_nil ⟨a, d, n, ls, lists, x, rfl, h, by omega, wx, fa, fun kvs hm => ⟨_, rfl, ?_⟩⟩)))))))))))
    have fs2 := fs.memo hm
    cases hg : givB n ls lists x with
    | false =>
      rw [hg, Bool.false_and] at q
      exact ifT rfl (ds_cons (d1_ret (de_drop (PD.de pd_bl ⟨M, fs2.ex, q⟩))))
    | true =>
      rw [hg, Bool.true_and] at q
      obtain ⟨ds, rfl, pa⟩ := giv_is hg
      have hz := wx ds rfl
      refine ifF rfl (ds_nil (ds_cons (d1_ret (de_drop (de_cmp o_eq (PD.de (pd_len (ds := ds.filter isN) (n_len gl) (PD.to (pd_filc [("thing", 4)] B.G.d ds isN id (pit_tup (pd_at (ds := [.tuple ds, lotD l]) (pd_var 2) pd_int (B.atI_nat (i := 0) rfl))) rfl hz fun M' e y hy => dc_name 4 ⟨rfl, pb_cmp o_isN (pd_var 4) pd_non ⟨y, rfl, rfl, rfl, rfl⟩, fun _ => pd_var 4⟩) (by rw [List.map_id])) (.l (.d _))) (de_call (ok_lack gl fk) (da_cons (PD.de (pd_var 3) (da_cons (PD.de (pd_var 1) (da_cons (PD.de (pd_at (ds := [.tuple ds, lotD l]) (pd_var 2) pd_int (B.atI_nat (i := 1) rfl)) (da_nil ⟨a, d, n, ls, _, lists, l, rfl, .inl rfl, h6, fun p hp => ⟨((L6_pw l l6).2 p hp).1, lt p hp⟩, h.fu, fs2.fa, fun kv hkv => ⟨_, _, .d _, .d _, pl_int _, pl_int _, M, (fs2.memo hkv).ex, ?_⟩⟩))))))))))))))
      rw [eqv_int]
      exact q
def o_lmost : ON := fun gs M Q => ∃ (n : Nat) (ls lists : List (List Int)) (v : PyData), gs = [.d (heapD (n : Nat) ls), .d (lsT lists), .d v] ∧ ChL n ls lists ∧ lists.length ≤ 6 ∧ VV v ∧ Q (.d (.bool (mostB n ls lists v))) M
theorem ok_lmost (gl : Gl K mg) : Fn P w K mg base 4 "_law_is_due" o_lmost := by
  refine okf (d := d__law_is_due) (N := ["choice", "lists", "value", "thing"]) (ps := ["choice", "lists", "value"]) gl (ixOf "_law_is_due") (by kernel_rfl) (fun _ _ _ _ _ _ us hl => match us, hl with | [_, _, _], _ => rfl) (by decide +kernel) (fun gs M Q ⟨_, _, _, _, e, _⟩ => by rw [e]; rfl) (fun gs M Q ⟨n, ls, lists, v, eg, h, hl, hv, q⟩ => ?_)
  subst eg
  have h6 := h.l6
  cases sh37 v with
  | n hh =>
    rw [mb_n hh] at q
    exact ds_cons (d1_ifB (k := true) (PW'.pb (pw_or' (k := true) (l := true) (PB.to (pb_not (k := isT v) (pb_val (pd_callB o_isi (n_isinstance gl) rfl (.cons (pd_var 2) (.cons (pd_ty (n_tuple gl) rfl) .nil)) (oIsi_tuple ⟨rfl, rfl⟩)))) (by rw [hh]; rfl)) (fun z => nomatch z))) (fun _ => ds_cons (d1_ret (PD.de pd_bl q))) (fun z => nomatch z))
  | @l ds hh =>
    rw [mb_l hh] at q
    exact ds_cons (d1_ifB (k := true) (PW'.pb (pw_or' (k := false) (l := true) (pb_not (k := true) (pb_val (pd_callB o_isi (n_isinstance gl) rfl (.cons (pd_var 2) (.cons (pd_ty (n_tuple gl) rfl) .nil)) (oIsi_tuple ⟨rfl, rfl⟩)))) fun _ => pw_or' (k := true) (l := true) (PB.to (pb_cmp o_ne (pd_len (ds := ds) (n_len gl) (pd_var 2) (.t _)) pd_int ⟨_, _, .d _, .d _, pl_int _, pl_int _, rfl, rfl⟩) (by rw [eqv_int, decide_eq_false (by omega)]; rfl)) (fun z => nomatch z))) (fun _ => ds_cons (d1_ret (PD.de pd_bl q))) (fun z => nomatch z))
  | f x L =>
    have wx : Wd x := hv _ rfl x (by simp)
    have wL : Wd L := hv _ rfl L (by simp)
    rw [mb_f] at q
    refine ds_cons (d1_ifB (k := !isLotD ((lists.length : Nat) : Int) L) (PW'.pb (pw_or' (k := false) (l := !isLotD ((lists.length : Nat) : Int) L) (pb_not (k := true) (pb_val (pd_callB o_isi (n_isinstance gl) rfl (.cons (pd_var 2) (.cons (pd_ty (n_tuple gl) rfl) .nil)) (oIsi_tuple ⟨rfl, rfl⟩)))) fun _ => pw_or' (k := false) (l := !isLotD ((lists.length : Nat) : Int) L) (PB.to (pb_cmp o_ne (pd_len (ds := [x, L]) (n_len gl) (pd_var 2) (.t _)) pd_int ⟨_, _, .d _, .d _, pl_int _, pl_int _, rfl, rfl⟩) (by rw [eqv_int]; rfl)) fun _ => pw_or1' (pb_not (pb_val (pd_call (ok_ilot gl) (.cons (PD.to (pd_len (n_len gl) (pd_var 1) (.t _)) (by rw [List.length_map])) (da1 (pd_at (ds := [x, L]) (pd_var 2) pd_int (B.atI_nat (i := 1) rfl)))) ⟨lists.length, L, rfl, by omega, wL, rfl, rfl⟩))))) (fun hh => ?_) (fun hh => ds_nil ?_))
    · rw [Bool.not_eq_true'] at hh
      rw [hh, Bool.false_and] at q
      exact ds_cons (d1_ret (PD.de pd_bl q))
    rw [Bool.not_eq_false'] at hh
    rw [hh, Bool.true_and] at q
    obtain ⟨l, rfl, l6, lt⟩ := isLot_is (by omega) hh
    rw [show intsOf (lotD l) = l from intsOf_ints l] at q
    refine ds_cons (d1_ifB (k := !givB n ls lists x) (pb_not (pb_val (pd_call (ok_lgiven gl) (.cons (pd_var 0) (.cons (pd_var 1) (da1 (pd_at (ds := [x, lotD l]) (pd_var 2) pd_int (B.atI_nat (i := 0) rfl))))) ⟨n, ls, lists, x, rfl, h, hl, wx, rfl, rfl⟩))) (fun hg => ?_) (fun hg => ds_nil ?_))
    · rw [Bool.not_eq_true'] at hg
      rw [hg, Bool.false_and] at q
      exact ds_cons (d1_ret (PD.de pd_bl q))
    · rw [Bool.not_eq_false'] at hg
      rw [hg, Bool.true_and] at q
      obtain ⟨ds, rfl, pa⟩ := giv_is hg
      have hz := wx ds rfl
      refine ds_cons (d1_ret (PD.de (pd_cmp o_eq (pd_len (ds := ds.filter isN) (n_len gl) (PD.to (pd_filc [("thing", 3)] B.G.d ds isN id (pit_tup (pd_at (ds := [.tuple ds, lotD l]) (pd_var 2) pd_int (B.atI_nat (i := 0) rfl))) rfl hz fun M' e y hy => dc_name 3 ⟨rfl, pb_cmp o_isN (pd_var 3) pd_non ⟨y, rfl, rfl, rfl, rfl⟩, fun _ => pd_var 3⟩) (by rw [List.map_id])) (.l (.d _))) (pd_call (ok_llack gl) (.cons (pd_var 0) (.cons (pd_var 1) (da1 (pd_at (ds := [.tuple ds, lotD l]) (pd_var 2) pd_int (B.atI_nat (i := 1) rfl))))) ⟨n, ls, lists, l, rfl, h, hl, l6, lt, rfl, rfl⟩) ⟨_, _, .d _, .d _, pl_int _, pl_int _, rfl, rfl⟩) ?_))
      rw [eqv_int]
      exact q
end
end K13
end
section
set_option maxHeartbeats 4000000
namespace K13
open PySem PySem.Spec PyProof.Rows L2 B
/-! EVN: values with None, bent: tuples stay small. -/
def Bn : Nat → PyData → Prop
  | 0, d => d = .none ∨ (∃ i : Int, d = .int i ∧ -1100 ≤ i ∧ i ≤ 1100) ∨ ∃ x : Str, d = .str x ∧ x.length ≤ 100
  | n + 1, d => Bn n d ∨ ∃ ds, d = .tuple ds ∧ ds.length ≤ 100 ∧ ∀ e ∈ ds, Bn n e
theorem bn_shape : ∀ {n : Nat} {d : PyData}, Bn n d → d = .none ∨ (∃ i : Int, d = .int i ∧ -1100 ≤ i ∧ i ≤ 1100) ∨ (∃ x : Str, d = .str x ∧ x.length ≤ 100) ∨ ∃ m ds, m < n ∧ d = .tuple ds ∧ ds.length ≤ 100 ∧ ∀ e ∈ ds, Bn m e
  | 0, d, h => by
    rcases h with h | h | h
    · exact .inl h
    · exact .inr (.inl h)
    · exact .inr (.inr (.inl h))
  | n + 1, d, h => by
    rcases h with h | ⟨ds, h⟩
    · rcases bn_shape h with h | h | h | ⟨m, ds, hm, h⟩
      · exact .inl h
      · exact .inr (.inl h)
      · exact .inr (.inr (.inl h))
      · exact .inr (.inr (.inr ⟨m, ds, by omega, h⟩))
    · exact .inr (.inr (.inr ⟨n, ds, by omega, h⟩))
mutual
theorem bn_plain : ∀ {n : Nat} {d : PyData}, Bn n d → d.plain = true ∧ d.depth ≤ n
  | 0, d, h => by
    rcases h with e | ⟨i, e, _⟩ | ⟨x, e, _⟩
    · subst e; exact ⟨rfl, by rw [PyData.depth]; omega⟩
    · subst e; exact ⟨rfl, by rw [PyData.depth]; omega⟩
    · subst e; exact ⟨rfl, by rw [PyData.depth]; omega⟩
  | n + 1, d, h => by
    rcases h with h | ⟨ds, e, hl, h⟩
    · have := bn_plain h
      exact ⟨this.1, by omega⟩
    · subst e
      have := bns_plain (n := n) h
      rw [PyData.plain, PyData.depth]
      exact ⟨this.1, by omega⟩
theorem bns_plain : ∀ {n : Nat} {ds : List PyData}, (∀ e ∈ ds, Bn n e) → PyData.plainAll ds = true ∧ PyData.depthAll ds ≤ n
  | n, [], h => ⟨rfl, by rw [PyData.depthAll]; omega⟩
  | n, d :: ds, h => by
    have h1 := bn_plain (h d List.mem_cons_self)
    have h2 := bns_plain (n := n) (ds := ds) fun e he => h e (List.mem_cons_of_mem _ he)
    rw [PyData.plainAll, PyData.depthAll, h1.1, h2.1]
    exact ⟨rfl, by omega⟩
end
theorem bn_small {m : Nat} {d : PyData} (hb : Bn m d) {es : List PyData} (e : d = .tuple es) : es.length ≤ 100 ∧ ∀ x ∈ es, ∃ k, Bn k x := by
  subst e
  rcases bn_shape hb with h | ⟨_, h, _⟩ | ⟨_, h, _⟩ | ⟨k, ds, _, h, hl, hi⟩
  · cases h
  · cases h
  · cases h
  · cases h
    exact ⟨hl, fun x hx => ⟨k, hi x hx⟩⟩
theorem bn_wd {m : Nat} {d : PyData} (hb : Bn m d) : Wd d := fun es e => Nat.le_trans (bn_small hb e).1 (by show _ ≤ 16777216; omega)
theorem bn_vv {m : Nat} {d : PyData} (hb : Bn m d) : VV d := fun ds e x hx => by
  obtain ⟨k, hk⟩ := (bn_small hb e).2 x hx
  exact bn_wd hk
def NW (d : PyData) : Prop := Wd d ∧ VV d
theorem nw_no {d : PyData} (h : isT d = false) : NW d := ⟨(fun es e => by rw [e] at h; cases h), v28_no h⟩
theorem nw_t {ds : List PyData} (h : ds.length ≤ 1000) (hw : ∀ x ∈ ds, Wd x) : NW (.tuple ds) := ⟨fun es e => by cases e; exact Nat.le_trans h (by show _ ≤ 16777216; omega), v28_of hw⟩
theorem nw_odd {d : PyData} (h : d ∈ oddL) : NW d := by
  refine ⟨?_, odd_v28 h⟩
  have F : ∀ d ∈ oddL, (match d with | .tuple es => decide (es.length ≤ 1000) | _ => true) = true := by decide +kernel
  intro es e
  have := F d h
  subst e
  have := of_decide_eq_true this
  show _ ≤ 16777216
  omega
theorem nw_int {i : Int} {r : PyData} (h : r ∈ ([.int (i + 1), .int (i - 1), .int (-i - 1), .str (toString i), .bool (PyData.eqv (.int i) (.int 1)), .none, .tuple [.int i], .int (10 ^ 9)] : List PyData)) : NW r := by
  simp only [List.mem_cons, List.not_mem_nil, or_false] at h
  rcases h with rfl | rfl | rfl | rfl | rfl | rfl | rfl | rfl <;> first | exact nw_no rfl | skip
  refine nw_t (Nat.le_of_ble_eq_true rfl) fun x hx => ?_
  rw [List.mem_singleton.mp hx]
  exact fun es e => nomatch e
theorem nw_str {x : Str} {r : PyData} (h : r ∈ ([.str (x ++ "a"), .str (cutS x (some 1) none), .str (Txt.upper x), .str "", .none, .int 0] : List PyData)) : NW r := by
  simp only [List.mem_cons, List.not_mem_nil, or_false] at h
  rcases h with rfl | rfl | rfl | rfl | rfl | rfl <;> exact nw_no rfl
theorem nw_tup {m : Nat} {ds : List PyData} {r : PyData} (hl : ds.length ≤ 100) (hi : ∀ e ∈ ds, Bn m e) (h : r ∈ ([.list ds, .tuple (B.cutD ds (some 1) none), .tuple (B.cutD ds none (some (-1))), .tuple (ds ++ B.cutD ds (some (-1)) none), .tuple ds.reverse, .tuple [], .none] : List PyData)) : NW r := by
  have hw : ∀ x ∈ ds, Wd x := fun x hx => bn_wd (hi x hx)
  simp only [List.mem_cons, List.not_mem_nil, or_false] at h
  rcases h with rfl | rfl | rfl | rfl | rfl | rfl | rfl
  · exact nw_no rfl
  · exact nw_t (Nat.le_trans (cut_len _ _ _) (by omega)) fun x hx => hw x (cut_mem hx)
  · exact nw_t (Nat.le_trans (cut_len _ _ _) (by omega)) fun x hx => hw x (cut_mem hx)
  · refine nw_t ?_ fun x hx => ?_
    · have := cut_len ds (some (-1)) none
      rw [List.length_append]
      omega
    · rcases List.mem_append.mp hx with hx | hx
      · exact hw x hx
      · exact hw x (cut_mem hx)
  · exact nw_t (by rw [List.length_reverse]; omega) fun x hx => hw x (List.mem_reverse.mp hx)
  · exact nw_t (Nat.zero_le _) fun x hx => nomatch hx
  · exact nw_no rfl
theorem nw_at {m k : Nat} {ds : List PyData} {r : PyData} (hl : ds.length ≤ 100) (hi : ∀ e ∈ ds, Bn m e) (hr : NW r) : NW (.tuple (ds.take k ++ [r] ++ ds.drop (k + 1))) := by
  refine nw_t ?_ fun x hx => ?_
  · rw [List.length_append, List.length_append, List.length_take, List.length_drop]
    show _ + 1 + _ ≤ _
    omega
  · rcases List.mem_append.mp hx with hx | hx
    · rcases List.mem_append.mp hx with hx | hx
      · exact bn_wd (hi x (List.mem_of_mem_take hx))
      · rw [List.mem_singleton.mp hx]; exact hr.1
    · exact bn_wd (hi x (List.mem_of_mem_drop hx))
section
variable {P : Program} {w : World} {K : PySem.W.Frag} {mg : Str → Option Value} {base : Heap}
def o_bentN (n : Nat) : ON := fun gs M Q => ∃ p l c d, gs = [.op (.ref p), .d d] ∧ M p = some (.lst l) ∧ PotL l c ∧ c + 100 * (n + 1) ≤ 900000 ∧ n ≤ 50 ∧ Bn n d ∧ ∀ r l', NW r → PotL l' (c + 3 * (n + 1)) → Q (.d r) (put M p (.lst l'))
theorem ok_bentN (gl : Gl K mg) (n : Nat) : Fn P w K mg base (n + 4) "_law_bent" (o_bentN n) := by
  induction n using Nat.strongRecOn with
  | _ n ih =>
  refine okf (k := n + 3) (d := d__law_bent) (N := ["pot", "value", "at"]) (ps := ["pot", "value"]) gl 29 rfl (fun _ _ _ _ _ _ us hl => match us, hl with | [_, _], _ => rfl) (by decide +kernel) (fun gs M Q ⟨_, _, _, _, e, _⟩ => by rw [e]; rfl) (fun gs M Q ⟨p, l, c, d, e, hp, hl, hc, hn50, hb, q⟩ => ?_)
  subst e
  have hpl := bn_plain hb
  rcases bn_shape hb with rfl | ⟨i, rfl, hi⟩ | ⟨x, rfl, hx⟩ | ⟨m, ds, hm, rfl, hds, hbs⟩
  · refine ds_cons (d1_ifB (k := false) (PW'.pb (pw_and' (k := false) (l := false) (pb_val (pd_callB o_isi (n_isinstance gl) rfl (.cons (pd_var 1) (.cons (pd_ty (n_tuple gl) rfl) .nil)) (oIsi_tuple ⟨rfl, rfl⟩))) (fun z => nomatch z))) (fun z => nomatch z) (fun _ => ds_nil ?_))
    refine ds_cons (d1_ifB (k := false) (pb_val (pd_callB o_isi (n_isinstance gl) rfl (.cons (pd_var 1) (.cons (pd_ty (n_tuple gl) rfl) .nil)) (oIsi_tuple ⟨rfl, rfl⟩))) (fun z => nomatch z) (fun _ => ds_nil ?_))
    refine ds_cons (d1_ifB (k := false) (pb_val (pd_callB o_isi (n_isinstance gl) rfl (.cons (pd_var 1) (.cons (pd_ty (n_bool gl) rfl) .nil)) (oIsi_bool ⟨rfl, rfl⟩))) (fun z => nomatch z) (fun _ => ds_nil ?_))
    refine ds_cons (d1_ifB (k := false) (pb_val (pd_callB o_isi (n_isinstance gl) rfl (.cons (pd_var 1) (.cons (pd_ty (n_int gl) rfl) .nil)) (oIsi_int ⟨rfl, rfl⟩))) (fun z => nomatch z) (fun _ => ds_nil ?_))
    refine ds_cons (d1_ifB (k := false) (pb_val (pd_callB o_isi (n_isinstance gl) rfl (.cons (pd_var 1) (.cons (pd_ty (n_str gl) rfl) .nil)) (oIsi_str ⟨rfl, rfl⟩))) (fun z => nomatch z) (fun _ => ds_nil ?_))
    exact ds_cons (d1_ret (de_call (ok_odd gl) (da_cons (PD.de (pd_var 0) (da_nil ⟨p, l, c, rfl, hp, hl, by omega, fun d l' hd hl' => q d l' (nw_odd hd) (hl'.up (by omega))⟩))) (hk := by show 3 ≤ n + 3; omega)))
  · refine ds_cons (d1_ifB (k := false) (PW'.pb (pw_and' (k := false) (l := false) (pb_val (pd_callB o_isi (n_isinstance gl) rfl (.cons (pd_var 1) (.cons (pd_ty (n_tuple gl) rfl) .nil)) (oIsi_tuple ⟨rfl, rfl⟩))) (fun z => nomatch z))) (fun z => nomatch z) (fun _ => ds_nil ?_))
    refine ds_cons (d1_ifB (k := false) (pb_val (pd_callB o_isi (n_isinstance gl) rfl (.cons (pd_var 1) (.cons (pd_ty (n_tuple gl) rfl) .nil)) (oIsi_tuple ⟨rfl, rfl⟩))) (fun z => nomatch z) (fun _ => ds_nil ?_))
    refine ds_cons (d1_ifB (k := false) (pb_val (pd_callB o_isi (n_isinstance gl) rfl (.cons (pd_var 1) (.cons (pd_ty (n_bool gl) rfl) .nil)) (oIsi_bool ⟨rfl, rfl⟩))) (fun z => nomatch z) (fun _ => ds_nil ?_))
    refine ds_cons (d1_ifB (k := true) (pb_val (pd_callB o_isi (n_isinstance gl) rfl (.cons (pd_var 1) (.cons (pd_ty (n_int gl) rfl) .nil)) (oIsi_int ⟨rfl, rfl⟩))) (fun _ => ?_) (fun z => nomatch z))
    have hlog : i.natAbs.log2 < 1920 := by
      have : i.natAbs.log2 ≤ i.natAbs := Nat.log2_le_self _
      omega
    refine ds_cons (d1_ret (de_call (ok_of gl) (da_cons (PD.de (pd_var 0) (da_cons (PD.de (pd_list (ds := [.int (i + 1), .int (i - 1), .int (-i - 1), .str (toString i), .bool (PyData.eqv (.int i) (.int 1)), .none, .tuple [.int i], .int (10 ^ 9)]) ?_ (Nat.le_of_ble_eq_true rfl)) (da_nil ⟨p, l, c, _, _, rfl, .l (.d _), (fun z => nomatch z), Nat.le_of_ble_eq_true rfl, hp, hl, by omega, fun _ => .l (.d _), fun d hd l' hl' => q d l' ?_ (hl'.up (by omega))⟩)))))
      (hk := by show 2 ≤ n + 3; omega)))
    · refine .cons (pd_bin o_add (pd_var 1) pd_int ⟨_, _, rfl, rfl, rfl, rfl⟩) (.cons (pd_bin o_sub (pd_var 1) pd_int ⟨_, _, rfl, rfl, rfl, rfl⟩) (.cons (pd_bin o_sub (pd_un (z := .d (.int (-i))) o_neg (pd_var 1) ⟨_, rfl, rfl, rfl⟩) pd_int ⟨_, _, rfl, rfl, rfl, rfl⟩) (.cons (pd_callT o_str1 (n_str gl) rfl (da1 (pd_var 1)) ⟨i, rfl, hlog, rfl, rfl⟩)
        (.cons (pd_cmp o_eq (pd_var 1) pd_int ⟨_, _, .d _, .d _, pl_int _, pl_int _, rfl, rfl⟩) (.cons pd_non (.cons (pd_tup (ds := [.int i]) (da1 (pd_var 1))) (da1 (pd_bin o_pow pd_int pd_int ⟨_, _, rfl, rfl, ⟨by omega, by omega, by decide⟩, rfl, rfl⟩))))))))
    · exact nw_int hd
  · refine ds_cons (d1_ifB (k := false) (PW'.pb (pw_and' (k := false) (l := false) (pb_val (pd_callB o_isi (n_isinstance gl) rfl (.cons (pd_var 1) (.cons (pd_ty (n_tuple gl) rfl) .nil)) (oIsi_tuple ⟨rfl, rfl⟩))) (fun z => nomatch z))) (fun z => nomatch z) (fun _ => ds_nil ?_))
    refine ds_cons (d1_ifB (k := false) (pb_val (pd_callB o_isi (n_isinstance gl) rfl (.cons (pd_var 1) (.cons (pd_ty (n_tuple gl) rfl) .nil)) (oIsi_tuple ⟨rfl, rfl⟩))) (fun z => nomatch z) (fun _ => ds_nil ?_))
    refine ds_cons (d1_ifB (k := false) (pb_val (pd_callB o_isi (n_isinstance gl) rfl (.cons (pd_var 1) (.cons (pd_ty (n_bool gl) rfl) .nil)) (oIsi_bool ⟨rfl, rfl⟩))) (fun z => nomatch z) (fun _ => ds_nil ?_))
    refine ds_cons (d1_ifB (k := false) (pb_val (pd_callB o_isi (n_isinstance gl) rfl (.cons (pd_var 1) (.cons (pd_ty (n_int gl) rfl) .nil)) (oIsi_int ⟨rfl, rfl⟩))) (fun z => nomatch z) (fun _ => ds_nil ?_))
    refine ds_cons (d1_ifB (k := true) (pb_val (pd_callB o_isi (n_isinstance gl) rfl (.cons (pd_var 1) (.cons (pd_ty (n_str gl) rfl) .nil)) (oIsi_str ⟨rfl, rfl⟩))) (fun _ => ?_) (fun z => nomatch z))
    refine ds_cons (d1_ret (de_call (ok_of gl) (da_cons (PD.de (pd_var 0) (da_cons (PD.de (pd_list (ds := [.str (x ++ "a"), .str (cutS x (some 1) none), .str (Txt.upper x), .str "", .none, .int 0]) ?_ (Nat.le_of_ble_eq_true rfl)) (da_nil ⟨p, l, c, _, _, rfl, .l (.d _), (fun z => nomatch z), Nat.le_of_ble_eq_true rfl, hp, hl, by omega, fun _ => .l (.d _), fun d hd l' hl' => q d l' ?_ (hl'.up (by omega))⟩)))))
      (hk := by show 2 ≤ n + 3; omega)))
    · refine .cons (pd_bin o_catS (pd_var 1) pd_str ⟨_, _, rfl, rfl, ?_, rfl, rfl⟩) (.cons (pd_slS (pd_var 1) (.some pd_int) .none (by show _ ≤ 16777216; omega)) (.cons (pd_upper (pd_var 1) (by omega)) (.cons pd_str (.cons pd_non (da1 pd_int)))))
      show x.length + 1 ≤ 16777216
      omega
    · exact nw_str hd
  · have pl0 : Pl (.tuple []) := ⟨by rw [PyData.plain]; rfl, by rw [PyData.depth, PyData.depthAll]; omega⟩
    have hc2 : c + 100 * ((m : Int) + 2) ≤ 900000 := by
      have : ((m + 1 : Nat) : Int) ≤ (n : Int) := by omega
      omega
    refine ds_cut (fun ρ M' => ρ = [some (.op (.ref p)), some (.d (.tuple ds)), none] ∧ ∃ l1, M' = put M p (.lst l1) ∧ PotL l1 (c + 1)) (d1_if (DW.dt (dw_and (PB.dt (b := true) (pb_val (pd_callB o_isi (n_isinstance gl) rfl (.cons (pd_var 1) (.cons (pd_ty (n_tuple gl) rfl) .nil)) (oIsi_tuple ⟨rfl, rfl⟩)))
      (ifT rfl (dw_and (PB.dt (pb_cmp o_ne (pd_var 1) (pd_tup (ds := []) .nil) ⟨_, _, .d _, .d _, ⟨hpl.1, by omega⟩, pl0, rfl, rfl⟩) ?_))))))) ?_
    · rw [eqv_tnil]
      cases hne : ds with
      | nil => exact ifF rfl (ifF rfl (ds_nil ⟨rfl, l, (put_self hp).symm, hl.up (by omega)⟩))
      | cons d0 r0 =>
        rw [← hne]
        have hpos : 0 < ds.length := by rw [hne]; simp
        refine ifT (by rw [hne]; rfl) (dw_and1 (dt_cmp o_gt (de_call (ok_take gl) (da_cons (PD.de (pd_var 0) (da_cons (PD.de pd_int (da_nil ⟨p, l, c, 5, rfl, hp, hl, by omega, by omega, by omega, fun v l1 hv0 hv1 hl1 => PD.de pd_int ⟨_, _, rfl, rfl, _, rfl, ?_⟩⟩))))) (hk := by show 1 ≤ n + 3; omega))))
        by_cases hv : 0 < v
        · refine ifT (decide_eq_true hv) ?_
          refine ds_cons (d1_set 2 (de_call (ok_take gl) (da_cons (PD.de (pd_var 0) (da_cons (PD.de (pd_len (n_len gl) (pd_var 1) (.t _)) (da_nil ⟨p, l1, c + 1, _, rfl, put_same, hl1, by omega, by omega, by omega, fun w l2 hw0 hw1 hl2 => ?_⟩))))) (hk := by show 1 ≤ n + 3; omega)))
          rw [put_put]
          obtain ⟨k, rfl⟩ : ∃ k : Nat, w = (k : Nat) := ⟨w.toNat, by omega⟩
          have hk : k < ds.length := by omega
          have el : (.d (.tuple (B.cutD ds none (some ((k : Nat) : Int)))) : B.G) = .d (.tuple (ds.take k)) := by rw [cut_to]
          refine ds_cons (d1_ret (de_bin o_catT (de_bin o_catT (PD.de (PD.to (pd_slT (pd_var 1) .none (.some (pd_var 2))) el) (de_tup (da_cons (de_call (ih m hm) (da_cons (PD.de (pd_var 0) (da_cons (PD.de (pd_at (pd_var 1) (pd_var 2) (B.atI_nat (List.getElem?_eq_getElem hk))) (da_nil ⟨p, l2, c + 1 + 1, _, rfl, put_same, hl2, by omega, by omega, hbs _ (List.getElem_mem hk), fun r l3 hr hl3 => ?_⟩))))) (hk := by show m + 4 ≤ n + 3; omega))))))))
          rw [put_put]
          have er : (.d (.tuple (B.cutD ds (some ((fun i j : Int => i + j) ((k : Nat) : Int) 1)) none)) : B.G) = .d (.tuple (ds.drop (k + 1))) := by
            rw [show (fun i j : Int => i + j) ((k : Nat) : Int) 1 = ((k + 1 : Nat) : Int) by rfl, cut_from]
          have hlt : (ds.take k).length + 1 ≤ 200 := by rw [List.length_take]; omega
          have hlt2 : (ds.take k ++ [r]).length + (ds.drop (k + 1)).length ≤ 400 := by
            rw [List.length_append, List.length_drop]
            show (ds.take k).length + 1 + _ ≤ _
            omega
          refine da_nil ⟨[r], rfl, Nat.le_of_ble_eq_true rfl, _, _, rfl, rfl, by show _ + 1 ≤ 16777216; omega, PD.de (PD.to (pd_slT (pd_var 1) (.some (pd_bin o_add (pd_var 2) pd_int ⟨_, _, rfl, rfl, rfl, rfl⟩)) .none) er) ⟨_, _, rfl, rfl, by show _ ≤ 16777216; omega, q _ l3 (nw_at hds hbs hr) (hl3.up (by omega))⟩⟩
        · refine ifF (decide_eq_false hv) (ds_nil ⟨rfl, l1, rfl, hl1⟩)
    · rintro ρ M' ⟨rfl, l1, rfl, hl1⟩
      refine ds_cons (d1_ifB (k := true) (pb_val (pd_callB o_isi (n_isinstance gl) rfl (.cons (pd_var 1) (.cons (pd_ty (n_tuple gl) rfl) .nil)) (oIsi_tuple ⟨rfl, rfl⟩))) (fun _ => ?_) (fun z => nomatch z))
      refine ds_cons (d1_ret (de_call (ok_of gl) (da_cons (PD.de (pd_var 0) (da_cons (PD.de (pd_list (ds := [.list ds, .tuple (B.cutD ds (some 1) none), .tuple (B.cutD ds none (some (-1))), .tuple (ds ++ B.cutD ds (some (-1)) none), .tuple ds.reverse, .tuple [], .none]) ?_ (Nat.le_of_ble_eq_true rfl)) (da_nil ⟨p, l1, c + 1, _, _, rfl, .l (.d _), (fun z => nomatch z), Nat.le_of_ble_eq_true rfl, put_same, hl1, by omega, fun _ => .l (.d _), fun d hd l' hl' => ?_⟩)))))
        (hk := by show 2 ≤ n + 3; omega)))
      · refine .cons (pd_callT o_list (n_list gl) rfl (da1 (pd_var 1)) ⟨_, ds, rfl, .t _, .frz ⟨rfl, rfl⟩⟩) (.cons (pd_slT (pd_var 1) (.some pd_int) .none) (.cons (pd_slT (pd_var 1) .none (.some (pd_un (z := .d (.int (-1))) o_neg pd_int ⟨1, rfl, rfl, rfl⟩)))
          (.cons (pd_bin o_catT (pd_var 1) (pd_slT (pd_var 1) (.some (pd_un (z := .d (.int (-1))) o_neg pd_int ⟨1, rfl, rfl, rfl⟩)) .none) ⟨_, _, rfl, rfl, ?_, rfl, rfl⟩) (.cons (pd_revT (pd_var 1)) (.cons (pd_tup (ds := []) .nil) (da1 pd_non))))))
        have := cut_len ds (some (-1)) none
        show _ ≤ 16777216
        omega
      · rw [put_put]
        refine q d l' ?_ (hl'.up (by omega))
        exact nw_tup hds hbs hd
end
end K13
end
section
set_option maxHeartbeats 4000000
namespace K13
open PySem PySem.Spec PyProof.Rows L2 B
/-! K37C: what most_had tells is right (plain). -/
theorem ints_opt : ∀ gs : List (Option Int), told36 (gs.map optD) = gs.filterMap id
  | [] => rfl
  | none :: r => by
    show told36 (.none :: r.map optD) = _
    rw [List.filterMap_cons]
    exact ints_opt r
  | some t :: r => by
    show t :: told36 (r.map optD) = _
    rw [List.filterMap_cons, ints_opt r]
    rfl
theorem none_cnt : ∀ gs : List (Option Int), ((gs.map optD).filter isN).length + (gs.filterMap id).length = gs.length
  | [] => rfl
  | none :: r => by
    have h := none_cnt r
    show ((PyData.none :: r.map optD).filter isN).length + (r.filterMap id).length = r.length + 1
    rw [List.filter_cons_of_pos (by rfl), List.length_cons]
    omega
  | some t :: r => by
    have h := none_cnt r
    show ((PyData.int t :: r.map optD).filter isN).length + (t :: r.filterMap id).length = r.length + 1
    rw [List.filter_cons_of_neg (by intro z; cases z), List.length_cons]
    omega
section
variable {n : Nat} {ls lists : List (List Int)}
theorem told_most (h : ChL n ls lists) {X : List Int} (hX : X ∈ keysAt (freeB ls) true lists) : givB n ls lists (.tuple ((givenL (freeB ls) true lists X).map optD)) = true ∧ noneC (.tuple ((givenL (freeB ls) true lists X).map optD)) = ((lists.length : Nat) : Int) - ((X.length : Nat) : Int) ∧ (givenL (freeB ls) true lists X).length = lists.length ∧ ∀ e ∈ (givenL (freeB ls) true lists X).map optD, Bn 0 e := by
  have hn : n ≤ 6 := h.ch.hi
  obtain ⟨ws, ews⟩ : ∃ ws, lists.reverse = ws := ⟨_, rfl⟩
  have el : lists = ws.reverse := by rw [← ews, List.reverse_reverse]
  have w6 : ∀ w ∈ ws, w ∈ L6 := fun w hw => h.l6 w (by rw [el]; exact List.mem_reverse.mpr hw)
  have hw := back_way (fr := freeB ls) (left := true) (ws := ws) (X := X) (by rw [← el]; exact hX)
  have hg : givenL (freeB ls) true lists X = (backL (laysR (freeB ls) true ws) X).reverse := by unfold givenL; rw [ews]
  rw [hg]
  generalize backL (laysR (freeB ls) true ws) X = gs at hw
  have hl := back_len hw
  have hin := way_in hw
  obtain ⟨x6, hm, hnd, hfr⟩ := way_lot w6 hw
  have hm2 : ∀ t, t ∈ X ↔ t ∈ gs.filterMap id := fun t => by
    rw [hm, List.mem_filterMap]
    exact ⟨fun z => ⟨some t, z, rfl⟩, fun ⟨o, ho, e⟩ => by have e : o = some t := e; rw [← e]; exact ho⟩
  have hxl : X.length = (gs.filterMap id).length := Nat.le_antisymm (incl_len (nd6 x6) fun t ht => (hm2 t).mp ht) (incl_len hnd fun t ht => (hm2 t).mpr ht)
  have hfree : ∃ f ∈ ls, ∀ t ∈ X, t ∈ f := by
    rcases hfr with e | e
    · obtain ⟨f, hf⟩ := List.exists_mem_of_ne_nil _ h.fu.ne
      exact ⟨f, hf, fun t ht => by rw [e] at ht; cases ht⟩
    · exact free_iff.mp e
  obtain ⟨f, hf, hs⟩ := hfree
  have hb : ∀ t, some t ∈ gs → 0 ≤ t ∧ t < (n : Int) := fun t ht => by
    obtain ⟨f6, fl⟩ := h.fu.mem f hf
    have := hs t ((hm t).mpr ht)
    exact ⟨((L6_pw f f6).2 t this).1, fl t this⟩
  have hgl : gs.reverse.length = lists.length := by rw [List.length_reverse, hl, el, List.length_reverse]
  have e1 : told36 (gs.reverse.map optD) = (gs.filterMap id).reverse := by rw [ints_opt, List.filterMap_reverse]
  refine ⟨?_, ?_, hgl, fun e he => ?_⟩
  · show (decide ((gs.reverse.map optD).length = lists.length) && ((gs.reverse.map optD).all (someB n) && (decide (told36 (gs.reverse.map optD)).Nodup && (freeB ls (told36 (gs.reverse.map optD)) && ((gs.reverse.map optD).zip lists).all inW)))) = true
    rw [e1]
    simp only [Bool.and_eq_true, decide_eq_true_eq]
    refine ⟨by rw [List.length_map]; exact hgl, ?_, (List.reverse_perm _).nodup_iff.mpr hnd, free_iff.mpr ⟨f, hf, fun t ht => hs t ((hm2 t).mpr (List.mem_reverse.mp ht))⟩, ?_⟩
    · rw [List.all_eq_true]
      intro d hd
      obtain ⟨o, ho, rfl⟩ := List.mem_map.mp hd
      cases o with
      | none => rfl
      | some t =>
        have := hb t (List.mem_reverse.mp ho)
        show (false || (decide (0 ≤ t) && decide (t ≤ (n : Int) - 1))) = true
        rw [decide_eq_true (by omega), decide_eq_true (by omega)]
        rfl
    · rw [List.all_eq_true]
      intro p hp
      rw [List.zip_map_left, el, zip_rev gs ws hl] at hp
      obtain ⟨⟨o, w⟩, hq, rfl⟩ := List.mem_map.mp hp
      cases o with
      | none => rfl
      | some t =>
        have := hin _ (List.mem_reverse.mp hq) t rfl
        show (false || isIn (.int t) (w.map PyData.int)) = true
        rw [isIn_ints, Bool.false_or]
        exact List.contains_iff_mem.mpr this
  · have := none_cnt gs.reverse
    rw [List.filterMap_reverse, List.length_reverse, hgl, ← hxl] at this
    show ((((gs.reverse.map optD).filter isN).length : Nat) : Int) = _
    omega
  · obtain ⟨o, ho, rfl⟩ := List.mem_map.mp he
    cases o with
    | none => exact .inl rfl
    | some t =>
      have := hb t (List.mem_reverse.mp ho)
      exact .inr (.inl ⟨t, rfl, by omega, by omega⟩)
end
end K13
end
section
set_option maxHeartbeats 4000000
namespace K13
open PySem PySem.Spec PyProof.Rows L2 B
/-! K37D: a pot (k37). -/
theorem two_vv {a b : PyData} (ha : Wd a) (hb : Wd b) : VV (.tuple [a, b]) := v28_of fun x hx => by
  simp only [List.mem_cons, List.not_mem_nil, or_false] at hx
  rcases hx with rfl | rfl
  · exact ha
  · exact hb
theorem lots_len {n : Nat} (hn : n ≤ 6) : (lotsOf ((n : Nat) : Int)).length ≤ 128 := by
  have F : ∀ n ∈ List.range 7, (lotsOf ((n : Nat) : Int)).length ≤ 128 := by decide +kernel
  exact F n (by rw [List.mem_range]; omega)
theorem max_is {ns : List Int} {m : Int} (h1 : m ∈ ns) (h2 : ∀ x ∈ ns, x ≤ m) : maxI ns = m := by
  obtain ⟨a, b⟩ := maxI_spec (List.ne_nil_of_mem h1)
  exact Int.le_antisymm (h2 _ a) (b _ h1)
section
variable {P : Program} {w : World} {K : PySem.W.Frag} {mg : Str → Option Value} {base : Heap}
abbrev NR37 : List Str := ["pot", "choice", "lists", "told", "groups", "persons", "can", "missing", "some", "value", "person", "thing", "turn"]
def o_isr37 : ON := fun gs M Q => ∃ (p : Addr) (l : List B.G) (c : Int) (n : Nat) (ls lists : List (List Int)), gs = [.op (.ref p), .d (heapD (n : Nat) ls), .d (lsT lists)] ∧ M p = some (.lst l) ∧ PotL l c ∧ 0 ≤ c ∧ c + 3000 ≤ 900000 ∧ ChL n ls lists ∧ lists.length ≤ 5 ∧ NoGen M ∧ ∀ l', PotL l' (c + 200) → Q (.d (.bool true)) (put M p (.lst l'))
theorem ok_isr37 (gl : Gl K mg) (fk : FaK K mg) : Fn P w K mg base 8 "_law_is_right" o_isr37 := by
  refine okf (k := 7) (d := d__law_is_right) (N := NR37) (ps := ["pot", "choice", "lists"]) gl (ixOf "_law_is_right") (by kernel_rfl) (fun _ _ _ _ _ _ us hl => match us, hl with | [_, _, _], _ => rfl) (by decide +kernel) (fun gs M Q ⟨_, _, _, _, _, _, e, _⟩ => by rw [e]; rfl) (fun gs M Q ⟨p, l0, c, n, ls, lists, e, hp, hl0, hc0, hc, h, hl5, ng, q⟩ => ?_)
  subst e
  have hn : n ≤ 6 := h.ch.hi
  have hl : lists.length ≤ 6 := by omega
  have h6 := h.l6
  refine ds_cons (d1_set 3 (de_callR2 (ok_mostR gl fk) (PD.de (pd_var 2) (PD.de (pd_var 1) ⟨n, ls, lists, rfl, h, hl5, ng, fun X lp hX hmax hlp hlack => ?_⟩))))
  obtain ⟨sp1, sp2, sp3, sp4⟩ := most_spec h.ch h6 hl hX hmax
  obtain ⟨hgiv, hnone, hgl, hb0⟩ := told_most h hX
  obtain ⟨gs, egs⟩ : ∃ gs, (givenL (freeB ls) true lists X).map optD = gs := ⟨_, rfl⟩
  have gsl : gs.length = lists.length := by rw [← egs, List.length_map]; exact hgl
  rw [egs] at hgiv hnone hb0 ⊢
  obtain ⟨lp6, lplt⟩ := (lotsB_iff hl).mp hlp
  have hz := lots_len (n := lists.length) hl
  have wgs : Wd (.tuple gs) := fun ds e => by cases e; show _ ≤ 16777216; omega
  have wlp : Wd (lotD lp) := wd_lot (by have := F_len lp lp6; show _ ≤ 16777216; omega)
  have hbn : Bn 2 (.tuple [.tuple gs, lotD lp]) := .inr ⟨_, rfl, by simp, fun e he => by
    simp only [List.mem_cons, List.not_mem_nil, or_false] at he
    rcases he with rfl | rfl
    · exact .inr ⟨_, rfl, by omega, hb0⟩
    · refine .inr ⟨_, rfl, by rw [List.length_map]; have := F_len lp lp6; omega, fun e he => ?_⟩
      obtain ⟨t, ht, rfl⟩ := List.mem_map.mp he
      have := (L6_pw lp lp6).2 t ht
      exact .inr (.inl ⟨t, rfl, by omega, by omega⟩)⟩
  have htold : mostB n ls lists (.tuple [.tuple gs, lotD lp]) = true := by
    rw [mb_f, isLot_ok lp6 lplt, hgiv, hnone, show intsOf (lotD lp) = lp from intsOf_ints lp, hlack, decide_eq_true rfl]
    rfl
  have hvv := bn_vv hbn
  obtain ⟨miss, emiss⟩ : ∃ miss : Int, ((lists.length : Nat) : Int) - ((X.length : Nat) : Int) = miss := ⟨_, rfl⟩
  rw [emiss] at hnone sp1 sp2
  refine ds_cons (d1_ifB (k := false) (PB.to (pb_not (pb_val (pd_call (ok_lmost gl) (.cons (pd_var 1) (.cons (pd_var 2) (da1 (pd_var 3)))) ⟨n, ls, lists, .tuple [.tuple gs, lotD lp], rfl, h, hl, hvv, rfl, rfl⟩))) (by rw [htold]; rfl)) (fun z => nomatch z) (fun _ => ds_nil ?_))
  refine ds_cons (d1_set 4 (PD.de (pd_call (ok_lots gl) (da1 (PD.to (pd_len (n_len gl) (pd_var 2) (.t _)) (by rw [List.length_map]))) ⟨((lists.length : Nat) : Int), rfl, by omega, by omega, rfl, rfl⟩) ?_))
  obtain ⟨grp, egrp⟩ : ∃ grp, lotsOf ((lists.length : Nat) : Int) = grp := ⟨_, rfl⟩
  have mgrp : ∀ P, P ∈ grp ↔ P ∈ lotsB lists.length := fun P => by rw [← egrp, mem_lotsOf hl, lotsB_iff hl]; exact Iff.rfl
  rw [egrp] at hz ⊢
  obtain ⟨can, ecan⟩ : ∃ can, grp.filter (fun P => !(keysAt (freeB ls) false (P.map (AL lists))).isEmpty) = can := ⟨_, rfl⟩
  have mcan : ∀ P, P ∈ can ↔ P ∈ lotsB lists.length ∧ keysAt (freeB ls) false (P.map (AL lists)) ≠ [] := fun P => by
    rw [← ecan, List.mem_filter, mgrp, Bool.not_eq_true', Bool.eq_false_iff, Ne, List.isEmpty_iff]
  have canz : can.length ≤ 128 := by rw [← ecan]; exact Nat.le_trans (List.length_filter_le _ _) hz
  refine ds_cons (d1_filc [("persons", 5)] 6 (fun l : List Int => B.G.d (lotD l)) grp (fun P => !(keysAt (freeB ls) false (P.map (AL lists))).isEmpty) lotD (pit_list (ds := grp.map lotD) (pd_var 4) (.d _)) (by rw [List.map_map]; rfl) (by show _ ≤ 16777216; omega) (fun M' e P hP => dc_name 5 ⟨rfl, pb_val (pd_call (ok_lcan gl) (.cons (pd_var 1) (da1 (pd_mapc [("person", 10)] (fun t : Int => B.G.d (.int t)) P (fun p => lotD (AL lists p)) (pit_tup (ds := P.map PyData.int) (pd_var 5)) (by rw [List.map_map]; rfl) (by have := F_len P ((lotsB_iff hl).mp ((mgrp P).mp hP)).1; show _ ≤ 16777216; omega) fun M2 e2 t ht => dc_name 10 ⟨rfl, ?_⟩))) ⟨n, ls, P.map (AL lists), .d (.list ((P.map (AL lists)).map lotD)), by rw [List.map_map]; rfl, .inr rfl, ?_, by rw [List.length_map]; exact F_len P ((lotsB_iff hl).mp ((mgrp P).mp hP)).1, rfl, rfl⟩), fun _ => pd_var 5⟩) (.frz ?_))
  · obtain ⟨P6, Plt⟩ := (lotsB_iff hl).mp ((mgrp P).mp hP)
    have h0 := ((L6_pw P P6).2 t ht).1
    have h1 := Plt t ht
    obtain ⟨k, rfl⟩ : ∃ k : Nat, t = (k : Nat) := ⟨t.toNat, by omega⟩
    have hk : k < lists.length := by omega
    obtain ⟨v, ev⟩ : ∃ v, lists[k]? = some v := ⟨_, List.getElem?_eq_getElem hk⟩
    rw [AL_at ev]
    exact pd_at (ds := lists.map lotD) (pd_var 2) (pd_var 10) (B.atI_nat (x := lotD v) (by rw [List.getElem?_map, ev]; rfl))
  · obtain ⟨P6, Plt⟩ := (lotsB_iff hl).mp ((mgrp P).mp hP)
    refine ⟨h.ch, fun w hw => ?_⟩
    obtain ⟨t, ht, rfl⟩ := List.mem_map.mp hw
    have h0 := ((L6_pw P P6).2 t ht).1
    have h1 := Plt t ht
    obtain ⟨k, rfl⟩ : ∃ k : Nat, t = (k : Nat) := ⟨t.toNat, by omega⟩
    have hk : k < lists.length := by omega
    obtain ⟨v, ev⟩ : ∃ v, lists[k]? = some v := ⟨_, List.getElem?_eq_getElem hk⟩
    rw [AL_at ev]
    exact h.li v (List.mem_of_getElem? ev)
  rw [ecan]
  have hmx : maxI (can.map fun P => ((P.length : Nat) : Int)) = ((X.length : Nat) : Int) := by
    obtain ⟨P, hP, hne, hPl⟩ := sp3
    refine max_is (List.mem_map.mpr ⟨P, (mcan P).mpr ⟨hP, hne⟩, by rw [hPl]⟩) fun x hx => ?_
    obtain ⟨Q', hQ, rfl⟩ := List.mem_map.mp hx
    obtain ⟨a1, a2⟩ := (mcan Q').mp hQ
    have := sp4 Q' a1 a2
    omega
  have cne : can.map (fun P => ((P.length : Nat) : Int)) ≠ [] := by
    obtain ⟨P, hP, hne, hPl⟩ := sp3
    have := List.ne_nil_of_mem ((mcan P).mpr ⟨hP, hne⟩)
    simpa using this
  refine ds_cons (d1_set 7 (PD.de (g := .d (.int miss)) (PD.to (pd_bin o_sub (PD.to (pd_len (n_len gl) (pd_var 2) (.t _)) (by rw [List.length_map])) (pd_callB o_maxL (n_max gl) rfl (da1 (pd_mapc [("persons", 5)] (fun l : List Int => B.G.d (lotD l)) can (fun l => .int ((l.length : Nat) : Int)) (pit_list (ds := can.map lotD) (pd_var 6) (.d _)) (by rw [List.map_map]; rfl) (by show _ ≤ 16777216; omega) fun M' e l hl' => dc_name 5 ⟨rfl, PD.to (pd_len (ds := l.map PyData.int) (n_len gl) (pd_var 5) (.t _)) (by rw [List.length_map])⟩)) ⟨_, can.map (fun l => ((l.length : Nat) : Int)), rfl, by rw [List.map_map]; exact .d _, cne, rfl, rfl⟩) ⟨_, _, rfl, rfl, rfl, rfl⟩) (by rw [hmx, ← emiss])) ?_))
  have hnl : ((((gs.filter isN).length : Nat) : Int)) = miss := hnone
  refine ds_cons (d1_ifB (k := false) (PB.to (pb_cmp o_ne (pd_len (ds := gs.filter isN) (n_len gl) (PD.to (pd_filc [("thing", 11)] B.G.d gs isN id (pit_tup (pd_at (ds := [.tuple gs, lotD lp]) (pd_var 3) pd_int (B.atI_nat (i := 0) rfl))) rfl (by show _ ≤ 16777216; omega) fun M' e y hy => dc_name 11 ⟨rfl, pb_cmp o_isN (pd_var 11) pd_non ⟨y, rfl, rfl, rfl, rfl⟩, fun _ => pd_var 11⟩) (by rw [List.map_id])) (.l (.d _))) (pd_var 7) ⟨_, _, .d _, .d _, pl_int _, pl_int _, rfl, rfl⟩) (by rw [eqv_int, hnl, decide_eq_true rfl]; rfl)) (fun z => nomatch z) (fun _ => ds_nil ?_))
  have lmx : maxI (grp.map fun P => lackP ls lists P) = miss := by
    obtain ⟨P, hP, e1⟩ := sp1
    refine max_is (List.mem_map.mpr ⟨P, (mgrp P).mpr hP, e1⟩) fun x hx => ?_
    obtain ⟨Q', hQ, rfl⟩ := List.mem_map.mp hx
    exact sp2 Q' ((mgrp Q').mp hQ)
  have gne : grp.map (fun P => lackP ls lists P) ≠ [] := by
    obtain ⟨P, hP, _⟩ := sp1
    have := List.ne_nil_of_mem ((mgrp P).mpr hP)
    simpa using this
  refine ds_cons (d1_ifB (k := false) (PB.to (pb_cmp o_ne (pd_callB o_maxL (n_max gl) rfl (da1 (pd_mapc [("persons", 5)] (fun l : List Int => B.G.d (lotD l)) grp (fun l => .int (lackP ls lists l)) (pit_list (ds := grp.map lotD) (pd_var 4) (.d _)) (by rw [List.map_map]; rfl) (by show _ ≤ 16777216; omega) fun M' e l hl' => dc_name 5 ⟨rfl, pd_call (ok_llack gl) (.cons (pd_var 1) (.cons (pd_var 2) (da1 (pd_var 5)))) ⟨n, ls, lists, l, rfl, h, hl, ((lotsB_iff hl).mp ((mgrp l).mp hl')).1, ((lotsB_iff hl).mp ((mgrp l).mp hl')).2, rfl, rfl⟩⟩)) ⟨_, grp.map (fun l => lackP ls lists l), rfl, by rw [List.map_map]; exact .d _, gne, rfl, rfl⟩) (pd_var 7) ⟨_, _, .d _, .d _, pl_int _, pl_int _, rfl, rfl⟩) (by rw [eqv_int, lmx, decide_eq_true rfl]; rfl)) (fun z => nomatch z) (fun _ => ds_nil ?_))
  refine ds_cons (d1_set 5 (de_call (ok_lot_drawn gl) (da_cons (PD.de (pd_var 0) (da_cons (PD.de (PD.to (pd_len (n_len gl) (pd_var 2) (.t _)) (by rw [List.length_map])) (da_nil ⟨p, l0, c, ((lists.length : Nat) : Int), rfl, hp, hl0, by omega, by omega, by omega, fun lot hl6 hlt l3 hl3 => ?_⟩)))))))
  obtain ⟨zs, ezs⟩ : ∃ zs, (List.replicate lists.length [PyData.none]).flatten = zs := ⟨_, rfl⟩
  have wzs : Wd (.tuple zs) := fun ds e => by
    cases e
    rw [← ezs, zeros_is, List.length_replicate]
    show _ ≤ 16777216
    omega
  have wlot : Wd (lotD lot) := wd_lot (by have := F_len lot hl6; show _ ≤ 16777216; omega)
  obtain ⟨v1, ev1⟩ : ∃ v1 : List PyData, [.tuple [.tuple gs, lotD lp], .tuple [.tuple gs, lotD lot], .tuple [.tuple zs, lotD lot], .tuple [.tuple zs, lotD lp], .tuple [lotD lp, .tuple gs]] = v1 := ⟨_, rfl⟩
  refine ds_cons (d1_set 8 (PD.de (g := .d (.list v1)) (PD.to (pd_list (ds := [.tuple [.tuple gs, lotD lp], .tuple [.tuple gs, lotD lot], .tuple [.tuple zs, lotD lot], .tuple [.tuple zs, lotD lp], .tuple [lotD lp, .tuple gs]]) (.cons (pd_var 3) (.cons (pd_tup (ds := [.tuple gs, lotD lot]) (.cons (pd_at (ds := [.tuple gs, lotD lp]) (pd_var 3) pd_int (B.atI_nat (i := 0) rfl)) (da1 (pd_var 5)))) (.cons (pd_tup (ds := [.tuple zs, lotD lot]) (.cons (PD.to (pd_bin (z := .d (.tuple (List.replicate lists.length [PyData.none]).flatten)) o_repT (pd_tup (ds := [.none]) (da1 pd_non)) (PD.to (pd_len (n_len gl) (pd_var 2) (.t _)) (by rw [List.length_map])) ⟨[.none], lists.length, rfl, rfl, by simp, by omega, by decide, rfl, rfl⟩) (by rw [ezs])) (da1 (pd_var 5)))) (.cons (pd_tup (ds := [.tuple zs, lotD lp]) (.cons (PD.to (pd_bin (z := .d (.tuple (List.replicate lists.length [PyData.none]).flatten)) o_repT (pd_tup (ds := [.none]) (da1 pd_non)) (PD.to (pd_len (n_len gl) (pd_var 2) (.t _)) (by rw [List.length_map])) ⟨[.none], lists.length, rfl, rfl, by simp, by omega, by decide, rfl, rfl⟩) (by rw [ezs])) (da1 (pd_at (ds := [.tuple gs, lotD lp]) (pd_var 3) pd_int (B.atI_nat (i := 1) rfl))))) (da1 (PD.to (pd_revT (ds := [.tuple gs, lotD lp]) (pd_var 3)) rfl))))))) (by rw [ev1])) ?_))
  have hv1l : v1.length = 5 := by rw [← ev1]; rfl
  have hv1 : ∀ v ∈ v1, VV v := fun v hv => by
    rw [← ev1] at hv
    simp only [List.mem_cons, List.not_mem_nil, or_false] at hv
    rcases hv with rfl | rfl | rfl | rfl | rfl
    · exact hvv
    · exact two_vv wgs wlot
    · exact two_vv wzs wlot
    · exact two_vv wzs wlp
    · exact two_vv wlp wgs
  refine ds_cons (d1_for (di_list (de_bin o_catL (de_bin o_catL (PD.de (pd_var 8) (de_list (da_cons (PD.de pd_non (da_cons (PD.de (pd_tup (ds := []) .nil) (da_cons (de_call (ok_odd gl) (da_cons (PD.de (pd_var 0) (da_nil ⟨p, l3, _, rfl, put_same, hl3, by omega, fun od l4 hod hl4 => da_nil ⟨[.none, .tuple [], od], rfl, Nat.le_of_ble_eq_true rfl, .frz ⟨v1, [.none, .tuple [], od], .d _, .d _, by rw [hv1l]; exact Nat.le_of_ble_eq_true rfl, .frz ?_⟩⟩⟩)))))))))))))))
  rw [put_put]
  have hl4 := hl4.up (d := c + 20) (by omega)
  refine de_lc (own := [("turn", 12)]) (lcP_eff (fun j l => PotL l (c + 20 + 12 * j)) (fun (_ : Nat) d => VV d) p l4 (fun j : Nat => B.G.d (.int (0 + (j : Nat)))) (List.range 8) put_same (hl4.up (by omega)) (pitx_range1 (n_range gl) pd_int ⟨by omega, by omega⟩) rfl (by rw [List.length_range]; show _ ≤ 16777216; omega) ?_ ?_) (blkOk_by (by kernel_rfl))
  · intro j M' l7 hj kp hp4 hS x0 ex
    rw [List.length_range] at hj
    exact dc_name 12 ⟨rfl, de_call (ok_bentN gl 2) (da_cons (PD.de (pd_var 0) (da_cons (PD.de (pd_var 3) (da_nil ⟨p, l7, _, _, rfl, hp4, hS, by omega, by omega, hbn, fun r l8 hr hl8 => ⟨r, l8, rfl, hr.2, hl8.up (by omega), rfl⟩⟩)))))⟩
  intro es l7 hel hes hS
  rw [put_put]
  have hes' : ∀ d ∈ es, VV d := fun d hd => let ⟨_, _, h⟩ := hes d hd; h
  rw [List.length_range] at hel hS
  obtain ⟨vs, evs⟩ : ∃ vs, v1 ++ [.none, .tuple [], od] ++ es = vs := ⟨_, rfl⟩
  refine .frz ⟨_, es, .d _, .d _, by rw [List.length_append, hv1l, hel]; exact Nat.le_of_ble_eq_true rfl, .frz ⟨vs, by rw [evs]; exact .d _, ?_⟩⟩
  have hvs : ∀ v ∈ vs, VV v := fun v hv => by
    rw [← evs] at hv
    rcases List.mem_append.mp hv with hv | hv
    · rcases List.mem_append.mp hv with hv | hv
      · exact hv1 v hv
      · simp only [List.mem_cons, List.not_mem_nil, or_false] at hv
        rcases hv with rfl | rfl | rfl
        · exact v28_no rfl
        · exact v28_of fun x hx => nomatch hx
        · exact odd_v28 hod
    · exact hes' v hv
  rw [evs]
  have ngx : NoGen (put M p (.lst l7)) := noGen_put ng _ _
  obtain ⟨Mx, eMx⟩ : ∃ Mx, put M p (.lst l7) = Mx := ⟨_, rfl⟩
  rw [eMx] at ngx ⊢
  refine ⟨fun j ρ M' => ∃ y9, M' = Mx ∧ ρ = [some (.op (.ref p)), some (.d (heapD (n : Nat) ls)), some (.d (lsT lists)), some (.d (.tuple [.tuple gs, lotD lp])), some (.d (.list (grp.map lotD))), some (.d (lotD lot)), some (.d (.list (can.map lotD))), some (.d (.int miss)), some (.d (.list v1)), y9, none, none, none], ⟨_, rfl, rfl⟩, fun _ _ _ _ _ => .d _, ?_, ?_⟩
  · rintro j g ρ M' eg ⟨y9, rfl, rfl⟩
    rw [List.getElem?_map] at eg
    cases ev : vs[j]? with
    | none => rw [ev] at eg; cases eg
    | some v =>
      rw [ev] at eg
      cases eg
      have hv := hvs v (List.mem_of_getElem? ev)
      exact dg_name 9 (ds_cons (d1_ifB (k := false) (PB.to (pb_not (pb_val (pd_call (ok_is_bool gl) (.cons (de_callP2 (ok_showsM gl fk) (da_cons (PD.de (pd_var 1) (da_nil ⟨rfl, PD.de (pd_var 9) (PD.de (pd_var 2) ⟨n, ls, lists, v, rfl, h, hl, ngx, hv, rfl, rfl⟩)⟩)))) (da1 (pd_call (ok_lmost gl) (.cons (pd_var 1) (.cons (pd_var 2) (da1 (pd_var 9)))) ⟨n, ls, lists, v, rfl, h, hl, hv, rfl, rfl⟩))) ⟨mostB n ls lists v, mostB n ls lists v, rfl, rfl, rfl⟩))) (by simp)) (fun z => nomatch z) (fun _ => ds_nil (ds_nil ⟨_, rfl, rfl⟩))))
  · rintro ρ M' ⟨y9, rfl, rfl⟩
    rw [← eMx]
    exact ds_cons (d1_ret (PD.de pd_bl (q l7 (hS.up (by omega)))))
theorem ok_right (gl : Gl K mg) (fk : FaK K mg) {c1 a1 : Addr} (hF1 : CodeAt K mg d__law_plain_choice c1) (TB1 : LamX.TabB base mg c1 a1) : Fn P w K mg base 13 "_law_right" (o_right a1) := by
  refine okf (k := 12) (d := d__law_right) (N := ["pot", "lap", "choice"]) (ps := ["pot"]) gl (ixOf "_law_right") (by kernel_rfl) (fun _ _ _ _ _ _ us hl => match us, hl with | [_], _ => rfl) (by decide +kernel) (fun gs M Q ⟨_, _, e, _⟩ => by rw [e]; rfl) (fun gs M Q ⟨p, l0, e, hp, hl0, hT, q⟩ => ?_)
  subst e
  have tb : ∀ x, Tabs a1 (put M p (.lst x)) := fun x => hT.put x (noTab_lst hp)
  refine ds_cons (d1_for (di_range1 (n_range gl) (PD.de pd_int ⟨4, rfl, by omega, by omega, fun i ρ M' => ∃ l x1 x2, M' = put M p (.lst l) ∧ PotL l (5000 * i) ∧ ρ = [some (.op (.ref p)), x1, x2], ⟨l0, _, _, (put_self hp).symm, hl0.up (by omega), rfl⟩, fun _ _ _ _ _ => trivial, ?_, ?_⟩)))
  · rintro i g0 ρ M' eg ⟨l1, x1, x2, rfl, hl1, rfl⟩
    obtain ⟨hi, rfl⟩ := rangeG_get eg
    have hi2 : i < 4 := hi
    refine dg_name 1 (ds_cons (d1_set 2 (de_call (ok_choice gl hF1 TB1) (da_cons (PD.de (pd_var 0) (da_cons (PD.de pd_int (da_nil ⟨p, l1, _, 6, rfl, put_same, hl1, by omega, by omega, by omega, (tb _).t1, (tb _).ng, fun n ls l2 hm hch hl2 => ?_⟩))))))))
    rw [put_put]
    have ch : Cho n ls := ⟨hch.heap (by omega) (by omega), hch.ok.good⟩
    have hn := ch.hi
    refine ds_cons (d1_if (dt_not (dt_val (de_call (ok_isr37 gl fk) (da_cons (PD.de (pd_var 0) (da_cons (PD.de (pd_var 2) (da_cons (de_call (ok_ldrawn gl) (da_cons (PD.de (pd_var 0) (da_cons (PD.de (pd_at (pd_var 2) pd_int rfl) (da_cons (PD.de pd_int (da_nil ⟨p, l2, _, n, 5, rfl, put_same, hl2, by omega, hn, by omega, by omega, fun lists l3 hln hll hl3 => da_nil ⟨p, l3, _, n, ls, lists, rfl, put_same, hl3, by omega, by omega, ⟨ch, hln⟩, by omega, noGen_put (tb _).ng _ _, fun l4 hl4 => ⟨true, rfl, ?_⟩⟩⟩)))))))))))))))))
    rw [put_put, put_put]
    exact ifF rfl (ds_nil (ds_nil ⟨l4, _, _, rfl, hl4.up (by omega), rfl⟩))
  · rintro ρ M' ⟨l, x1, x2, rfl, hl, rfl⟩
    exact ds_cons (d1_ret (PD.de pd_bl (q l)))
end
end K13
end
section
set_option maxHeartbeats 4000000
namespace K13
open PySem PySem.Spec PyProof.Rows L2 B
/-! GL: the law; the facts of the top. -/
section
variable {P : Program} {w : World} {K : PySem.W.Frag} {mg : Str → Option Value} {base : Heap} {D fI : Addr}
theorem law_body (gl : Gl K mg) (fk : FaK K mg) {c1 a1 : Addr} (hF1 : CodeAt K mg d__law_plain_choice c1) (TB1 : LamX.TabB base mg c1 a1)
    {gs : List B.G} {M : Sto} {Q : B.G → Sto → Prop} (ho : oLawT K (tabsL a1) gs M Q) :
    DS ⟨P, w, K, mg, base, ["script", "at"], d_law.scope, 14, fun _ => true, none, fun _ => True⟩ d_law.body (startG ["script", "at"] gs) M (dRet Q) := by
  obtain ⟨g, ns, e, hs, hT, hN, q⟩ := ho
  subst e
  have hTb : Tabs a1 M := Tabs.of hT hN
  refine ds_cons (d1_ret (de_callB o_all (n_all gl) rfl (da_cons (de_lc (own := [("at", 1)]) ?_ (blkOk_by (by kernel_rfl))))))
  refine di_list (de_call (ok_cells gl) (da_cons (PD.de (pd_var 0) (da_cons (PD.de pd_int (da_nil ?_))))))
  refine ⟨g, ns, rfl, hs _ (Ext.refl M), fun k hk => ⟨rangeD k, .d _, fun D hD => ⟨fun i acc M' => acc = List.replicate i (.d (.bool true)) ∧ M' = put M D (.lst acc), ⟨rfl, rfl⟩, fun _ _ _ _ _ => .d _, ?_, ?_⟩⟩⟩
  · rintro i g2 acc M' eg ⟨rfl, rfl⟩
    obtain ⟨hik, rfl⟩ : i < k ∧ g2 = .d (.int ((i : Nat) : Int)) := by
      unfold rangeD at eg
      rw [List.map_map, List.getElem?_map] at eg
      by_cases hik : i < k
      · rw [List.getElem?_range hik] at eg
        cases eg
        exact ⟨hik, rfl⟩
      · rw [List.getElem?_eq_none (by rw [List.length_range]; omega)] at eg
        cases eg
    refine ⟨by rw [List.length_replicate]; show i < 16777216; omega, dc_name 1 (dts_nil (ifT rfl (de_drop ?_)))⟩
    refine de_call (ok_right gl fk hF1 TB1) (da_cons (de_call (ok_pot gl) (da_cons (PD.de (pd_var 0) (da_cons (PD.de (pd_var 1) (da_nil ?_)))))))
    refine ⟨g, ns, i, rfl, hs _ (Ext.put hD), by omega, fun p l hp hl => da_nil ⟨p, l, rfl, put_same, hl, (hTb.new _ hD).new _ hp, fun l' => ⟨put M D (.lst (List.replicate i (.d (.bool true)))), ?_, put_same, ?_, ?_⟩⟩⟩
    · rw [put_put]
      exact Ext.put hp
    · rw [List.replicate_succ']
    · rw [put_put]
  · rintro acc M' ⟨rfl, rfl⟩
    have el : ((rangeD k).map B.G.d).length = k := by
      unfold rangeD
      rw [List.length_map, List.length_map, List.length_range]
    rw [el]
    refine ⟨put_same, .inl ⟨List.replicate k (.bool true), by rw [List.map_replicate], ?_⟩⟩
    rw [del_put hD]
    refine da_nil ⟨_, List.replicate k true, rfl, ?_, ?_⟩
    · rw [List.map_replicate]; exact .d _
    · have : (List.replicate k true).all id = true := by rw [List.all_replicate]; simp
      rw [this]
      exact q
theorem fnG_law (gl : Gl K mg) (fk : FaK K mg) {f : Addr} {fd : FuncData} (F : FunD K d_law.name d_law.qual d_law.params d_law.body d_law.scope [] [] f fd) {c1 a1 : Addr} (hF1 : CodeAt K mg d__law_plain_choice c1) (TB1 : LamX.TabB base mg c1 a1) :
    FnG P w K mg base 15 f fd ["script"] (oLawT K (tabsL a1)) := by
  obtain ⟨oc, od, dV, kV, doc, pm, an, cdv, ct, osl, rfl, lk, hcd, h1, h2⟩ := F.ex
  exact fnG_of (cd := none) (N := ["script", "at"]) lk hcd (C8.fnScope_by (by decide +kernel)) (fun gs M Q ⟨_, _, e, _⟩ => by rw [e]; rfl) (fun p z => nomatch z) (fun gs M Q ho => law_body gl fk hF1 TB1 ho)
end
def plainD (d : He.DefD) : Bool := d.at_.2.isNone && (d.at_.1 == d.name) && d.dfl.isEmpty && d.kwd.isEmpty
theorem plain_all : fnL.all plainD = true := by kernel_rfl
def gloIn (x : Str) : Bool := faL.any fun f => match f with
  | .glo y => y == x
  | _ => false
theorem glo_all : (fnL.all fun d => gloIn d.name) = true := by kernel_rfl
def meD (d : He.DefD) : Bool := d.at_.2 == some d.name && (d.at_.1 == "Faces") && d.dfl.isEmpty && d.kwd.isEmpty
theorem meD_all : meL.all meD = true := by kernel_rfl
theorem meth_all : (meL.all fun d => (d.name == "__init__") || faL.any fun f => match f with
  | .meth x y => (x == "Faces") && (y == d.name)
  | _ => false) = true := by kernel_rfl
section
variable {P : Program} {w : World} {K : PySem.W.Frag} {mg : Str → Option Value} {base h : Heap}
theorem def_at (X : K.In h) (G : h.Ns mainGlobals mg) (c : He.SaysD faL (fnL ++ meL) K) {d : He.DefD} (hd : d ∈ fnL) :
    d.at_ = (d.name, none) ∧ ∃ fd, FunD K d.name d.qual d.params d.body d.scope [] [] (He.ga K d.name) fd ∧ mg d.name = some (.ref (He.ga K d.name)) := by
  have h1 := List.all_eq_true.mp plain_all d hd
  have h2 := List.all_eq_true.mp glo_all d hd
  unfold plainD at h1
  simp only [Bool.and_eq_true, beq_iff_eq, List.isEmpty_iff, Option.isNone_iff_eq_none] at h1
  obtain ⟨⟨⟨h11, h12⟩, h13⟩, h14⟩ := h1
  have eat : d.at_ = (d.name, none) := Prod.ext h12 h11
  obtain ⟨fd, F⟩ := c.defs (List.mem_append_left _ hd)
  unfold He.DefD.dvs He.DefD.kws at F
  rw [h13, h14, eat] at F
  refine ⟨eat, fd, F, ?_⟩
  unfold gloIn at h2
  obtain ⟨f, hf, e⟩ := List.any_eq_true.mp h2
  cases f with
  | glo y =>
    have ey : y = d.name := eq_of_beq e
    subst ey
    exact He.glo_ok X G (c.facts hf)
  | _ => cases e
theorem gl_of (X : K.In h) (G : h.Ns mainGlobals mg) (c : He.SaysD faL (fnL ++ meL) K) : Gl K mg :=
  ⟨fun d hd => let ⟨_, fd, F, e⟩ := def_at X G c hd; ⟨_, fd, F, e⟩, fun x hx => He.free_ok X G (c.facts hx), fun x i hx => He.int_ok X G (c.facts hx), fun x z hx => He.str_ok X G (c.facts hx)⟩
theorem fak_of (X : K.In h) (G : h.Ns mainGlobals mg) (c : He.SaysD faL (fnL ++ meL) K) (s : B.sclsB K "Faces" [("amount", 0), ("every", 1), ("fulls", 2), ("ranks_told", 3)] = true) : FaK K mg := by
  have hg : gloIn "Faces" = true := by kernel_rfl
  refine ⟨sclsB_ok s, ?_, ?_, fun d hd hn => ?_, fun d hd => ?_⟩
  · unfold gloIn at hg
    obtain ⟨f, hf, e⟩ := List.any_eq_true.mp hg
    cases f with
    | glo y =>
      have ey : y = "Faces" := eq_of_beq e
      subst ey
      exact He.glo_ok X G (c.facts hf)
    | _ => cases e
  · exact He.mkr_ok (c.facts (List.mem_of_getElem? (i := 76) rfl))
  · have h1 := List.all_eq_true.mp meth_all d hd
    rcases Bool.or_eq_true _ _ ▸ h1 with h1 | h1
    · exact absurd (eq_of_beq h1) hn
    · obtain ⟨f, hf, e⟩ := List.any_eq_true.mp h1
      cases f with
      | meth x y =>
        have e := Bool.and_eq_true _ _ ▸ e
        have ex : x = "Faces" := eq_of_beq e.1
        have ey : y = d.name := eq_of_beq e.2
        subst ex ey
        exact He.meth_ok (c.facts hf)
      | _ => cases e
  · have h1 := List.all_eq_true.mp meD_all d hd
    unfold meD at h1
    simp only [Bool.and_eq_true, beq_iff_eq, List.isEmpty_iff] at h1
    obtain ⟨⟨⟨h11, h12⟩, h13⟩, h14⟩ := h1
    have eat : d.at_ = (("Faces" : Str), some d.name) := Prod.ext h12 h11
    obtain ⟨fd, F⟩ := c.defs (List.mem_append_right _ hd)
    unfold He.DefD.dvs He.DefD.kws at F
    rw [h13, h14, eat] at F
    exact ⟨fd, F⟩
theorem code_at (X : K.In h) (G : h.Ns mainGlobals mg) (c : He.SaysD faL (fnL ++ meL) K) {d : He.DefD} (hd : d ∈ fnL) : CodeAt K mg d (He.cT K (d.name, none)).1 := by
  obtain ⟨eat, fd, F, e⟩ := def_at X G c hd
  obtain ⟨oc, od, dV, kV, doc, pm, an, cdv, ct, osl, efd, lk, hcd, _, _⟩ := F.ex
  obtain ⟨cc, ec⟩ := He.codeIn_ref hcd
  refine ⟨_, fd, F, e, ?_⟩
  have e1 : fd.code = .ref cc := by rw [efd]; exact ec
  have e2 : He.codeOf K (d.name, none) = cc := He.codeOf_eq (K := K) (p := (d.name, none)) lk e1
  show fd.code = .ref (He.codeOf K (d.name, none))
  rw [e2, e1]
end
end K13
end
section
set_option maxHeartbeats 0
namespace K13
open PySem PySem.Spec PyProof.Rows L2 B
/-! GE: the end. -/
theorem mem_1 : d__law_plain_choice ∈ fnL := List.mem_of_getElem? (i := 39) rfl
theorem tf_1 : (("_law_plain_choice", none) : He.Defn) ∈ tfL := by unfold tfL; simp
theorem mem_law : d_law ∈ fnL := List.mem_of_getElem? (i := 52) rfl
theorem lawAt {w : World} {K : PySem.W.Frag} {mg : Str → Option Value} {fa : Addr} {h : Heap} (X : K.In h) (G : h.Ns mainGlobals mg) (hfa : mg ("law" : Str) = some (.ref fa)) (cy : B.SaysY faL (fnL ++ meL) [] tfL exL initV errN w h K) :
    LawG PySem.Challenge.rw_bestofall_k37_whole_as_many_persons_as_c w K 15 63 "script" mg fa h := by
  have c := cy.x
  have cD := c.t.d
  obtain ⟨_, fd, F, e⟩ := def_at X G cD mem_law
  have efa : He.ga K "law" = fa := by
    have e' : mg ("law" : Str) = some (.ref (He.ga K "law")) := e
    rw [hfa] at e'
    cases e'
    rfl
  have F' : FunD K d_law.name d_law.qual d_law.params d_law.body d_law.scope [] [] fa fd := by
    rw [← efa]
    exact F
  have gl := gl_of (mg := mg) X G cD
  have hm0 := c.more
  unfold exL at hm0
  try simp only [Bool.and_eq_true, decide_eq_true_eq] at hm0
  have fk : FaK K mg := fak_of X G cD hm0
  have bA := FunD.bindsA (ps := ["script"]) F' fun _ _ _ _ _ _ us hl => match us, hl with | [_], _ => rfl
  refine ⟨fd, [He.cT K ("_law_plain_choice", none)], oLawT K (tabsL (He.cT K ("_law_plain_choice", none)).2), fun p h => ?_, fun p h => ?_, fun p h => ?_, fun s u => bA s [u] rfl, fun H a ns hl _ hT hS => ?_, fun base KB GB TB => ?_⟩
  · simp only [List.mem_cons, List.not_mem_nil, or_false] at h
    subst h
    exact c.empty _ tf_1
  · simp only [List.mem_cons, List.not_mem_nil, or_false] at h
    subst h
    exact c.out _ tf_1
  · simp only [List.mem_cons, List.not_mem_nil, or_false] at h
    subst h
    exact PySem.W.codeHd_of_K X (c.hd _ tf_1)
  · refine law_startT ?_ (fun p h => ?_) hS
    · unfold tabsL
      simp only [List.map_cons, List.map_nil, List.nodup_cons, List.mem_cons, List.not_mem_nil, or_false, List.nodup_nil, and_true, not_false_eq_true]
    · unfold tabsL at h
      simp only [List.mem_cons, List.not_mem_nil, or_false] at h
      subst h
      exact hT (He.cT K ("_law_plain_choice", none)) List.mem_cons_self
  · exact fnG_law gl fk F' (code_at X G cD mem_1) (TB (He.cT K ("_law_plain_choice", none)) List.mem_cons_self)
end K13
open PySem PySem.W PySem.Calls PyProof.Rows
theorem PySem.Challenge.cw_bestofall_k37_whole_as_many_persons_as_c_holds : PySem.Challenge.rw_bestofall_k37_whole_as_many_persons_as_c.Holds := by
  w_on; o_law
  refine HandSHeadRun.head_any (r := OpenLaw.row PySem.Challenge.rw_bestofall_k37_whole_as_many_persons_as_c) (q := view (OpenLaw.row PySem.Challenge.rw_bestofall_k37_whole_as_many_persons_as_c).prog [63]) (H := K13.hk) (ob := K13.ob) (M := 5000) (loose := K13.namesL) (d := HandSHeadRun.topDef (OpenLaw.row PySem.Challenge.rw_bestofall_k37_whole_as_many_persons_as_c).prog 63) (kwd := []) K13.ob_eq
    (by kernel_rfl) (fun s => by kernel_rfl) K13.run (by kernel_rfl) (by kernel_rfl) (by kernel_rfl) (by rfl) (by first | assumption | decide +kernel) (by decide +kernel) ⟨rfl, rfl, rfl, rfl, rfl, by decide +kernel⟩ ?hw ?hc
  case hw => w_witness2
  case hc =>
    refine B.walk_G (l := PySem.Challenge.rw_bestofall_k37_whole_as_many_persons_as_c) (n := 63) (k := 15) (x := "script") rfl (by decide) (by kernel_rfl) ⟨⟨rfl, by decide, by decide⟩, rfl⟩ ?F
    intro w mg fa h Y G hmg0
    obtain ⟨K, KX, c⟩ := Y
    have hmg : mg ("law" : PySem.Str) = some (.ref fa) := by
      have e : (HandSHeadRun.topDef (OpenLaw.row PySem.Challenge.rw_bestofall_k37_whole_as_many_persons_as_c).prog 63).name = ("law" : PySem.Str) := by kernel_rfl
      rw [← e]
      exact hmg0
    exact ⟨K, KX, K13.lawAt KX G hmg c⟩
end
