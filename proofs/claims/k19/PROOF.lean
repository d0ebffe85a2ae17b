import PyProof.Rows.All
import Wide.All
import OpenK.AllK
import Wide.FinOn
import HandS.ForMost
import HandS.ForExc
import HandS.Deep
import HandS.Wide
import HandS.Lambda
import HandS.ExcCtx
import HandS.SuiteRaise
import HandS.HotCalls
import KE.SortData
import KE.DataMinMax
import HandS.TupAny
import HandS.TupMul
import HandS.Rev
import HandS.Style
import HandS.IsInst
import HandS.SetFor
import HandS.Defaults
import HandS.HeadHook1
import HandS.HeadHook2
import HandS.ExcIs
import PyProof.SumAny
import PyProof.P3Eq
import PyProof.SetRoads
import HandS.TupSets
import HandS.Dict
import PyProof.FactsLen
import HandS.NamedTupGet
import HandS.Head2
import HandS.HeadHook4
import HandS.HeadWalk
import PySem.Challenge.RW_digitdrop_k19_whole_walks
import HandS.HeadEnd
set_option Elab.async false
set_option linter.all false
set_option maxRecDepth 100000
set_option maxHeartbeats 2000000
namespace DD
/-- the name that the lambdas of a table have -/
class Nu where
  nu : PySem.Addr → PySem.Str
variable [Nu]
open PySem L2
/-! ## data in the abstract heap -/
def keyOf (k : List Int) : List Key := k.map Sum.inl
/-- a dict whose keys are tuples of ints, as data -/
def dctD (kvs : List (List Int × PyData)) : PyData := .dict (kvs.map fun z => (.tuple (z.1.map .int), z.2))
mutual
inductive At (H : Hp) : V → PyData → Prop
  | non : At H .non .none
  | bl (b : Bool) : At H (.bl b) (.bool b)
  | int (i : Int) : At H (.int i) (.int i)
  | str (x : Str) : At H (.str x) (.str x)
  | lst {a : Addr} {xs : List V} {ds : List PyData} : H a = some (.lst xs) → AtAll H xs ds → At H (.ref a) (.list ds)
  | tup {a : Addr} {xs : List V} {ds : List PyData} : H a = some (.tup xs) → AtAll H xs ds → At H (.ref a) (.tuple ds)
  | dct {a : Addr} {xs : List V} {kvs : List (List Int × PyData)} {ps : List (PyData × PyData)} : ps = kvs.map (fun z => (PyData.tuple (z.1.map .int), z.2)) → H a = some (.dT ((kvs.map fun z => keyOf z.1).zip xs)) → AtAll H xs (kvs.map (·.2)) → At H (.ref a) (.dict ps)
inductive AtAll (H : Hp) : List V → List PyData → Prop
  | nil : AtAll H [] []
  | cons {v : V} {vs : List V} {d : PyData} {ds : List PyData} : At H v d → AtAll H vs ds → AtAll H (v :: vs) (d :: ds)
end
theorem At.up {H H' : Hp} {v : V} {d : PyData} (h : At H v d) (e : Same H H') : At H' v d :=
  At.rec (motive_1 := fun v d _ => At H' v d) (motive_2 := fun vs ds _ => AtAll H' vs ds) .non .bl .int .str (fun h1 _ ih => .lst (e _ _ h1) ih) (fun h1 _ ih => .tup (e _ _ h1) ih) (fun h0 h1 _ ih => .dct h0 (e _ _ h1) ih) .nil (fun _ _ i1 i2 => .cons i1 i2) h
theorem AtAll.up {H H' : Hp} {vs : List V} {ds : List PyData} (h : AtAll H vs ds) (e : Same H H') : AtAll H' vs ds :=
  AtAll.rec (motive_1 := fun v d _ => At H' v d) (motive_2 := fun vs ds _ => AtAll H' vs ds) .non .bl .int .str (fun h1 _ ih => .lst (e _ _ h1) ih) (fun h1 _ ih => .tup (e _ _ h1) ih) (fun h0 h1 _ ih => .dct h0 (e _ _ h1) ih) .nil (fun _ _ i1 i2 => .cons i1 i2) h
/-! no dict in it -/
mutual
def nod : PyData → Bool
  | .list xs => nods xs
  | .tuple xs => nods xs
  | .dict _ => false
  | _ => true
def nods : List PyData → Bool
  | [] => true
  | x :: xs => nod x && nods xs
end
mutual
theorem nod_lay : ∀ d : PyData, d.canLay0 = true → nod d = true
  | .none, _ => rfl
  | .bool _, _ => rfl
  | .int _, _ => rfl
  | .str _, _ => rfl
  | .list xs, h => by rw [nod]; exact nods_lay xs h
  | .tuple xs, h => by rw [nod]; exact nods_lay xs h
  | .dict _, h => nomatch h
theorem nods_lay : ∀ xs : List PyData, PyData.canLayAll0 xs = true → nods xs = true
  | [], _ => by rw [nods]
  | x :: xs, h => by
    have h' : x.canLay0 = true ∧ PyData.canLayAll0 xs = true := by simpa [PyData.canLayAll0] using h
    rw [nods, nod_lay x h'.1, nods_lay xs h'.2]; rfl
end
mutual
theorem At.dp' (K : PySem.W.Frag) {H : Hp} : ∀ (d : PyData) (v : V), nod d = true → At H v d → Dp K H v d
  | .none, _, _, h => by cases h; exact .non
  | .bool _, _, _, h => by cases h; exact .bl _
  | .int _, _, _, h => by cases h; exact .int _
  | .str _, _, _, h => by cases h; exact .str _
  | .list ds, _, n, h => by
    cases h with
    | lst h1 h2 => exact .lst (SqL.of h1) (AtAll.dp' K ds _ (by rw [nod] at n; exact n) h2)
  | .tuple ds, _, n, h => by
    cases h with
    | tup h1 h2 => exact .tup (SqT.of h1) (AtAll.dp' K ds _ (by rw [nod] at n; exact n) h2)
  | .dict _, _, n, h => by rw [nod] at n; cases n
theorem AtAll.dp' (K : PySem.W.Frag) {H : Hp} : ∀ (ds : List PyData) (vs : List V), nods ds = true → AtAll H vs ds → DpAll K H vs ds
  | [], _, _, h => by cases h; exact .nil
  | d :: ds, _, n, h => by
    rw [nods, Bool.and_eq_true] at n
    cases h with
    | cons h1 h2 => exact .cons (At.dp' K d _ n.1 h1) (AtAll.dp' K ds _ n.2 h2)
end
theorem At.dp {K : PySem.W.Frag} {H : Hp} {v : V} {d : PyData} (n : nod d = true) (h : At H v d) : Dp K H v d := At.dp' K d v n h
theorem AtAll.len {H : Hp} : ∀ {vs : List V} {ds : List PyData}, AtAll H vs ds → vs.length = ds.length
  | _, _, .nil => rfl
  | _, _, .cons _ t => by rw [List.length_cons, List.length_cons, AtAll.len t]
theorem AtAll.get {H : Hp} : ∀ {vs : List V} {ds : List PyData} {i : Nat} {d : PyData}, AtAll H vs ds → ds[i]? = some d → ∃ v, vs[i]? = some v ∧ At H v d
  | _, _, _, _, .nil, e => by simp at e
  | _, _, 0, _, .cons r _, e => by simp at e; subst e; exact ⟨_, rfl, r⟩
  | _, _, i + 1, d, .cons _ t, e => by
    obtain ⟨u, h1, h2⟩ := AtAll.get (i := i) (d := d) t (by simpa using e)
    exact ⟨u, by simpa using h1, h2⟩
theorem AtAll.get' {H : Hp} : ∀ {vs : List V} {ds : List PyData} {i : Nat} {v : V}, AtAll H vs ds → vs[i]? = some v → ∃ d, ds[i]? = some d ∧ At H v d
  | _, _, _, _, .nil, e => by simp at e
  | _, _, 0, _, .cons r _, e => by simp at e; subst e; exact ⟨_, rfl, r⟩
  | _, _, i + 1, d, .cons _ t, e => by
    obtain ⟨u, h1, h2⟩ := AtAll.get' (i := i) (v := d) t (by simpa using e)
    exact ⟨u, by simpa using h1, h2⟩
theorem AtAll.app {H : Hp} : ∀ {vs ws : List V} {ds es : List PyData}, AtAll H vs ds → AtAll H ws es → AtAll H (vs ++ ws) (ds ++ es)
  | _, _, _, _, .nil, s => s
  | _, _, _, _, .cons r t, s => .cons r (AtAll.app t s)
theorem AtAll.take {H : Hp} : ∀ {vs : List V} {ds : List PyData} (n : Nat), AtAll H vs ds → AtAll H (vs.take n) (ds.take n)
  | _, _, 0, _ => .nil
  | _, _, _ + 1, .nil => .nil
  | _, _, n + 1, .cons r t => .cons r (AtAll.take n t)
theorem AtAll.drop {H : Hp} : ∀ {vs : List V} {ds : List PyData} (n : Nat), AtAll H vs ds → AtAll H (vs.drop n) (ds.drop n)
  | _, _, 0, r => r
  | _, _, _ + 1, .nil => .nil
  | _, _, n + 1, .cons _ t => AtAll.drop n t
theorem AtAll.rev {H : Hp} : ∀ {vs : List V} {ds : List PyData}, AtAll H vs ds → AtAll H vs.reverse ds.reverse
  | _, _, .nil => .nil
  | _, _, .cons r t => by
    rw [List.reverse_cons, List.reverse_cons]
    exact (AtAll.rev t).app (.cons r .nil)
theorem AtAll.set {H : Hp} {v : V} {d : PyData} (h : At H v d) : ∀ {vs : List V} {ds : List PyData} (i : Nat), AtAll H vs ds → AtAll H (vs.set i v) (ds.set i d)
  | _, _, _, .nil => .nil
  | _, _, 0, .cons _ t => .cons h t
  | _, _, i + 1, .cons q t => .cons q (AtAll.set h i t)
theorem At.int_inv {H : Hp} {v : V} {i : Int} (h : At H v (.int i)) : v = .int i := by cases h; rfl
theorem At.bl_inv {H : Hp} {v : V} {b : Bool} (h : At H v (.bool b)) : v = .bl b := by cases h; rfl
theorem At.str_inv {H : Hp} {v : V} {x : Str} (h : At H v (.str x)) : v = .str x := by cases h; rfl
theorem AtAll.ints {H : Hp} : ∀ {ns : List Int} {vs : List V}, AtAll H vs (ns.map PyData.int) → vs = ns.map V.int
  | [], _, h => by cases h; rfl
  | n :: ns, _, h => by
    cases h with
    | cons h1 h2 => rw [h1.int_inv, AtAll.ints h2]; rfl
theorem atAll_ints {H : Hp} : ∀ (ns : List Int), AtAll H (ns.map V.int) (ns.map PyData.int)
  | [] => .nil
  | _ :: ns => .cons (.int _) (atAll_ints ns)
theorem AtAll.bls {H : Hp} : ∀ {bs : List Bool} {vs : List V}, AtAll H vs (bs.map PyData.bool) → vs = bs.map V.bl
  | [], _, h => by cases h; rfl
  | n :: ns, _, h => by
    cases h with
    | cons h1 h2 => rw [h1.bl_inv, AtAll.bls h2]; rfl
theorem atAll_bls {H : Hp} : ∀ (bs : List Bool), AtAll H (bs.map V.bl) (bs.map PyData.bool)
  | [] => .nil
  | _ :: ns => .cons (.bl _) (atAll_bls ns)
theorem AtAll.strs {H : Hp} : ∀ {bs : List Str} {vs : List V}, AtAll H vs (bs.map PyData.str) → vs = bs.map V.str
  | [], _, h => by cases h; rfl
  | n :: ns, _, h => by
    cases h with
    | cons h1 h2 => rw [h1.str_inv, AtAll.strs h2]; rfl
/-! ## hidden places, growth -/
def hid (O : Addr → Bool) (H : Hp) : Hp := fun a => if O a = true then none else H a
theorem hid_le {O : Addr → Bool} {H : Hp} : Same (hid O H) H := fun a o e => by
  unfold hid at e
  split at e
  · cases e
  · exact e
theorem hid_at {O : Addr → Bool} {H : Hp} {a : Addr} (h : O a = false) : hid O H a = H a := by
  unfold hid
  rw [if_neg (by rw [h]; decide)]
theorem hid_of {O : Addr → Bool} {H : Hp} {a : Addr} {o : HO} (h : hid O H a = some o) : O a = false ∧ H a = some o := by
  unfold hid at h
  split at h
  · cases h
  · rename_i q
    exact ⟨by cases e : O a; rfl; exact absurd e q, h⟩
theorem hid_mono {O O' : Addr → Bool} {H H' : Hp} (h : ∀ a o, O a = false → H a = some o → O' a = false ∧ H' a = some o) : Same (hid O H) (hid O' H') := fun a o e => by
  obtain ⟨h1, h2⟩ := hid_of e
  obtain ⟨h3, h4⟩ := h a o h1 h2
  rw [hid_at h3]
  exact h4
/-- what changes: a dice (two ints), a table of code objects -/
def lamQ : Str := "law.<locals>." ++ "<lambda>"
def Cell : Option Str → Hp → Addr → Prop
  | none, H, a => ∃ x y : Int, H a = some (.lst [.int x, .int y])
  | some q, H, a => q = Nu.nu a ∧ LamX.TabS H a q
theorem Cell.up {k : Option Str} {H H' : Hp} {a : Addr} (e : Same H H') (h : Cell k H a) : Cell k H' a := by
  cases k with
  | none => obtain ⟨x, y, h⟩ := h; exact ⟨x, y, e _ _ h⟩
  | some q => exact ⟨h.1, LamX.TabS.ext h.2 e⟩
theorem Cell.there {k : Option Str} {H : Hp} {a : Addr} (h : Cell k H a) : H a ≠ none := by
  cases k with
  | none => obtain ⟨x, y, h⟩ := h; rw [h]; simp
  | some q => obtain ⟨_, ps, h, _⟩ := h; rw [h]; simp
/-- a list elsewhere changes -/
theorem Cell.mut {k : Option Str} {H : Hp} {a D : Addr} {xs : List V} {o : HO} (hD : H D = some (.lst xs)) (ne : a ≠ D) (h : Cell k H a) : Cell k (upd H D o) a := by
  cases k with
  | none => obtain ⟨x, y, h⟩ := h; exact ⟨x, y, by rw [upd_ne ne]; exact h⟩
  | some q =>
    obtain ⟨hq, ps, h1, h2, h3⟩ := h
    refine ⟨hq, ps, by rw [upd_ne ne]; exact h1, h2, fun pos cv hc => ?_⟩
    obtain ⟨c, e1, e2⟩ := h3 pos cv hc
    refine ⟨c, e1, ?_⟩
    rw [upd_ne (ne_of e2 hD (fun z => by unfold LamX.CodeO at z; cases z))]
    exact e2
structure Gr (U : Addr → Bool) (H H' : Hp) : Prop where
  keep : ∀ a o, U a = false → H a = some o → H' a = some o
  cell : ∀ a k, U a = true → Cell k H a → Cell k H' a
theorem Gr.refl (U : Addr → Bool) (H : Hp) : Gr U H H := ⟨fun _ _ _ h => h, fun _ _ _ h => h⟩
theorem Gr.trans {U : Addr → Bool} {H H1 H2 : Hp} (a : Gr U H H1) (b : Gr U H1 H2) : Gr U H H2 := ⟨fun x o u h => b.keep x o u (a.keep x o u h), fun x k u h => b.cell x k u (a.cell x k u h)⟩
theorem Gr.of {U : Addr → Bool} {H H' : Hp} (e : Same H H') : Gr U H H' := ⟨fun a o _ h => e a o h, fun _ _ _ h => h.up e⟩
theorem Gr.same {H H' : Hp} (g : Gr (fun _ => false) H H') : Same H H' := fun a o h => g.keep a o rfl h
theorem same_new {H : Hp} {p : Addr} {o : HO} (h : H p = none) : Same H (upd H p o) := fun a u e => by
  rw [upd_ne (ne_of_none e h)]
  exact e
/-! ## slots -/
/-- an owned thing of another kind: what its object is, in the heap that is seen; no tuple -/
structure Thg where
  T : Hp → HO → Prop
  up : ∀ {H H' : Hp} {o : HO}, Same H H' → T H o → T H' o
  nt : ∀ {H : Hp} {xs : List V}, ¬ T H (.tup xs)
inductive SV where
  | no | dat (d : PyData) | raw (v : V) | own (p : Addr) (ds : List PyData) | dic (p : Addr) (kvs : List (List Int × PyData)) | thg (p : Addr) (t : Thg)
abbrev Rho := List SV
def SV.addr : SV → Option Addr
  | .own p _ => some p
  | .dic p _ => some p
  | .thg p _ => some p
  | _ => none
def owns (ρ : Rho) (a : Addr) : Bool := ρ.any fun s => s.addr == some a
/-- the context of a judgement: Cx, the wish about exceptions, hidden places, volatile ones (the dices), the heap at the entry -/
structure Ct where
  X : Cx
  W : WX
  tk : L2N.Takes X W
  O : Addr → Bool
  U : Addr → Bool
  le : ∀ a, U a = true → O a = true
  base : Hp
  lv : Nat
  room : L2H.RoomH lv X.A
  hd : X.calm = true → X.A.handled = none
theorem Ct.un (C : Ct) : C.X.A.units + 100 < cLine := by
  have := C.room.un
  omega
theorem Ct.room' (C : Ct) (hc : C.X.calm = true) : Room C.lv C.X.A := ⟨C.hd hc, C.room.dp, C.room.un⟩
def inn (C : Ct) (ρ : Rho) : Addr → Bool := fun a => C.O a || owns ρ a
abbrev vis (C : Ct) (ρ : Rho) (H : Hp) : Hp := hid (inn C ρ) H
def SlotOk (C : Ct) (ρ : Rho) (H : Hp) : SV → Option V → Prop
  | .no, _ => True
  | .dat d, o => ∃ v, o = some v ∧ At (vis C ρ H) v d
  | .raw v, o => o = some v
  | .own p ds, o => o = some (.ref p) ∧ C.O p = false ∧ C.base p = none ∧ ∃ xs, H p = some (.lst xs) ∧ AtAll (vis C ρ H) xs ds
  | .dic p kvs, o => o = some (.ref p) ∧ C.O p = false ∧ C.base p = none ∧ ∃ xs : List V, H p = some (.dT ((kvs.map fun z => keyOf z.1).zip xs)) ∧ AtAll (vis C ρ H) xs (kvs.map (·.2))
  | .thg p t, o => o = some (.ref p) ∧ C.O p = false ∧ C.base p = none ∧ ∃ u, H p = some u ∧ t.T (vis C ρ H) u
def gt (ρ : Rho) (i : Nat) : SV := ρ.getD i .no
structure Env (C : Ct) (ρ : Rho) (σ : L2.St) (H : Hp) : Prop where
  len : σ.length = ρ.length
  slot : ∀ i, SlotOk C ρ H (gt ρ i) (σ.getD i none)
  cell : ∀ a, C.U a = true → ∃ k, Cell k H a
  alloc : ∀ a, C.O a = true → H a ≠ none
  gr : Gr C.U C.base H
  dis : ∀ i j p, (gt ρ i).addr = some p → (gt ρ j).addr = some p → i = j
theorem inn_U {C : Ct} {ρ : Rho} {a : Addr} (h : inn C ρ a = false) : C.U a = false := by
  cases e : C.U a with
  | false => rfl
  | true =>
    have := C.le a e
    unfold inn at h
    rw [this] at h
    cases h
theorem O_U {C : Ct} {a : Addr} (h : C.O a = false) : C.U a = false := by
  cases e : C.U a with
  | false => rfl
  | true => rw [C.le a e] at h; cases h
theorem vis_gr {C : Ct} {ρ : Rho} {H H' : Hp} (g : Gr C.U H H') : Same (vis C ρ H) (vis C ρ H') := hid_mono fun a o h e => ⟨h, g.keep a o (inn_U h) e⟩
theorem SlotOk.grow {C : Ct} {ρ : Rho} {H H' : Hp} {sv : SV} {o : Option V} (g : Gr C.U H H') (h : SlotOk C ρ H sv o) : SlotOk C ρ H' sv o := by
  cases sv with
  | no => trivial
  | dat d => obtain ⟨v, e, r⟩ := h; exact ⟨v, e, r.up (vis_gr g)⟩
  | raw v => exact h
  | own p ds => obtain ⟨e, h1, h2, xs, h3, h4⟩ := h; exact ⟨e, h1, h2, xs, g.keep _ _ (O_U h1) h3, h4.up (vis_gr g)⟩
  | dic p kvs => obtain ⟨e, h1, h2, xs, h3, h4⟩ := h; exact ⟨e, h1, h2, xs, g.keep _ _ (O_U h1) h3, h4.up (vis_gr g)⟩
  | thg p th => obtain ⟨e, h1, h2, u, h3, h4⟩ := h; exact ⟨e, h1, h2, u, g.keep _ _ (O_U h1) h3, th.up (vis_gr g) h4⟩
theorem Env.grow {C : Ct} {ρ : Rho} {σ : L2.St} {H H' : Hp} (E : Env C ρ σ H) (g : Gr C.U H H') : Env C ρ σ H' where
  len := E.len
  slot := fun i => (E.slot i).grow g
  cell := fun a h => let ⟨k, q⟩ := E.cell a h; ⟨k, g.cell a k h q⟩
  alloc := fun a h => by
    cases e : C.U a with
    | true =>
      obtain ⟨k, q⟩ := E.cell a e
      exact (g.cell a k e q).there
    | false =>
      cases q : H a with
      | none => exact absurd q (E.alloc a h)
      | some o => rw [g.keep a o e q]; simp
  gr := E.gr.trans g
  dis := E.dis
theorem Env.new {C : Ct} {ρ : Rho} {σ : L2.St} {H : Hp} (E : Env C ρ σ H) {p : Addr} (h : H p = none) : C.O p = false := by
  cases e : C.O p with
  | false => rfl
  | true => exact absurd h (E.alloc p e)
theorem mem_gt {ρ : Rho} {sv : SV} (h : sv ∈ ρ) : ∃ i, gt ρ i = sv := by
  obtain ⟨i, hi, e⟩ := List.mem_iff_getElem.mp h
  refine ⟨i, ?_⟩
  unfold gt
  rw [List.getD_eq_getElem?_getD, List.getElem?_eq_getElem hi, e]
  rfl
theorem Env.own_at {C : Ct} {ρ : Rho} {σ : L2.St} {H : Hp} (E : Env C ρ σ H) {p : Addr} (h : owns ρ p = true) : H p ≠ none := by
  unfold owns at h
  obtain ⟨sv, hm, e⟩ := List.any_eq_true.mp h
  obtain ⟨i, hi⟩ := mem_gt hm
  have s := E.slot i
  rw [hi] at s
  have e' : sv.addr = some p := eq_of_beq e
  cases sv with
  | own q ds =>
    obtain ⟨_, _, _, xs, h3, _⟩ := s
    have : q = p := Option.some.inj e'
    rw [← this, h3]; simp
  | dic q ds =>
    obtain ⟨_, _, _, xs, h3, _⟩ := s
    have : q = p := Option.some.inj e'
    rw [← this, h3]; simp
  | thg q th =>
    obtain ⟨_, _, _, xs, h3, _⟩ := s
    have : q = p := Option.some.inj e'
    rw [← this, h3]; simp
  | _ => cases e'
theorem Env.newO {C : Ct} {ρ : Rho} {σ : L2.St} {H : Hp} (E : Env C ρ σ H) {p : Addr} (h : H p = none) : inn C ρ p = false := by
  unfold inn
  rw [E.new h]
  cases e : owns ρ p with
  | false => rfl
  | true => exact absurd h (E.own_at e)
theorem Env.newV {C : Ct} {ρ : Rho} {σ : L2.St} {H : Hp} (E : Env C ρ σ H) {p : Addr} {o : HO} (h : H p = none) : vis C ρ (upd H p o) p = some o := by
  exact (hid_at (E.newO h)).trans upd_same
/-! ## readings, all at once -/
def cE (X : Cx) (e : Expr) : TE := fun σ H Q => ∃ t, PE X e t ∧ t σ H Q
def cT (X : Cx) (e : Expr) : TT := fun σ H Q => ∃ t, PT X e t ∧ t σ H Q
def cW (X : Cx) (e : Expr) : TT := fun σ H Q => ∃ t, PW X e t ∧ t σ H Q
def cA (X : Cx) (es : List Expr) : TA := fun σ H Q => ∃ t, PA X es t ∧ t σ H Q
def cS (X : Cx) (s : Stmt) : TS := fun D σ H => ∃ t, PS X s t ∧ t D σ H
def cSs (X : Cx) (s : List Stmt) : TS := fun D σ H => ∃ t, PSs X s t ∧ t D σ H
section
variable {X : Cx}
theorem pE {e : Expr} : PE X e (cE X e) := ⟨fun pins s σ H Q I ⟨_, hp, h⟩ => hp.run pins s σ H Q I h⟩
theorem pT {e : Expr} : PT X e (cT X e) := ⟨fun pins s σ H Q I ⟨_, hp, h⟩ => hp.run pins s σ H Q I h⟩
theorem pW {e : Expr} : PW X e (cW X e) := ⟨fun wh pins s σ H Q I ⟨_, hp, h⟩ => hp.run wh pins s σ H Q I h⟩
theorem pA {es : List Expr} : PA X es (cA X es) := ⟨fun pos pins s σ H Q I ⟨_, hp, h⟩ => hp.run pos pins s σ H Q I h⟩
theorem pS {s : Stmt} : PS X s (cS X s) := ⟨fun pins s σ H D I ⟨_, hp, h⟩ => hp.run pins s σ H D I h⟩
theorem pSs {s : List Stmt} : PSs X s (cSs X s) := ⟨fun pins s σ H D I ⟨_, hp, h⟩ => hp.run pins s σ H D I h⟩
end
/-! ## judgements -/
section
variable (C : Ct) (Ξ : Addr → Prop) (ρ : Rho)
def DE (e : Expr) (P : PyData → Prop) : Prop :=
  ∀ σ H, Env C ρ σ H → ∀ Q : VK, (∀ d v H2, P d → Gr C.U H H2 → At (vis C ρ H2) v d → Q v H2) → (∀ c H2, Ξ c → Gr C.U H H2 → C.W (.ref c) none σ H2) → cE C.X e σ H Q
def DT (e : Expr) (P : Bool → Prop) : Prop :=
  ∀ σ H, Env C ρ σ H → ∀ Q : Bool → Hp → Prop, (∀ b H2, P b → Gr C.U H H2 → Q b H2) → (∀ c H2, Ξ c → Gr C.U H H2 → C.W (.ref c) none σ H2) → cT C.X e σ H Q
def DW (e : Expr) (P : Bool → Prop) : Prop :=
  ∀ σ H, Env C ρ σ H → ∀ Q : Bool → Hp → Prop, (∀ b H2, P b → Gr C.U H H2 → Q b H2) → (∀ c H2, Ξ c → Gr C.U H H2 → C.W (.ref c) none σ H2) → cW C.X e σ H Q
inductive AV where
  | d (x : PyData)
  | r (v : V)
def AvOk (H : Hp) : V → AV → Prop
  | v, .d x => At H v x
  | v, .r u => v = u
abbrev AvAll (H : Hp) : List V → List AV → Prop := Paired (AvOk H)
def DA (es : List Expr) (P : List AV → Prop) : Prop :=
  ∀ σ H, Env C ρ σ H → ∀ Q : List V → Hp → Prop, (∀ ds vs H2, P ds → Gr C.U H H2 → AvAll (vis C ρ H2) vs ds → Q vs H2) → (∀ c H2, Ξ c → Gr C.U H H2 → C.W (.ref c) none σ H2) → cA C.X es σ H Q
end
abbrev DEd (C : Ct) (Ξ : Addr → Prop) (ρ : Rho) (e : Expr) (d : PyData) : Prop := DE C Ξ ρ e (fun x => x = d)
abbrev DTd (C : Ct) (Ξ : Addr → Prop) (ρ : Rho) (e : Expr) (b : Bool) : Prop := DT C Ξ ρ e (fun x => x = b)
abbrev DWd (C : Ct) (Ξ : Addr → Prop) (ρ : Rho) (e : Expr) (b : Bool) : Prop := DW C Ξ ρ e (fun x => x = b)
abbrev DI (C : Ct) (Ξ : Addr → Prop) (ρ : Rho) (e : Expr) (A : Int → Prop) : Prop := DE C Ξ ρ e (fun x => ∃ i, x = .int i ∧ A i)
abbrev none' : Addr → Prop := fun _ => False
theorem AvOk.up {H H' : Hp} (e : Same H H') : ∀ {v : V} {x : AV}, AvOk H v x → AvOk H' v x
  | _, .d _, h => At.up (show At H _ _ from h) e
  | _, .r _, h => h
theorem AvAll.up {H H' : Hp} (e : Same H H') {vs : List V} {xs : List AV} (h : AvAll H vs xs) : AvAll H' vs xs := Paired.mapP h fun _ _ => AvOk.up e
theorem AvAll.ats {H : Hp} : ∀ {ds : List PyData} {vs : List V}, AvAll H vs (ds.map AV.d) → AtAll H vs ds
  | [], _, h => by cases h; exact .nil
  | d :: ds, _, h => by
    cases h with
    | cons h1 h2 => exact .cons h1 (AvAll.ats h2)
section
variable {C : Ct} {Ξ : Addr → Prop} {ρ : Rho} {a b e : Expr} {pos : Pos}
theorem DE.imp {P P' : PyData → Prop} (h : DE C Ξ ρ e P) (i : ∀ d, P d → P' d) : DE C Ξ ρ e P' := fun σ H E Q k x => h σ H E Q (fun d v H2 p => k d v H2 (i d p)) x
theorem DT.imp {P P' : Bool → Prop} (h : DT C Ξ ρ e P) (i : ∀ d, P d → P' d) : DT C Ξ ρ e P' := fun σ H E Q k x => h σ H E Q (fun d H2 p => k d H2 (i d p)) x
theorem DE.to {d d' : PyData} (h : DEd C Ξ ρ e d) (i : d = d') : DEd C Ξ ρ e d' := by rw [← i]; exact h
theorem DT.to {d d' : Bool} (h : DTd C Ξ ρ e d) (i : d = d') : DTd C Ξ ρ e d' := by rw [← i]; exact h
theorem DE.toI {i : Int} (h : DEd C Ξ ρ e (.int i)) : DI C Ξ ρ e (fun j => j = i) := h.imp fun _ e => ⟨i, e, rfl⟩
/-! ### names and constants -/
theorem de_var (i : Nat) {x : Str} {d : PyData} (hs : gt ρ i = .dat d) (hN : C.X.N[i]? = some x) (hv : Vis C.X.env.scope x) (hd : (x == ("__debug__" : Str)) = false := by decide)
    (hcd : (x == ("__classdict__" : Str)) = false := by decide) : DEd C Ξ ρ (.Name x pos) d := fun σ H E Q k _ => by
  have s := E.slot i
  rw [hs] at s
  obtain ⟨v, e, r⟩ := s
  refine ⟨_, pe_var hN hv hd hcd, v, ?_, k d v H rfl (Gr.refl _ _) r⟩
  rw [List.getD_eq_getElem?_getD] at e
  cases q : σ[i]? with
  | none => rw [q] at e; cases e
  | some o => rw [q] at e; exact congrArg some e
theorem de_int {i : Int} {j : Nat} : DEd C Ξ ρ (.Constant (.int i) j pos) (.int i) := fun _ H _ _ k _ => ⟨_, pe_int, k _ _ H rfl (Gr.refl _ _) (.int i)⟩
theorem de_bl {i : Bool} {j : Nat} : DEd C Ξ ρ (.Constant (.bool i) j pos) (.bool i) := fun _ H _ _ k _ => ⟨_, pe_bl, k _ _ H rfl (Gr.refl _ _) (.bl i)⟩
theorem de_str {i : Str} {j : Nat} : DEd C Ξ ρ (.Constant (.str i) j pos) (.str i) := fun _ H _ _ k _ => ⟨_, pe_str, k _ _ H rfl (Gr.refl _ _) (.str i)⟩
theorem de_non {j : Nat} : DEd C Ξ ρ (.Constant .none j pos) .none := fun _ H _ _ k _ => ⟨_, pe_non, k _ _ H rfl (Gr.refl _ _) .non⟩
/-! ### two operands -/
/-- a rule for values of known data -/
def RD (r : R2) (x y : PyData) (P : PyData → Prop) : Prop := ∀ (A : Ct) (ρ : Rho) (σ : L2.St) (H : Hp) (v u : V) (Q : VK), Env A ρ σ H → At (vis A ρ H) v x → At (vis A ρ H) u y → (∀ d w H2, P d → Same H H2 → At (vis A ρ H2) w d → Q w H2) → r v u H Q
theorem de_op2 {op : Operator} {r : R2} {Pa Pb P : PyData → Prop} (ho : OpR C.X (binaryOp op) r) (ha : DE C Ξ ρ a Pa) (hb : DE C Ξ ρ b Pb) (hr : ∀ x y, Pa x → Pb y → RD r x y P) : DE C Ξ ρ (.BinOp a op b pos) P := fun σ H E Q k x =>
  ⟨_, pe_op ho pE pE, ha σ H E _ (fun d v H2 p g r1 => hb σ H2 (E.grow g) _ (fun d' u H3 p' g' r2 =>
    hr d d' p p' C ρ σ H3 v u Q ((E.grow g).grow g') (r1.up (vis_gr g')) r2 fun z w H4 pz s rw' => k z w H4 pz ((g.trans g').trans (Gr.of s)) rw') fun c H3 xc g' => x c H3 xc (g.trans g')) x⟩
theorem rd_int {C' : Int → Int → Prop} {g : Int → Int → Int} {i j : Int} (h : C' i j) : RD (rI C' fun i j => .int (g i j)) (.int i) (.int j) (fun d => d = .int (g i j)) := fun A ρ σ H v u Q E r1 r2 k =>
  ⟨i, j, r1.int_inv, r2.int_inv, h, k _ _ H rfl (Same.refl _) (.int _)⟩
theorem rd_int0 {g : Int → Int → Int} {i j : Int} : RD (rI0 fun i j => .int (g i j)) (.int i) (.int j) (fun d => d = .int (g i j)) := fun A ρ σ H v u Q E r1 r2 k =>
  ⟨i, j, r1.int_inv, r2.int_inv, k _ _ H rfl (Same.refl _) (.int _)⟩
theorem de_add {i j : Int} (ha : DEd C Ξ ρ a (.int i)) (hb : DEd C Ξ ρ b (.int j)) : DEd C Ξ ρ (.BinOp a .Add b pos) (.int (i + j)) :=
  de_op2 op_add ha hb fun _ _ e e' => by subst e; subst e'; exact rd_int0
theorem de_sub {i j : Int} (ha : DEd C Ξ ρ a (.int i)) (hb : DEd C Ξ ρ b (.int j)) : DEd C Ξ ρ (.BinOp a .Sub b pos) (.int (i - j)) :=
  de_op2 op_sub ha hb fun _ _ e e' => by subst e; subst e'; exact rd_int0
theorem de_mul {i j : Int} (ha : DEd C Ξ ρ a (.int i)) (hb : DEd C Ξ ρ b (.int j)) (h : CMul i j) : DEd C Ξ ρ (.BinOp a .Mult b pos) (.int (i * j)) :=
  de_op2 op_mul ha hb fun _ _ e e' => by subst e; subst e'; exact rd_int h
theorem de_mulW {i j : Int} (ha : DEd C Ξ ρ a (.int i)) (hb : DEd C Ξ ρ b (.int j)) (h : CMulW i j) : DEd C Ξ ρ (.BinOp a .Mult b pos) (.int (i * j)) :=
  de_op2 op_mulW ha hb fun _ _ e e' => by subst e; subst e'; exact rd_int h
theorem de_div {i j : Int} (ha : DEd C Ξ ρ a (.int i)) (hb : DEd C Ξ ρ b (.int j)) (h : CDivW i j) : DEd C Ξ ρ (.BinOp a .FloorDiv b pos) (.int (i / j)) :=
  de_op2 op_fdivW ha hb fun _ _ e e' => by subst e; subst e'; exact rd_int h
theorem de_mod {i j : Int} (ha : DEd C Ξ ρ a (.int i)) (hb : DEd C Ξ ρ b (.int j)) (h : 0 < j) : DEd C Ξ ρ (.BinOp a .Mod b pos) (.int (i % j)) :=
  de_op2 op_mod ha hb fun _ _ e e' => by subst e; subst e'; exact rd_int (C' := fun _ j => 0 < j) h
theorem de_pow {i j : Int} (ha : DEd C Ξ ρ a (.int i)) (hb : DEd C Ξ ρ b (.int j)) (h : CPow i j) : DEd C Ξ ρ (.BinOp a .Pow b pos) (.int (i ^ j.toNat)) :=
  de_op2 op_pow ha hb fun _ _ e e' => by subst e; subst e'; exact rd_int h
theorem de_neg {i : Int} (ha : DEd C Ξ ρ a (.int i)) : DEd C Ξ ρ (.UnaryOp .USub a pos) (.int (-i)) := fun σ H E Q k x =>
  ⟨_, pe_un un_neg pE, ha σ H E _ (fun d v H2 p g r1 => by subst p; exact ⟨i, r1.int_inv, k _ _ H2 rfl g (.int _)⟩) x⟩
end
end DD

namespace DD
variable [Nu]
open PySem L2
/-! ## tests, comparisons -/
def nonB : PyData → Bool
  | .none => true
  | _ => false
section
variable {C : Ct} {Ξ : Addr → Prop} {ρ : Rho} {a b c e : Expr} {pos : Pos} {rest : List Expr}
/-- a comparison's rule, by data -/
def RB (r : R2) (x y : PyData) (k : Bool) : Prop := ∀ (A : Ct) (ρ : Rho) (σ : L2.St) (H : Hp) (v u : V) (Q : VK), Env A ρ σ H → At (vis A ρ H) v x → At (vis A ρ H) u y → Q (.bl k) H → r v u H Q
theorem de_cmp {op : CmpOp} {r : R2} {x y : PyData} {k : Bool} (ho : OpR C.X (compareOp op) r) (hm : behindInMarks op b = false) (ha : DEd C Ξ ρ a x) (hb : DEd C Ξ ρ b y) (hr : RB r x y k) : DEd C Ξ ρ (.Compare a [op] [b] pos) (.bool k) := fun σ H E Q q z =>
  ⟨_, pe_cmpR ho pE pE hm, ha σ H E _ (fun d v H2 p g r1 => hb σ H2 (E.grow g) _ (fun d' u H3 p' g' r2 => by
    subst p; subst p'
    exact hr C ρ σ H3 v u Q ((E.grow g).grow g') (r1.up (vis_gr g')) r2 (q _ _ H3 rfl (g.trans g') (.bl _))) fun c H3 xc g' => z c H3 xc (g.trans g')) z⟩
theorem dt_cmp {op : CmpOp} {r : R2} {x y : PyData} {k : Bool} (ho : OpR C.X (compareOp op) r) (hm : behindInMarks op b = false) (ha : DEd C Ξ ρ a x) (hb : DEd C Ξ ρ b y) (hr : RB r x y k) : DTd C Ξ ρ (.Compare a [op] [b] pos) k := fun σ H E Q q z =>
  ⟨_, pt_cmpR ho pE pE hm, ha σ H E _ (fun d v H2 p g r1 => hb σ H2 (E.grow g) _ (fun d' u H3 p' g' r2 => by
    subst p; subst p'
    exact hr C ρ σ H3 v u _ ((E.grow g).grow g') (r1.up (vis_gr g')) r2 ⟨k, rfl, q _ H3 rfl (g.trans g')⟩) fun c H3 xc g' => z c H3 xc (g.trans g')) z⟩
/-- a test of an int that is not wholly known -/
theorem dt_cmpI {op : CmpOp} {r : R2} {A : Int → Prop} {y : PyData} {k : Int → Bool} (ho : OpR C.X (compareOp op) r) (hm : behindInMarks op b = false) (ha : DI C Ξ ρ a A) (hb : DEd C Ξ ρ b y) (hr : ∀ i, A i → RB r (.int i) y (k i)) : DT C Ξ ρ (.Compare a [op] [b] pos) (fun x => ∃ i, A i ∧ x = k i) := fun σ H E Q q z =>
  ⟨_, pt_cmpR ho pE pE hm, ha σ H E _ (fun d v H2 p g r1 => hb σ H2 (E.grow g) _ (fun d' u H3 p' g' r2 => by
    obtain ⟨i, e1, e2⟩ := p
    subst e1; subst p'
    exact hr i e2 C ρ σ H3 v u _ ((E.grow g).grow g') (r1.up (vis_gr g')) r2 ⟨k i, rfl, q _ H3 ⟨i, e2, rfl⟩ (g.trans g')⟩) fun c H3 xc g' => z c H3 xc (g.trans g')) z⟩
theorem rb_int {g : Int → Int → Bool} {i j : Int} : RB (rI0 fun i j => .bl (g i j)) (.int i) (.int j) (g i j) := fun _ _ _ H v u Q _ r1 r2 q => ⟨i, j, r1.int_inv, r2.int_inv, q⟩
theorem Ct.dpv {A : Ct} {ρ : Rho} {H : Hp} {K : PySem.W.Frag} {v : V} {x : PyData} (s : SeqAt.shaped x = true) (h : At (vis A ρ H) v x) : Dp K H v x := (h.up hid_le).dp (nod_lay x (SeqAt.canLay_of_shaped s))
theorem rb_eq {K : PySem.W.Frag} {x y : PyData} (hx : SeqAt.shaped x = true) (hy : SeqAt.shaped y = true) : RB (rEqD K) x y (PyData.eqv x y) := fun _ _ _ H v u Q _ r1 r2 q => ⟨x, y, Ct.dpv hx r1, Ct.dpv hy r2, hx, hy, q⟩
theorem rb_ne {K : PySem.W.Frag} {x y : PyData} (hx : SeqAt.shaped x = true) (hy : SeqAt.shaped y = true) : RB (rNeD K) x y (!PyData.eqv x y) := fun _ _ _ H v u Q _ r1 r2 q => ⟨x, y, Ct.dpv hx r1, Ct.dpv hy r2, hx, hy, q⟩
theorem rb_inL {K : PySem.W.Frag} {x : PyData} {ds : List PyData} (hx : SeqAt.shaped x = true) (hy : SeqAt.shaped (.list ds) = true) : RB (rInD K) x (.list ds) (ds.any fun z => PyData.eqv z x) := fun _ _ _ H v u Q _ r1 r2 q => ⟨x, ds, Ct.dpv hx r1, Ct.dpv hy r2, hx, hy, q⟩
theorem rb_niL {K : PySem.W.Frag} {x : PyData} {ds : List PyData} (hx : SeqAt.shaped x = true) (hy : SeqAt.shaped (.list ds) = true) : RB (rNotInD K) x (.list ds) (!ds.any fun z => PyData.eqv z x) := fun _ _ _ H v u Q _ r1 r2 q => ⟨x, ds, Ct.dpv hx r1, Ct.dpv hy r2, hx, hy, q⟩
theorem rb_lt {i j : Int} : RB (rI0 fun i j => .bl (decide (i < j))) (.int i) (.int j) (decide (i < j)) := rb_int (g := fun i j => decide (i < j))
theorem rb_le {i j : Int} : RB (rI0 fun i j => .bl (decide (i ≤ j))) (.int i) (.int j) (decide (i ≤ j)) := rb_int (g := fun i j => decide (i ≤ j))
theorem rb_gt {i j : Int} : RB (rI0 fun i j => .bl (decide (j < i))) (.int i) (.int j) (decide (j < i)) := rb_int (g := fun i j => decide (j < i))
theorem rb_ge {i j : Int} : RB (rI0 fun i j => .bl (decide (j ≤ i))) (.int i) (.int j) (decide (j ≤ i)) := rb_int (g := fun i j => decide (j ≤ i))
/-- a < b < c -/
theorem chain_core {op op' : CmpOp} {r r' : R2} {x y z : PyData} {k k' : Bool} {σ : L2.St} {H : Hp} {Q : VK} (E : Env C ρ σ H) (ha : DEd C Ξ ρ a x) (hb : DEd C Ξ ρ b y) (hc : k = true → DEd C Ξ ρ c z) (hr : RB r x y k) (hr' : k = true → RB r' y z k')
    (q : ∀ H2, Gr C.U H H2 → Q (.bl (k && k')) H2) (xx : ∀ c H2, Ξ c → Gr C.U H H2 → C.W (.ref c) none σ H2) : tChain r r' (cE C.X a) (cE C.X b) (cE C.X c) σ H Q :=
  ha σ H E _ (fun d v H2 p g r1 => hb σ H2 (E.grow g) _ (fun d' u H3 p' g' r2 => by
    subst p; subst p'
    refine hr C ρ σ H3 v u _ ((E.grow g).grow g') (r1.up (vis_gr g')) r2 ⟨k, rfl, ?_⟩
    cases k with
    | false =>
      refine iteF ?_
      have z := q H3 (g.trans g')
      rw [Bool.false_and] at z
      exact z
    | true =>
      refine iteT (hc rfl σ H3 ((E.grow g).grow g') _ (fun d3 w H4 p3 g3 r3 => ?_) fun c H4 xc g3 => xx c H4 xc ((g.trans g').trans g3))
      subst p3
      refine hr' rfl C ρ σ H4 u w Q (((E.grow g).grow g').grow g3) (r2.up (vis_gr g3)) r3 ?_
      have z := q H4 ((g.trans g').trans g3)
      rw [Bool.true_and] at z
      exact z) fun c H3 xc g' => xx c H3 xc (g.trans g')) xx
theorem de_chain {op op' : CmpOp} {r r' : R2} {x y z : PyData} {k k' : Bool} (ho : OpR C.X (compareOp op) r) (ho' : OpR C.X (compareOp op') r') (ha : DEd C Ξ ρ a x) (hb : DEd C Ξ ρ b y) (hc : k = true → DEd C Ξ ρ c z) (hr : RB r x y k) (hr' : k = true → RB r' y z k')
    (hm : lastMarks [op, op'] [b, c] = false := by with_unfolding_all rfl) : DEd C Ξ ρ (.Compare a [op, op'] [b, c] pos) (.bool (k && k')) := fun σ H E Q q xx =>
  ⟨_, pe_chain ho ho' pE pE pE hm, chain_core (op := op) (op' := op') E ha hb hc hr hr' (fun H2 g => q _ _ H2 rfl g (.bl _)) xx⟩
theorem dt_chain {op op' : CmpOp} {r r' : R2} {x y z : PyData} {k k' : Bool} (ho : OpR C.X (compareOp op) r) (ho' : OpR C.X (compareOp op') r') (ha : DEd C Ξ ρ a x) (hb : DEd C Ξ ρ b y) (hc : k = true → DEd C Ξ ρ c z) (hr : RB r x y k) (hr' : k = true → RB r' y z k')
    (hm : lastMarks [op, op'] [b, c] = false := by with_unfolding_all rfl) : DTd C Ξ ρ (.Compare a [op, op'] [b, c] pos) (k && k') := fun σ H E Q q xx =>
  ⟨_, pt_chain ho ho' pE pE pE hm, chain_core (op := op) (op' := op') (Q := fun x H' => ∃ k, x = .bl k ∧ Q k H') E ha hb hc hr hr' (fun H2 g => ⟨_, rfl, q _ H2 rfl g⟩) xx⟩
/-- is None, is not None -/
theorem de_isN {x : PyData} {j : Nat} {pos' : Pos} (ha : DEd C Ξ ρ a x) : DEd C Ξ ρ (.Compare a [.Is] [.Constant .none j pos'] pos) (.bool (nonB x)) := fun σ H E Q q z =>
  ⟨_, pe_cmp (pc_isN pE) rfl, ha σ H E _ (fun d v H2 p g r1 => by
    subst p
    have e : decide (v = V.non) = nonB d := by cases r1 <;> rfl
    show Q (.bl (decide (v = V.non))) H2
    rw [e]
    exact q _ _ H2 rfl g (.bl _)) z⟩
theorem dt_isN {x : PyData} {j : Nat} {pos' : Pos} (ha : DEd C Ξ ρ a x) : DTd C Ξ ρ (.Compare a [.Is] [.Constant .none j pos'] pos) (nonB x) := fun σ H E Q q z =>
  ⟨_, pt_cmp (pc_isN pE) rfl, ha σ H E _ (fun d v H2 p g r1 => by
    subst p
    have e : decide (v = V.non) = nonB d := by cases r1 <;> rfl
    refine ⟨_, congrArg V.bl e, q _ H2 rfl g⟩) z⟩
theorem dt_notN {x : PyData} {j : Nat} {pos' : Pos} (ha : DEd C Ξ ρ a x) : DTd C Ξ ρ (.Compare a [.IsNot] [.Constant .none j pos'] pos) (!(nonB x)) := fun σ H E Q q z =>
  ⟨_, pt_cmp (pc_notN pE) rfl, ha σ H E _ (fun d v H2 p g r1 => by
    subst p
    have e : (!decide (v = V.non)) = (!nonB d) := by cases r1 <;> rfl
    refine ⟨_, congrArg V.bl e, q _ H2 rfl g⟩) z⟩
/-- a value that is a bool, as a test -/
theorem dt_val {k : Bool} (h : DEd C Ξ ρ e (.bool k)) (he : ∀ whole, isTrue e C.X.env whole = (do let v ← whole; standAt e.pos; holding [v] (truthy v)) := by intro _; rfl) : DTd C Ξ ρ e k := fun σ H E Q q z =>
  ⟨_, pt_val pE he, h σ H E _ (fun d v H2 p g r1 => by subst p; exact ⟨k, r1.bl_inv, q _ H2 rfl g⟩) z⟩
/-! ### and, or, not -/
theorem dw_and1 {k : Bool} (h : DTd C Ξ ρ a k) : DWd C Ξ ρ (.BoolOp .And [a] pos) k := fun σ H E Q q z => ⟨_, pw_and1 pT, h σ H E Q q z⟩
theorem dw_or1 {k : Bool} (h : DTd C Ξ ρ a k) : DWd C Ξ ρ (.BoolOp .Or [a] pos) k := fun σ H E Q q z => ⟨_, pw_or1 pT, h σ H E Q q z⟩
theorem dw_and {k k' : Bool} (h : DTd C Ξ ρ a k) (h' : k = true → DWd C Ξ ρ (.BoolOp .And (b :: rest) pos) k') : DWd C Ξ ρ (.BoolOp .And (a :: b :: rest) pos) (k && k') := fun σ H E Q q z =>
  ⟨_, pw_and pT pW, h σ H E _ (fun d H2 p g => by
    subst p
    cases d with
    | false => exact iteF (q _ H2 rfl g)
    | true => exact iteT (h' rfl σ H2 (E.grow g) Q (fun d' H3 p' g' => q d' H3 (by rw [p', Bool.true_and]) (g.trans g')) fun c H3 xc g' => z c H3 xc (g.trans g'))) z⟩
theorem dw_or {k k' : Bool} (h : DTd C Ξ ρ a k) (h' : k = false → DWd C Ξ ρ (.BoolOp .Or (b :: rest) pos) k') : DWd C Ξ ρ (.BoolOp .Or (a :: b :: rest) pos) (k || k') := fun σ H E Q q z =>
  ⟨_, pw_or pT pW, h σ H E _ (fun d H2 p g => by
    subst p
    cases d with
    | true => exact iteT (q _ H2 rfl g)
    | false => exact iteF (h' rfl σ H2 (E.grow g) Q (fun d' H3 p' g' => q d' H3 (by rw [p', Bool.false_or]) (g.trans g')) fun c H3 xc g' => z c H3 xc (g.trans g'))) z⟩
theorem dt_w {k : Bool} (h : DWd C Ξ ρ e k) : DTd C Ξ ρ e k := fun σ H E Q q z => ⟨_, PW.pt pW, h σ H E Q q z⟩
theorem dt_not {k : Bool} (h : DTd C Ξ ρ a k) : DTd C Ξ ρ (.UnaryOp .Not a pos) (!k) := fun σ H E Q q z =>
  ⟨_, pt_not pT, h σ H E _ (fun d H2 p g => q _ H2 (by rw [p]) g) z⟩
theorem de_one {op : BoolOp} {P : PyData → Prop} (h : DE C Ξ ρ a P) : DE C Ξ ρ (.BoolOp op [a] pos) P := fun σ H E Q q z => ⟨_, pe_one pE, h σ H E Q q z⟩
theorem de_and {k k' : Bool} (h : DEd C Ξ ρ a (.bool k)) (h' : k = true → DEd C Ξ ρ (.BoolOp .And (b :: rest) pos) (.bool k')) : DEd C Ξ ρ (.BoolOp .And (a :: b :: rest) pos) (.bool (k && k')) := fun σ H E Q q z =>
  ⟨_, pe_and pE pE, h σ H E _ (fun d v H2 p g r1 => by
    subst p
    refine ⟨k, r1.bl_inv, ?_⟩
    cases k with
    | false => exact iteF (q _ _ H2 rfl g (.bl _))
    | true => exact iteT (h' rfl σ H2 (E.grow g) Q (fun d' v' H3 p' g' r2 => q d' v' H3 (by rw [p', Bool.true_and]) (g.trans g') r2) fun c H3 xc g' => z c H3 xc (g.trans g'))) z⟩
theorem de_or {k k' : Bool} (h : DEd C Ξ ρ a (.bool k)) (h' : k = false → DEd C Ξ ρ (.BoolOp .Or (b :: rest) pos) (.bool k')) : DEd C Ξ ρ (.BoolOp .Or (a :: b :: rest) pos) (.bool (k || k')) := fun σ H E Q q z =>
  ⟨_, pe_or pE pE, h σ H E _ (fun d v H2 p g r1 => by
    subst p
    refine ⟨k, r1.bl_inv, ?_⟩
    cases k with
    | true => exact iteT (q _ _ H2 rfl g (.bl _))
    | false => exact iteF (h' rfl σ H2 (E.grow g) Q (fun d' v' H3 p' g' r2 => q d' v' H3 (by rw [p', Bool.false_or]) (g.trans g') r2) fun c H3 xc g' => z c H3 xc (g.trans g'))) z⟩
theorem de_not {k : Bool} (h : DEd C Ξ ρ a (.bool k)) : DEd C Ξ ρ (.UnaryOp .Not a pos) (.bool (!k)) := fun σ H E Q q z =>
  ⟨_, pe_not pE, h σ H E _ (fun d v H2 p g r1 => by subst p; exact ⟨k, r1.bl_inv, q _ _ H2 rfl g (.bl _)⟩) z⟩
theorem de_if {P : PyData → Prop} {B : Bool → Prop} (h : DT C Ξ ρ c B) (h1 : B true → DE C Ξ ρ a P) (h2 : B false → DE C Ξ ρ b P) : DE C Ξ ρ (.IfExp c a b pos) P := fun σ H E Q q z =>
  ⟨_, pe_ifExp pT pE pE, h σ H E _ (fun d H2 p g => by
    cases d with
    | true => exact iteT (h1 p σ H2 (E.grow g) Q (fun d' v' H3 p' g' r2 => q d' v' H3 p' (g.trans g') r2) fun c H3 xc g' => z c H3 xc (g.trans g'))
    | false => exact iteF (h2 p σ H2 (E.grow g) Q (fun d' v' H3 p' g' r2 => q d' v' H3 p' (g.trans g') r2) fun c H3 xc g' => z c H3 xc (g.trans g'))) z⟩
theorem de_ifd {x : PyData} {k : Bool} (h : DTd C Ξ ρ c k) (h1 : k = true → DEd C Ξ ρ a x) (h2 : k = false → DEd C Ξ ρ b x) : DEd C Ξ ρ (.IfExp c a b pos) x := de_if h (fun e => h1 e.symm) (fun e => h2 e.symm)
end
/-! ## arguments, displays -/
section
variable {C : Ct} {Ξ : Addr → Prop} {ρ : Rho} {a b c e : Expr} {pos : Pos} {es : List Expr}
abbrev DAd (C : Ct) (Ξ : Addr → Prop) (ρ : Rho) (es : List Expr) (ds : List PyData) : Prop := DA C Ξ ρ es (fun l => l = ds.map AV.d)
theorem da_nilG {P : List AV → Prop} (h : P []) : DA C Ξ ρ [] P := fun σ H E Q q z => ⟨_, pa_nil, q [] _ H h (Gr.refl _ _) .nil⟩
theorem da_nil : DAd C Ξ ρ [] [] := da_nilG rfl
theorem da_consG {P1 : PyData → Prop} {P : List AV → Prop} (h : DE C Ξ ρ e P1) (hr : ∀ d, P1 d → DA C Ξ ρ es fun l => P (AV.d d :: l)) (hs : starEach (e :: es) C.X.env = (false, eval e C.X.env) :: starEach es C.X.env := by rfl) : DA C Ξ ρ (e :: es) P := fun σ H E Q q z =>
  ⟨_, pa_cons pE pA hs, h σ H E _ (fun d v H2 p g r1 => hr d p σ H2 (E.grow g) _ (fun l vs H3 p' g' r2 => q _ _ H3 p' (g.trans g') (.cons (r1.up (vis_gr g')) r2)) fun c H3 xc g' => z c H3 xc (g.trans g')) z⟩
theorem da_cons {d : PyData} {ds : List PyData} (h : DEd C Ξ ρ e d) (hr : DAd C Ξ ρ es ds) (hs : starEach (e :: es) C.X.env = (false, eval e C.X.env) :: starEach es C.X.env := by rfl) : DAd C Ξ ρ (e :: es) (d :: ds) :=
  da_consG h (fun x p σ H E Q q z => hr σ H E Q (fun l vs H2 pl => q l vs H2 (by show AV.d x :: l = _; rw [p, pl]; rfl)) z) hs
/-- a slot's own value, raw -/
theorem da_raw (i : Nat) {x : Str} {px : Pos} {v : V} {P : List AV → Prop} (hs0 : gt ρ i = .raw v) (hN : C.X.N[i]? = some x) (hv : Vis C.X.env.scope x) (hr : DA C Ξ ρ es fun l => P (AV.r v :: l)) (hd : (x == ("__debug__" : Str)) = false := by decide)
    (hcd : (x == ("__classdict__" : Str)) = false := by decide) (hs : starEach (.Name x px :: es) C.X.env = (false, eval (.Name x px) C.X.env) :: starEach es C.X.env := by rfl) : DA C Ξ ρ (.Name x px :: es) P := fun σ H E Q q z => by
  refine ⟨_, pa_cons (pe_var hN hv hd hcd) pA hs, v, ?_, hr σ H E _ (fun l vs H3 p' g' r2 => q _ _ H3 p' g' (.cons (show AvOk _ v (AV.r v) from rfl) r2)) z⟩
  have s := E.slot i
  rw [hs0] at s
  have s : σ.getD i none = some v := s
  rw [List.getD_eq_getElem?_getD] at s
  cases q : σ[i]? with
  | none => rw [q] at s; cases s
  | some o => rw [q] at s; exact congrArg some s
def AllD (P : List PyData → Prop) : List AV → Prop := fun l => ∃ ds, l = ds.map AV.d ∧ P ds
theorem AvAll.len {H : Hp} {vs : List V} {l : List AV} (h : AvAll H vs l) : vs.length = l.length := Paired.length h
theorem de_tupG {P : List PyData → Prop} (h : DA C Ξ ρ es (AllD P)) (hz : ∀ ds, P ds → ds.length ≤ 16777216) {k : Nat} : DE C Ξ ρ (.Tuple es k pos) (fun d => ∃ ds, d = .tuple ds ∧ P ds) := fun σ H E Q q z =>
  ⟨_, pe_tup pA, h σ H E _ (fun l vs H2 p g r => by
    obtain ⟨ds, e, pd⟩ := p
    subst e
    have e2 := r.len
    rw [List.length_map] at e2
    refine ⟨by rw [e2, sizeLine_eq]; exact hz ds pd, fun p hp => ?_⟩
    have E2 := E.grow g
    refine q _ _ _ ⟨ds, rfl, pd⟩ (g.trans (Gr.of (same_new hp))) (.tup (E2.newV hp) (r.ats.up (vis_gr (Gr.of (same_new hp)))))) z⟩
theorem de_tup {ds : List PyData} (h : DAd C Ξ ρ es ds) (hz : ds.length ≤ 16777216 := by decide) {k : Nat} : DEd C Ξ ρ (.Tuple es k pos) (.tuple ds) :=
  (de_tupG (P := fun x => x = ds) (fun σ H E Q q z => h σ H E Q (fun l vs H2 p => q l vs H2 ⟨ds, p, rfl⟩) z) (fun x e => by rw [e]; exact hz)).imp fun d ⟨x, e, e2⟩ => by rw [e, e2]
theorem de_lstG {P : List PyData → Prop} (h : DA C Ξ ρ es (AllD P)) (hz : ∀ ds, P ds → ds.length ≤ 16777216) : DE C Ξ ρ (.List es pos) (fun d => ∃ ds, d = .list ds ∧ P ds) := fun σ H E Q q z =>
  ⟨_, pe_lst pA, h σ H E _ (fun l vs H2 p g r => by
    obtain ⟨ds, e, pd⟩ := p
    subst e
    have e2 := r.len
    rw [List.length_map] at e2
    refine ⟨by rw [e2, sizeLine_eq]; exact hz ds pd, fun p hp => ?_⟩
    have E2 := E.grow g
    refine q _ _ _ ⟨ds, rfl, pd⟩ (g.trans (Gr.of (same_new hp))) (.lst (E2.newV hp) (r.ats.up (vis_gr (Gr.of (same_new hp)))))) z⟩
theorem de_lst {ds : List PyData} (h : DAd C Ξ ρ es ds) (hz : ds.length ≤ 16777216 := by decide) : DEd C Ξ ρ (.List es pos) (.list ds) :=
  (de_lstG (P := fun x => x = ds) (fun σ H E Q q z => h σ H E Q (fun l vs H2 p => q l vs H2 ⟨ds, p, rfl⟩) z) (fun x e => by rw [e]; exact hz)).imp fun d ⟨x, e, e2⟩ => by rw [e, e2]
/-! ### built-ins called, by data -/
def RCd (r : List V → Hp → VK → Prop) (ds : List PyData) (P : PyData → Prop) : Prop := ∀ (A : Ct) (ρ : Rho) (σ : L2.St) (H : Hp) (vs : List V) (Q : VK), Env A ρ σ H → AtAll (vis A ρ H) vs ds → (∀ d w H2, P d → Same H H2 → At (vis A ρ H2) w d → Q w H2) → r vs H Q
theorem de_cb {x : Str} {id : String} {p : Pos} {r : List V → Hp → VK → Prop} {ds : List PyData} {P : PyData → Prop} (hc : CallR C.X (.builtin id) r) (hg : Gl C.X x) (hm : C.X.mg x = none) (hv : bootBuiltins x = some (.builtin id)) (ha : DAd C Ξ ρ (e :: es) ds) (hr : RCd r ds P)
    (hn : x ≠ "__name__" := by decide) (hdb : (x == ("__debug__" : Str)) = false := by decide)
    (he : starEach (e :: es) C.X.env = (false, eval e C.X.env) :: starEach es C.X.env := by rfl) (hpl : (backTo pos (starEach es C.X.env)).any (·.1) = false := by rfl) : DE C Ξ ρ (.Call (.Name x p) (e :: es) [] pos) P := fun σ H E Q q z =>
  ⟨_, pe_callB hc hg hm hv pA hn hdb he hpl, ha σ H E _ (fun l vs H2 p g r1 => by
    subst p
    exact hr C ρ σ H2 vs Q (E.grow g) r1.ats fun d w H3 pd s rw' => q d w H3 pd (g.trans (Gr.of s)) rw') z⟩
theorem de_ct {x : Str} {T : String} {p : Pos} {r : List V → Hp → VK → Prop} {ds : List PyData} {P : PyData → Prop} (hc : CallR C.X (.type T) r) (hg : Gl C.X x) (hm : C.X.mg x = none) (hv : bootBuiltins x = some (.type T)) (ha : DAd C Ξ ρ (e :: es) ds) (hr : RCd r ds P)
    (hn : x ≠ "__name__" := by decide) (hdb : (x == ("__debug__" : Str)) = false := by decide)
    (he : starEach (e :: es) C.X.env = (false, eval e C.X.env) :: starEach es C.X.env := by rfl) (hpl : (backTo pos (starEach es C.X.env)).any (·.1) = false := by rfl) : DE C Ξ ρ (.Call (.Name x p) (e :: es) [] pos) P := fun σ H E Q q z =>
  ⟨_, pe_callTy hc hg hm hv pA hn hdb he hpl, ha σ H E _ (fun l vs H2 p g r1 => by
    subst p
    exact hr C ρ σ H2 vs Q (E.grow g) r1.ats fun d w H3 pd s rw' => q d w H3 pd (g.trans (Gr.of s)) rw') z⟩
end
theorem AtAll.one {H : Hp} {vs : List V} {d : PyData} (h : AtAll H vs [d]) : ∃ v, vs = [v] ∧ At H v d := by
  cases h with
  | cons h1 h2 => cases h2; exact ⟨_, rfl, h1⟩
theorem AtAll.two {H : Hp} {vs : List V} {d d' : PyData} (h : AtAll H vs [d, d']) : ∃ v u, vs = [v, u] ∧ At H v d ∧ At H u d' := by
  cases h with
  | cons h1 h2 =>
    cases h2 with
    | cons h3 h4 => cases h4; exact ⟨_, _, rfl, h1, h3⟩
end DD

namespace DD
variable [Nu]
open PySem L2
/-! ## sorted, of a list or a tuple of data without lists -/
mutual
def lf : PyData → Bool
  | .list _ => false
  | .dict _ => false
  | .tuple xs => lfs xs
  | _ => true
def lfs : List PyData → Bool
  | [] => true
  | x :: xs => lf x && lfs xs
end
mutual
theorem lf_reads {h : Heap} : ∀ (d : PyData) (v : Value) (as : List Addr), lf d = true → Reads h v d as → as = []
  | .none, _, _, _, r => by cases r; rfl
  | .bool _, _, _, _, r => by cases r; rfl
  | .int _, _, _, _, r => by cases r; rfl
  | .str _, _, _, _, r => by cases r; rfl
  | .list _, _, _, l, _ => by simp [lf] at l
  | .dict _, _, _, l, _ => by simp [lf] at l
  | .tuple xs, _, _, l, r => by
    cases r with
    | tuple _ _ _ h4 => exact lf_readsAll xs _ _ (by simpa [lf] using l) h4
theorem lf_readsAll {h : Heap} : ∀ (ds : List PyData) (vs : List Value) (as : List Addr), lfs ds = true → ReadsAll h vs ds as → as = []
  | [], _, _, _, r => by cases r; rfl
  | d :: ds, _, _, l, r => by
    cases r with
    | cons h1 h2 =>
      simp only [lfs, Bool.and_eq_true] at l
      rw [lf_reads d _ _ l.1 h1, lf_readsAll ds _ _ l.2 h2]
      rfl
end
theorem lfs_mem : ∀ {ds : List PyData} {d : PyData}, lfs ds = true → d ∈ ds → lf d = true
  | [], _, _, h => by cases h
  | x :: xs, d, l, h => by
    simp only [lfs, Bool.and_eq_true] at l
    rcases List.mem_cons.mp h with e | e
    · rw [e]; exact l.1
    · exact lfs_mem l.2 e
theorem dpAll_get {K : PySem.W.Frag} {H : Hp} : ∀ {vs : List V} {ds : List PyData}, DpAll K H vs ds → Paired (fun v d => Dp K H v d) vs ds
  | _, _, .nil => .nil
  | _, _, .cons h t => .cons h (dpAll_get t)
abbrev dLe : PyData → PyData → Bool := PySem.W.dataLe false (fun d => d)
def SortOut (xs : List V) (ds : List PyData) (ys : List V) : Prop := ∃ zs : List (V × PyData), zs.Perm (xs.zip ds) ∧ ys = zs.map (·.1) ∧ zs.map (·.2) = ds.mergeSort dLe
mutual
theorem nod_lf : ∀ d : PyData, lf d = true → nod d = true
  | .none, _ => rfl
  | .bool _, _ => rfl
  | .int _, _ => rfl
  | .str _, _ => rfl
  | .list xs, h => by rw [lf] at h; cases h
  | .tuple xs, h => by rw [nod]; exact nods_lf xs (by rw [lf] at h; exact h)
  | .dict _, h => by rw [lf] at h; cases h
theorem nods_lf : ∀ xs : List PyData, lfs xs = true → nods xs = true
  | [], _ => by rw [nods]
  | x :: xs, h => by
    rw [lfs, Bool.and_eq_true] at h
    rw [nods, nod_lf x h.1, nods_lf xs h.2]; rfl
end
structure CanSort (ds : List PyData) : Prop where
  al : PySem.W.AllAlike ds
  so : PySem.W.Sortable ds
  lf : lfs ds = true
  dp : ∀ d ∈ ds, d.depth ≤ 60
def rSortD (K : PySem.W.Frag) : List V → Hp → VK → Prop := fun vs H Q => ∃ (a : Addr) (xs : List V) (ds : List PyData), vs = [.ref a] ∧ (SqL K H a xs ∨ SqT K H a xs) ∧ DpAll K H xs ds ∧ CanSort ds ∧
  ∀ p ys, H p = none → SortOut xs ds ys → Q (.ref p) (upd H p (.lst ys))
theorem each_zip {X : Cx} {pins : List (Addr × Obj)} {σ : L2.St} {H : Hp} {s : Shared} (I : Inv X pins σ H s) {h' : Heap} (kp : ∀ b o, s.heap.get? b = some o → h'.get? b = some o) : ∀ {xs : List V} {ds : List PyData} {us : List Value}, Vals xs us → DpAll X.K H xs ds → lfs ds = true →
    PySem.W.EachIs (fun v (b : V × PyData) => RelV b.1 v) us (xs.zip ds) ∧ PySem.W.EachIs (fun v (b : V × PyData) => ∃ as, Reads h' v b.2 as ∧ as = []) us (xs.zip ds)
  | _, _, _, .nil, .nil, _ => ⟨.nil, .nil⟩
  | _, _, _, .cons r t, .cons h1 h2, l => by
    simp only [lfs, Bool.and_eq_true] at l
    obtain ⟨a1, a2⟩ := each_zip I kp t h2 l.2
    obtain ⟨as, q⟩ := Dp.reads I _ _ _ h1 r
    exact ⟨.cons r a1, .cons ⟨as, PyProof.Rows.Reads.keeps kp q, lf_reads _ _ _ l.1 q⟩ a2⟩
theorem eachIs_mono {α β : Type} {R R' : α → β → Prop} (h : ∀ a b, R a b → R' a b) {l : List α} {m : List β} (e : PySem.W.EachIs R l m) : PySem.W.EachIs R' l m := e.mono h
theorem each_vals : ∀ {us : List Value} {zs : List (V × PyData)}, PySem.W.EachIs (fun v (b : V × PyData) => RelV b.1 v) us zs → Vals (zs.map (·.1)) us
  | _, _, .nil => .nil
  | _, _, .cons r t => .cons r (each_vals t)
theorem cr_sortD {X : Cx} (hu : X.A.units + 100 < cLine) : CallR X (.builtin "sorted") (rSortD X.K) := by
  intro pins s σ H vs us Q I r h
  obtain ⟨a, xs, ds, rfl, hq, hd, hc, k⟩ := h
  rw [Vals.ref1 r]
  have hlen : xs.length = ds.length := Paired.length (dpAll_get hd)
  obtain ⟨its, T, o, n, rv, hT, ho, hcls, hdat, hz⟩ : ∃ (its : List Value) (T : String) (o : Obj) (n : Nat), Vals xs its ∧ (T = "list" ∨ T = "tuple") ∧ s.heap.get? a = some o ∧ o.cls = .type T ∧ o.data = .seq its.toArray n ∧ xs.length ≤ sizeLine := by
    rcases hq with hq | hq
    · obtain ⟨its, rv, pl, hz⟩ := I.list hq
      obtain ⟨o, ho, hc, n, hd⟩ := pl.isList
      exact ⟨its, "list", o, n, rv, .inl rfl, ho, hc, hd, hz⟩
    · obtain ⟨its, rv, pl, hz⟩ := I.tuple hq
      obtain ⟨o, ho, hc, n, hd⟩ := pl
      exact ⟨its, "tuple", o, n, rv, .inr rfl, ho, hc, hd, hz⟩
  have il : its.length ≤ sizeLine := by rw [← rv.length]; exact hz
  refine PySem.Calls.call_function_entry PyProof.Rows.kind_sorted PyProof.Rows.plain_sorted PyProof.Rows.entry_sorted (PyProof.Rows.args_sorted1 _) ?_
  unfold Builtin.«sorted»
  refine wpAny_bind (m := checkCount "sorted" 1 1 _) (wpAny_pure ?_)
  refine wpAny_bind (PySem.wpAny_collect_seq a hT ho hcls hdat (fun h' kp => ?_) (by rw [List.size_toArray]; exact il))
  refine wpAny_bind (wpAny_newList ?_ il)
  have I1 : Inv X pins σ H { s with heap := h' } := I.kept (t' := s.toks) kp
  have kp2 : ∀ b o, s.heap.get? b = some o → (h'.push (PyProof.Rows.seqObj "list" its.toArray 0)).get? b = some o := fun b o e => Heap.get?_push_of_some _ (kp b o e)
  obtain ⟨e1, e2⟩ := each_zip I kp2 rv hd hc.lf
  have hsnd : (xs.zip ds).map (·.2) = ds := List.map_snd_zip (by omega)
  have hbl : (xs.zip ds).length = ds.length := by rw [List.length_zip]; omega
  have ho' : (h'.push (PyProof.Rows.seqObj "list" its.toArray 0)).get? h'.objs.size = some (PyProof.Rows.seqObj "list" its.toArray 0) := Heap.get?_push_size _ rfl
  refine wpAny_bind (wpAny_holding (PySem.W.list_sort_data (s := { s with heap := h'.push (PyProof.Rows.seqObj "list" its.toArray 0) }) (bs := xs.zip ds) (enc := fun b : V × PyData => b.2) (R := fun v b => RelV b.1 v) ho' e1 (eachIs_mono (fun v b ⟨as, r, z⟩ => ⟨as, r, by rw [z]; simp⟩) e2)
    (by rw [hsnd]; exact hc.al) (by rw [hsnd]; exact hc.so) (by rw [hbl, ← hlen]; exact hz) (fun b hb => ?_) fun out hl hout => ?_))
  · have hm : b.2 ∈ ds := by rw [← hsnd]; exact List.mem_map.mpr ⟨b, hb, rfl⟩
    have := hc.dp _ hm
    show X.A.units + 1 + 1 + b.2.depth < cLine
    omega
  · refine wpAny_pure ⟨_, rfl, ?_⟩
    obtain ⟨ep, he'⟩ := PyProof.Rows.sortedHeap_at (out := out.toArray) ho'
    have hn : H h'.objs.size = none := I1.hok.fresh (Nat.le_refl _)
    have so : SortOut xs ds (((xs.zip ds).mergeSort (PySem.W.dataLe false fun b : V × PyData => b.2)).map (·.1)) := by
      refine ⟨_, List.mergeSort_perm _ _, rfl, ?_⟩
      have e := List.map_mergeSort (f := fun b : V × PyData => b.2) (r := PySem.W.dataLe false fun b : V × PyData => b.2) (s := dLe) (l := xs.zip ds) (fun a _ b _ => rfl)
      rw [e, hsnd]
    have ln : (((xs.zip ds).mergeSort (PySem.W.dataLe false fun b : V × PyData => b.2)).map (·.1)).length ≤ sizeLine := by
      rw [List.length_map, (List.mergeSort_perm _ _).length_eq, hbl, ← hlen]
      exact hz
    have I2 : Inv X pins σ (upd H h'.objs.size (.lst (((xs.zip ds).mergeSort (PySem.W.dataLe false fun b : V × PyData => b.2)).map (·.1)))) { s with heap := PyProof.Rows.sortedHeap (h'.push (PyProof.Rows.seqObj "list" its.toArray 0)) h'.objs.size its out.toArray } := by
      refine I1.laid (t' := s.toks) (fun b u e => ?_) (Nat.le_refl _) ⟨ln, out, ep, each_vals hout, he'⟩
      have hlt := Heap.lt_size e
      rw [PyProof.Rows.sortedHeap_old (Nat.ne_of_lt hlt) (by rw [Heap.size_push]; exact Nat.lt_succ_of_lt hlt)]
      exact Heap.get?_push_of_some _ e
    exact ⟨.ref _, _, I2, rfl, k _ _ hn so⟩
end DD

namespace DD
variable [Nu]
open PySem L2
theorem b_len : bootBuiltins "len" = some (.builtin "len") := by decide +kernel
theorem b_sorted : bootBuiltins "sorted" = some (.builtin "sorted") := by decide +kernel
theorem b_sum : bootBuiltins "sum" = some (.builtin "sum") := by decide +kernel
theorem b_min : bootBuiltins "min" = some (.builtin "min") := by decide +kernel
theorem b_max : bootBuiltins "max" = some (.builtin "max") := by decide +kernel
theorem b_all : bootBuiltins "all" = some (.builtin "all") := by decide +kernel
theorem b_abs : bootBuiltins "abs" = some (.builtin "abs") := by decide +kernel
theorem b_isi : bootBuiltins "isinstance" = some (.builtin "isinstance") := by decide +kernel
theorem b_tuple : bootBuiltins "tuple" = some (.type "tuple") := by decide +kernel
theorem b_list : bootBuiltins "list" = some (.type "list") := by decide +kernel
theorem b_int : bootBuiltins "int" = some (.type "int") := by decide +kernel
theorem b_str : bootBuiltins "str" = some (.type "str") := by decide +kernel
theorem b_bool : bootBuiltins "bool" = some (.type "bool") := by decide +kernel
/-! ## rules for built-ins, by data -/
section
variable {K : PySem.W.Frag}
theorem At.ref_list {H : Hp} {v : V} {ds : List PyData} (h : At H v (.list ds)) : ∃ a xs, v = .ref a ∧ H a = some (.lst xs) ∧ AtAll H xs ds := by
  cases h with
  | lst h1 h2 => exact ⟨_, _, rfl, h1, h2⟩
theorem At.ref_tup {H : Hp} {v : V} {ds : List PyData} (h : At H v (.tuple ds)) : ∃ a xs, v = .ref a ∧ H a = some (.tup xs) ∧ AtAll H xs ds := by
  cases h with
  | tup h1 h2 => exact ⟨_, _, rfl, h1, h2⟩
theorem rc_lenT {ds : List PyData} : RCd (fun xs H Q => ∃ x n, xs = [x] ∧ LenV K x H n ∧ Q (.int n) H) [.tuple ds] (fun d => d = .int ds.length) := fun A ρ σ H vs Q E r k => by
  obtain ⟨v, rfl, r1⟩ := r.one
  obtain ⟨a, xs, rfl, h1, h2⟩ := r1.ref_tup
  exact ⟨_, xs.length, rfl, .inr ⟨xs, SqT.of (hid_le _ _ h1), rfl⟩, k _ _ H rfl (Same.refl _) (by rw [h2.len]; exact .int _)⟩
theorem rc_lenL {ds : List PyData} : RCd (fun xs H Q => ∃ x n, xs = [x] ∧ LenV K x H n ∧ Q (.int n) H) [.list ds] (fun d => d = .int ds.length) := fun A ρ σ H vs Q E r k => by
  obtain ⟨v, rfl, r1⟩ := r.one
  obtain ⟨a, xs, rfl, h1, h2⟩ := r1.ref_list
  exact ⟨_, xs.length, rfl, .inl ⟨xs, SqL.of (hid_le _ _ h1), rfl⟩, k _ _ H rfl (Same.refl _) (by rw [h2.len]; exact .int _)⟩
theorem rc_lenS {x : Str} (hz : x.length ≤ 16777216) : RCd (fun xs H Q => ∃ x n, xs = [x] ∧ LenV K x H n ∧ Q (.int n) H) [.str x] (fun d => d = .int x.length) := fun A ρ σ H vs Q E r k => by
  obtain ⟨v, rfl, r1⟩ := r.one
  rw [r1.str_inv]
  exact ⟨_, x.length, rfl, ⟨by rw [sizeLine_eq]; exact hz, rfl⟩, k _ _ H rfl (Same.refl _) (.int _)⟩
theorem rc_tupleL {ds : List PyData} : RCd (fun xs H Q => ∃ p ys, xs = [.ref p] ∧ ((SqL K H p ys ∧ ∀ l, H l = none → Q (.ref l) (upd H l (.tup ys))) ∨ (SqT K H p ys ∧ Q (.ref p) H))) [.list ds] (fun d => d = .tuple ds) := fun A ρ σ H vs Q E r k => by
  obtain ⟨v, rfl, r1⟩ := r.one
  obtain ⟨a, xs, rfl, h1, h2⟩ := r1.ref_list
  refine ⟨a, xs, rfl, .inl ⟨SqL.of (hid_le _ _ h1), fun l hl => k _ _ _ rfl (same_new hl) (.tup (E.newV hl) (h2.up (vis_gr (Gr.of (same_new hl)))))⟩⟩
theorem rc_tupleT {ds : List PyData} : RCd (fun xs H Q => ∃ p ys, xs = [.ref p] ∧ ((SqL K H p ys ∧ ∀ l, H l = none → Q (.ref l) (upd H l (.tup ys))) ∨ (SqT K H p ys ∧ Q (.ref p) H))) [.tuple ds] (fun d => d = .tuple ds) := fun A ρ σ H vs Q E r k => by
  obtain ⟨v, rfl, r1⟩ := r.one
  obtain ⟨a, xs, rfl, h1, h2⟩ := r1.ref_tup
  exact ⟨a, xs, rfl, .inr ⟨SqT.of (hid_le _ _ h1), k _ _ H rfl (Same.refl _) (.tup h1 h2)⟩⟩
theorem rc_listT {ds : List PyData} : RCd (fun xs H Q => ∃ p ys, xs = [.ref p] ∧ (SqL K H p ys ∨ SqT K H p ys) ∧ ∀ l, H l = none → Q (.ref l) (upd H l (.lst ys))) [.tuple ds] (fun d => d = .list ds) := fun A ρ σ H vs Q E r k => by
  obtain ⟨v, rfl, r1⟩ := r.one
  obtain ⟨a, xs, rfl, h1, h2⟩ := r1.ref_tup
  refine ⟨a, xs, rfl, .inr (SqT.of (hid_le _ _ h1)), fun l hl => k _ _ _ rfl (same_new hl) (.lst (E.newV hl) (h2.up (vis_gr (Gr.of (same_new hl)))))⟩
theorem atAll_sort {H : Hp} {xs ys : List V} {ds : List PyData} (h : AtAll H xs ds) (s : SortOut xs ds ys) : AtAll H ys (ds.mergeSort dLe) := by
  obtain ⟨zs, h1, rfl, h3⟩ := s
  rw [← h3]
  have all : ∀ {xs : List V} {ds : List PyData}, AtAll H xs ds → ∀ z ∈ xs.zip ds, At H z.1 z.2 := by
    intro xs
    induction xs with
    | nil => intro ds _ z hz; simp at hz
    | cons x r ih =>
      intro ds h z hz
      cases h with
      | cons q1 q2 =>
        rw [List.zip_cons_cons] at hz
        rcases List.mem_cons.mp hz with e | e
        · rw [e]; exact q1
        · exact ih q2 z e
  have key : ∀ l : List (V × PyData), (∀ z ∈ l, At H z.1 z.2) → AtAll H (l.map (·.1)) (l.map (·.2)) := by
    intro l
    induction l with
    | nil => intro _; exact .nil
    | cons x r ih => intro q; exact .cons (q x List.mem_cons_self) (ih fun z hz => q z (List.mem_cons_of_mem _ hz))
  exact key zs fun z hz => all h z (h1.mem_iff.mp hz)
theorem rc_sortT {ds : List PyData} (hc : CanSort ds) : RCd (rSortD K) [.tuple ds] (fun d => d = .list (ds.mergeSort dLe)) := fun A ρ σ H vs Q E r k => by
  obtain ⟨v, rfl, r1⟩ := r.one
  obtain ⟨a, xs, rfl, h1, h2⟩ := r1.ref_tup
  refine ⟨a, xs, ds, rfl, .inr (SqT.of (hid_le _ _ h1)), AtAll.dp' _ _ _ (nods_lf _ hc.lf) (h2.up hid_le), hc, fun p ys hp so => k _ _ _ rfl (same_new hp) (.lst (E.newV hp) ?_)⟩
  exact atAll_sort (h2.up (vis_gr (Gr.of (same_new hp)))) so
theorem rc_sortL {ds : List PyData} (hc : CanSort ds) : RCd (rSortD K) [.list ds] (fun d => d = .list (ds.mergeSort dLe)) := fun A ρ σ H vs Q E r k => by
  obtain ⟨v, rfl, r1⟩ := r.one
  obtain ⟨a, xs, rfl, h1, h2⟩ := r1.ref_list
  refine ⟨a, xs, ds, rfl, .inl (SqL.of (hid_le _ _ h1)), AtAll.dp' _ _ _ (nods_lf _ hc.lf) (h2.up hid_le), hc, fun p ys hp so => k _ _ _ rfl (same_new hp) (.lst (E.newV hp) ?_)⟩
  exact atAll_sort (h2.up (vis_gr (Gr.of (same_new hp)))) so
theorem rc_sum {ns : List Int} : RCd (rSum K) [.list (ns.map .int)] (fun d => d = .int ns.sum) := fun A ρ σ H vs Q E r k => by
  obtain ⟨v, rfl, r1⟩ := r.one
  obtain ⟨a, xs, rfl, h1, h2⟩ := r1.ref_list
  rw [h2.ints] at h1
  exact ⟨a, ns, rfl, SqL.of (hid_le _ _ h1), k _ _ H rfl (Same.refl _) (.int _)⟩
theorem rc_all {bs : List Bool} : RCd (rAll K) [.list (bs.map .bool)] (fun d => d = .bool (bs.all id)) := fun A ρ σ H vs Q E r k => by
  obtain ⟨v, rfl, r1⟩ := r.one
  obtain ⟨a, xs, rfl, h1, h2⟩ := r1.ref_list
  rw [h2.bls] at h1
  exact ⟨a, bs, rfl, SqL.of (hid_le _ _ h1), k _ _ H rfl (Same.refl _) (.bl _)⟩
theorem rc_max2 {i j : Int} : RCd (fun xs H Q => ∃ i j, xs = [.int i, .int j] ∧ Q (.int (if j > i then j else i)) H) [.int i, .int j] (fun d => d = .int (if j > i then j else i)) := fun A ρ σ H vs Q E r k => by
  obtain ⟨v, u, rfl, r1, r2⟩ := r.two
  rw [r1.int_inv, r2.int_inv]
  exact ⟨i, j, rfl, k _ _ H rfl (Same.refl _) (.int _)⟩
theorem rc_min2 {i j : Int} : RCd (fun xs H Q => ∃ i j, xs = [.int i, .int j] ∧ Q (.int (if j < i then j else i)) H) [.int i, .int j] (fun d => d = .int (if j < i then j else i)) := fun A ρ σ H vs Q E r k => by
  obtain ⟨v, u, rfl, r1, r2⟩ := r.two
  rw [r1.int_inv, r2.int_inv]
  exact ⟨i, j, rfl, k _ _ H rfl (Same.refl _) (.int _)⟩
theorem rc_abs {i : Int} : RCd (fun xs H Q => ∃ i, xs = [.int i] ∧ Q (.int (if i < 0 then -i else i)) H) [.int i] (fun d => d = .int (if i < 0 then -i else i)) := fun A ρ σ H vs Q E r k => by
  obtain ⟨v, rfl, r1⟩ := r.one
  rw [r1.int_inv]
  exact ⟨i, rfl, k _ _ H rfl (Same.refl _) (.int _)⟩
theorem rc_strI {i : Int} (h : i.natAbs.log2 < 1920) : RCd (fun xs H Q => ∃ i, xs = [.int i] ∧ i.natAbs.log2 < 1920 ∧ Q (.str (toString i)) H) [.int i] (fun d => d = .str (toString i)) := fun A ρ σ H vs Q E r k => by
  obtain ⟨v, rfl, r1⟩ := r.one
  rw [r1.int_inv]
  exact ⟨i, rfl, h, k _ _ H rfl (Same.refl _) (.str _)⟩
theorem rc_intB {b : Bool} : RCd (fun xs H Q => (∃ i, xs = [.int i] ∧ Q (.int i) H) ∨ ∃ k, xs = [.bl k] ∧ Q (.int (if k then 1 else 0)) H) [.bool b] (fun d => d = .int (if b then 1 else 0)) := fun A ρ σ H vs Q E r k => by
  obtain ⟨v, rfl, r1⟩ := r.one
  rw [r1.bl_inv]
  exact .inr ⟨b, rfl, k _ _ H rfl (Same.refl _) (.int _)⟩
theorem rc_intS {a : Str} {n : Int} (h : PySem.intText? a = some n) (hz : a.length ≤ 640) : RCd (fun xs H Q => ∃ a n, xs = [.str a] ∧ PySem.intText? a = some n ∧ a.length ≤ 640 ∧ Q (.int n) H) [.str a] (fun d => d = .int n) := fun A ρ σ H vs Q E r k => by
  obtain ⟨v, rfl, r1⟩ := r.one
  rw [r1.str_inv]
  exact ⟨a, n, rfl, h, hz, k _ _ H rfl (Same.refl _) (.int _)⟩
end
/-! ### the same, as calls -/
section
variable {C : Ct} {Ξ : Addr → Prop} {ρ : Rho} {a b c e : Expr} {pos p : Pos}
theorem de_lenT {ds : List PyData} (hg : Gl C.X "len") (hm : C.X.mg "len" = none) (ha : DEd C Ξ ρ e (.tuple ds)) (he : starEach [e] C.X.env = (false, eval e C.X.env) :: starEach [] C.X.env := by rfl) : DEd C Ξ ρ (.Call (.Name "len" p) [e] [] pos) (.int ds.length) :=
  de_cb call_len hg hm b_len (da_cons ha da_nil he) rc_lenT (he := he)
theorem de_lenL {ds : List PyData} (hg : Gl C.X "len") (hm : C.X.mg "len" = none) (ha : DEd C Ξ ρ e (.list ds)) (he : starEach [e] C.X.env = (false, eval e C.X.env) :: starEach [] C.X.env := by rfl) : DEd C Ξ ρ (.Call (.Name "len" p) [e] [] pos) (.int ds.length) :=
  de_cb call_len hg hm b_len (da_cons ha da_nil he) rc_lenL (he := he)
theorem de_lenS {x : Str} (hg : Gl C.X "len") (hm : C.X.mg "len" = none) (ha : DEd C Ξ ρ e (.str x)) (hz : x.length ≤ 16777216) (he : starEach [e] C.X.env = (false, eval e C.X.env) :: starEach [] C.X.env := by rfl) : DEd C Ξ ρ (.Call (.Name "len" p) [e] [] pos) (.int x.length) :=
  de_cb call_len hg hm b_len (da_cons ha da_nil he) (rc_lenS hz) (he := he)
theorem de_tupleL {ds : List PyData} (hg : Gl C.X "tuple") (hm : C.X.mg "tuple" = none) (ha : DEd C Ξ ρ e (.list ds)) (he : starEach [e] C.X.env = (false, eval e C.X.env) :: starEach [] C.X.env := by rfl) : DEd C Ξ ρ (.Call (.Name "tuple" p) [e] [] pos) (.tuple ds) :=
  de_ct call_tuple_of hg hm b_tuple (da_cons ha da_nil he) rc_tupleL (he := he)
theorem de_listT {ds : List PyData} (hg : Gl C.X "list") (hm : C.X.mg "list" = none) (ha : DEd C Ξ ρ e (.tuple ds)) (he : starEach [e] C.X.env = (false, eval e C.X.env) :: starEach [] C.X.env := by rfl) : DEd C Ξ ρ (.Call (.Name "list" p) [e] [] pos) (.list ds) :=
  de_ct call_list_of hg hm b_list (da_cons ha da_nil he) rc_listT (he := he)
theorem de_sortT {ds : List PyData} (hu : C.X.A.units + 100 < cLine) (hg : Gl C.X "sorted") (hm : C.X.mg "sorted" = none) (ha : DEd C Ξ ρ e (.tuple ds)) (hc : CanSort ds) (he : starEach [e] C.X.env = (false, eval e C.X.env) :: starEach [] C.X.env := by rfl) : DEd C Ξ ρ (.Call (.Name "sorted" p) [e] [] pos) (.list (ds.mergeSort dLe)) :=
  de_cb (cr_sortD hu) hg hm b_sorted (da_cons ha da_nil he) (rc_sortT hc) (he := he)
theorem de_sortL {ds : List PyData} (hu : C.X.A.units + 100 < cLine) (hg : Gl C.X "sorted") (hm : C.X.mg "sorted" = none) (ha : DEd C Ξ ρ e (.list ds)) (hc : CanSort ds) (he : starEach [e] C.X.env = (false, eval e C.X.env) :: starEach [] C.X.env := by rfl) : DEd C Ξ ρ (.Call (.Name "sorted" p) [e] [] pos) (.list (ds.mergeSort dLe)) :=
  de_cb (cr_sortD hu) hg hm b_sorted (da_cons ha da_nil he) (rc_sortL hc) (he := he)
theorem de_sum {ns : List Int} (hg : Gl C.X "sum") (hm : C.X.mg "sum" = none) (ha : DEd C Ξ ρ e (.list (ns.map .int))) (hcalm : C.X.calm = true := by rfl) (he : starEach [e] C.X.env = (false, eval e C.X.env) :: starEach [] C.X.env := by rfl) : DEd C Ξ ρ (.Call (.Name "sum" p) [e] [] pos) (.int ns.sum) :=
  de_cb (cr_sum hcalm) hg hm b_sum (da_cons ha da_nil he) rc_sum (he := he)
theorem de_all {bs : List Bool} (hg : Gl C.X "all") (hm : C.X.mg "all" = none) (ha : DEd C Ξ ρ e (.list (bs.map .bool))) (hcalm : C.X.calm = true := by rfl) (he : starEach [e] C.X.env = (false, eval e C.X.env) :: starEach [] C.X.env := by rfl) : DEd C Ξ ρ (.Call (.Name "all" p) [e] [] pos) (.bool (bs.all id)) :=
  de_cb (cr_all hcalm) hg hm b_all (da_cons ha da_nil he) rc_all (he := he)
theorem de_max2 {i j : Int} (hg : Gl C.X "max") (hm : C.X.mg "max" = none) (ha : DEd C Ξ ρ a (.int i)) (hb : DEd C Ξ ρ b (.int j)) (hcalm : C.X.calm = true := by rfl) (he2 : starEach [a, b] C.X.env = (false, eval a C.X.env) :: starEach [b] C.X.env := by rfl) (he : starEach [b] C.X.env = (false, eval b C.X.env) :: starEach [] C.X.env := by rfl) (hpl : (backTo pos (starEach [b] C.X.env)).any (·.1) = false := by rfl) :
    DEd C Ξ ρ (.Call (.Name "max" p) [a, b] [] pos) (.int (if j > i then j else i)) := de_cb (call_max2 hcalm) hg hm b_max (da_cons ha (da_cons hb da_nil he) he2) rc_max2 (he := he2) (hpl := hpl)
theorem de_min2 {i j : Int} (hg : Gl C.X "min") (hm : C.X.mg "min" = none) (ha : DEd C Ξ ρ a (.int i)) (hb : DEd C Ξ ρ b (.int j)) (hcalm : C.X.calm = true := by rfl) (he2 : starEach [a, b] C.X.env = (false, eval a C.X.env) :: starEach [b] C.X.env := by rfl) (he : starEach [b] C.X.env = (false, eval b C.X.env) :: starEach [] C.X.env := by rfl) (hpl : (backTo pos (starEach [b] C.X.env)).any (·.1) = false := by rfl) :
    DEd C Ξ ρ (.Call (.Name "min" p) [a, b] [] pos) (.int (if j < i then j else i)) := de_cb (call_min2 hcalm) hg hm b_min (da_cons ha (da_cons hb da_nil he) he2) rc_min2 (he := he2) (hpl := hpl)
theorem de_abs {i : Int} (hg : Gl C.X "abs") (hm : C.X.mg "abs" = none) (ha : DEd C Ξ ρ e (.int i)) (he : starEach [e] C.X.env = (false, eval e C.X.env) :: starEach [] C.X.env := by rfl) : DEd C Ξ ρ (.Call (.Name "abs" p) [e] [] pos) (.int (if i < 0 then -i else i)) :=
  de_cb call_abs hg hm b_abs (da_cons ha da_nil he) rc_abs (he := he)
theorem de_strI {i : Int} (hg : Gl C.X "str") (hm : C.X.mg "str" = none) (ha : DEd C Ξ ρ e (.int i)) (h : i.natAbs.log2 < 1920) (he : starEach [e] C.X.env = (false, eval e C.X.env) :: starEach [] C.X.env := by rfl) : DEd C Ξ ρ (.Call (.Name "str" p) [e] [] pos) (.str (toString i)) :=
  de_ct call_str_int hg hm b_str (da_cons ha da_nil he) (rc_strI h) (he := he)
theorem de_intB {i : Bool} (hg : Gl C.X "int") (hm : C.X.mg "int" = none) (ha : DEd C Ξ ρ e (.bool i)) (he : starEach [e] C.X.env = (false, eval e C.X.env) :: starEach [] C.X.env := by rfl) : DEd C Ξ ρ (.Call (.Name "int" p) [e] [] pos) (.int (if i then 1 else 0)) :=
  de_ct call_int1 hg hm b_int (da_cons ha da_nil he) rc_intB (he := he)
theorem de_intS {a : Str} {n : Int} (hg : Gl C.X "int") (hm : C.X.mg "int" = none) (ha : DEd C Ξ ρ e (.str a)) (h : PySem.intText? a = some n) (hz : a.length ≤ 640) (he : starEach [e] C.X.env = (false, eval e C.X.env) :: starEach [] C.X.env := by rfl) : DEd C Ξ ρ (.Call (.Name "int" p) [e] [] pos) (.int n) :=
  de_ct call_int_str hg hm b_int (da_cons ha da_nil he) (rc_intS h hz) (he := he)
/-! ### isinstance against a built-in class -/
def tyN : PyData → String
  | .none => "NoneType"
  | .bool _ => "bool"
  | .int _ => "int"
  | .str _ => "str"
  | .list _ => "list"
  | .tuple _ => "tuple"
  | .dict _ => "dict"
def isInt : PyData → Bool
  | .int _ => true
  | .bool _ => true
  | _ => false
def isBool : PyData → Bool
  | .bool _ => true
  | _ => false
def isTup : PyData → Bool
  | .tuple _ => true
  | _ => false
def isStr : PyData → Bool
  | .str _ => true
  | _ => false
theorem kit_int : ∀ d : PyData, kitB (tyN d) "int" = some (isInt d)
  | .none => (by decide +kernel : kitB "NoneType" "int" = some false)
  | .bool _ => (by decide +kernel : kitB "bool" "int" = some true)
  | .int _ => (by decide +kernel : kitB "int" "int" = some true)
  | .str _ => (by decide +kernel : kitB "str" "int" = some false)
  | .list _ => (by decide +kernel : kitB "list" "int" = some false)
  | .tuple _ => (by decide +kernel : kitB "tuple" "int" = some false)
  | .dict _ => (by decide +kernel : kitB "dict" "int" = some false)
theorem kit_bool : ∀ d : PyData, kitB (tyN d) "bool" = some (isBool d)
  | .none => (by decide +kernel : kitB "NoneType" "bool" = some false)
  | .bool _ => (by decide +kernel : kitB "bool" "bool" = some true)
  | .int _ => (by decide +kernel : kitB "int" "bool" = some false)
  | .str _ => (by decide +kernel : kitB "str" "bool" = some false)
  | .list _ => (by decide +kernel : kitB "list" "bool" = some false)
  | .tuple _ => (by decide +kernel : kitB "tuple" "bool" = some false)
  | .dict _ => (by decide +kernel : kitB "dict" "bool" = some false)
theorem kit_tup : ∀ d : PyData, kitB (tyN d) "tuple" = some (isTup d)
  | .none => (by decide +kernel : kitB "NoneType" "tuple" = some false)
  | .bool _ => (by decide +kernel : kitB "bool" "tuple" = some false)
  | .int _ => (by decide +kernel : kitB "int" "tuple" = some false)
  | .str _ => (by decide +kernel : kitB "str" "tuple" = some false)
  | .list _ => (by decide +kernel : kitB "list" "tuple" = some false)
  | .tuple _ => (by decide +kernel : kitB "tuple" "tuple" = some true)
  | .dict _ => (by decide +kernel : kitB "dict" "tuple" = some false)
theorem kit_str : ∀ d : PyData, kitB (tyN d) "str" = some (isStr d)
  | .none => (by decide +kernel : kitB "NoneType" "str" = some false)
  | .bool _ => (by decide +kernel : kitB "bool" "str" = some false)
  | .int _ => (by decide +kernel : kitB "int" "str" = some false)
  | .str _ => (by decide +kernel : kitB "str" "str" = some true)
  | .list _ => (by decide +kernel : kitB "list" "str" = some false)
  | .tuple _ => (by decide +kernel : kitB "tuple" "str" = some false)
  | .dict _ => (by decide +kernel : kitB "dict" "str" = some false)
theorem At.ty {K : PySem.W.Frag} {H : Hp} {v : V} {d : PyData} (h : At H v d) : TyX K H v (.type (tyN d)) := by
  cases h with
  | non => exact .base .non
  | bl b => exact .base (.bl b)
  | int i => exact .base (.int i)
  | str x => exact .base (.str x)
  | lst h1 _ => exact .base (.lst h1)
  | tup h1 _ => exact .base (.tup h1)
  | dct _ h1 _ => exact .base (.dT h1)
theorem de_isi {d : PyData} {T : String} {x : Str} {k : Bool} {p2 : Pos} (hg : Gl C.X "isinstance") (hm : C.X.mg "isinstance" = none) (hgT : Gl C.X x) (hmT : C.X.mg x = none) (hvT : bootBuiltins x = some (.type T)) (ha : DEd C Ξ ρ e d) (hk : kitB (tyN d) T = some k)
    (he : starEach [e, .Name x p2] C.X.env = (false, eval e C.X.env) :: starEach [.Name x p2] C.X.env := by rfl) (hn : x ≠ "__name__" := by decide) (hd : (x == ("__debug__" : Str)) = false := by decide) : DEd C Ξ ρ (.Call (.Name "isinstance" p) [e, .Name x p2] [] pos) (.bool k) := fun σ H E Q q z =>
  ⟨_, pe_callB call_isi hg hm b_isi (pa_cons pE (pa_cons (pe_bltn hgT hmT hvT (v := .ty T) rfl hn hd) pa_nil) he) (he := he), ha σ H E _ (fun x v H2 pd g r => by
    subst pd
    exact ⟨v, .ty T, _, _, k, rfl, .ty T, (r.up hid_le).ty, kit_ty hk, q _ _ H2 rfl g (.bl k)⟩) z⟩
end
end DD

namespace DD
variable [Nu]
open PySem L2
/-! ## sequences: +, *, [], slices, in -/
section
variable {K : PySem.W.Frag}
theorem AtAll.nil_iff {H : Hp} {vs : List V} {ds : List PyData} (h : AtAll H vs ds) : vs = [] ↔ ds = [] := by
  cases h <;> simp
theorem rd_catT {xs ys : List PyData} (hz : xs.length + ys.length ≤ 16777216) : RD (rCatA K) (.tuple xs) (.tuple ys) (fun d => d = .tuple (xs ++ ys)) := fun A ρ σ H v u Q E r1 r2 k => by
  obtain ⟨a, vs, rfl, h1, h2⟩ := r1.ref_tup
  obtain ⟨b, us, rfl, h3, h4⟩ := r2.ref_tup
  refine ⟨a, b, vs, us, rfl, rfl, SqT.of (hid_le _ _ h1), SqT.of (hid_le _ _ h3), by rw [sizeLine_eq, h2.len, h4.len]; exact hz, fun e => ?_, fun e e' => ?_, fun _ _ p hp => ?_⟩
  · have e2 := h2.nil_iff.mp e
    subst e2
    exact k _ _ H rfl (Same.refl _) (.tup h3 h4)
  · have e2 := h4.nil_iff.mp e'
    subst e2
    rw [List.append_nil] at k
    exact k _ _ H rfl (Same.refl _) (.tup h1 h2)
  · exact k _ _ _ rfl (same_new hp) (.tup (E.newV hp) ((h2.app h4).up (vis_gr (Gr.of (same_new hp)))))
theorem rd_catL {xs ys : List PyData} (hz : xs.length + ys.length ≤ 16777216) : RD rCat (.list xs) (.list ys) (fun d => d = .list (xs ++ ys)) := fun A ρ σ H v u Q E r1 r2 k => by
  obtain ⟨a, vs, rfl, h1, h2⟩ := r1.ref_list
  obtain ⟨b, us, rfl, h3, h4⟩ := r2.ref_list
  exact ⟨a, b, vs, us, rfl, rfl, hid_le _ _ h1, hid_le _ _ h3, by rw [sizeLine_eq, h2.len, h4.len]; exact hz, fun p hp => k _ _ _ rfl (same_new hp) (.lst (E.newV hp) ((h2.app h4).up (vis_gr (Gr.of (same_new hp)))))⟩
theorem rd_catS {x y : Str} (hz : x.length + y.length ≤ 16777216) : RD (fun x y H Q => ∃ i j, x = .str i ∧ y = .str j ∧ i.length + j.length ≤ sizeLine ∧ Q (.str (i ++ j)) H) (.str x) (.str y) (fun d => d = .str (x ++ y)) := fun A ρ σ H v u Q E r1 r2 k =>
  ⟨x, y, r1.str_inv, r2.str_inv, by rw [sizeLine_eq]; exact hz, k _ _ H rfl (Same.refl _) (.str _)⟩
theorem AtAll.rep {H : Hp} {vs : List V} {ds : List PyData} (h : AtAll H vs ds) : ∀ n : Nat, AtAll H (List.replicate n vs).flatten (List.replicate n ds).flatten
  | 0 => .nil
  | n + 1 => by
    rw [List.replicate_succ, List.replicate_succ, List.flatten_cons, List.flatten_cons]
    exact h.app (AtAll.rep h n)
theorem rd_repT {xs : List PyData} {k : Int} (hne : xs ≠ []) (h2 : 2 ≤ k) (h3 : k ≤ 1000) (hz : xs.length ≤ 1000) : RD (rRepT K) (.tuple xs) (.int k) (fun d => d = .tuple (List.replicate k.toNat xs).flatten) := fun A ρ σ H v u Q E r1 r2 q => by
  obtain ⟨a, vs, rfl, h1, h4⟩ := r1.ref_tup
  rw [r2.int_inv]
  exact ⟨a, k, vs, rfl, rfl, SqT.of (hid_le _ _ h1), fun e => hne (h4.nil_iff.mp e), h2, h3, by rw [h4.len]; exact hz, fun p hp => q _ _ _ rfl (same_new hp) (.tup (E.newV hp) ((h4.rep _).up (vis_gr (Gr.of (same_new hp)))))⟩
theorem rd_repL {xs : List PyData} {k : Int} (h2 : 0 ≤ k) (h3 : k ≤ 1000000) (hz : xs.length * k.toNat ≤ 16777216) : RD rRep (.list xs) (.int k) (fun d => d = .list (List.replicate k.toNat xs).flatten) := fun A ρ σ H v u Q E r1 r2 q => by
  obtain ⟨a, vs, rfl, h1, h4⟩ := r1.ref_list
  rw [r2.int_inv]
  exact ⟨a, k, vs, rfl, rfl, hid_le _ _ h1, by omega, by omega, by rw [h4.len, sizeLine_eq]; exact hz, fun p hp => q _ _ _ rfl (same_new hp) (.lst (E.newV hp) ((h4.rep _).up (vis_gr (Gr.of (same_new hp)))))⟩
theorem atI_at {H : Hp} {vs : List V} {ds : List PyData} {i : Int} {d : PyData} (h : AtAll H vs ds) (e : atI ds i = some d) : ∃ v, atI vs i = some v ∧ At H v d := by
  unfold atI at e ⊢
  rw [h.len]
  cases q : ixN ds.length i with
  | none => rw [q] at e; cases e
  | some j =>
    rw [q] at e
    exact h.get e
theorem rd_ixT {ds : List PyData} {i : Int} {d : PyData} (e : atI ds i = some d) : RD (rIx K) (.tuple ds) (.int i) (fun x => x = d) := fun A ρ σ H v u Q E r1 r2 k => by
  obtain ⟨a, vs, rfl, h1, h2⟩ := r1.ref_tup
  obtain ⟨w, h3, h4⟩ := atI_at h2 e
  exact .inr (.inl ⟨a, vs, i, w, rfl, r2.int_inv, SqT.of (hid_le _ _ h1), h3, k _ _ H rfl (Same.refl _) h4⟩)
theorem rd_ixL {ds : List PyData} {i : Int} {d : PyData} (e : atI ds i = some d) : RD (rIx K) (.list ds) (.int i) (fun x => x = d) := fun A ρ σ H v u Q E r1 r2 k => by
  obtain ⟨a, vs, rfl, h1, h2⟩ := r1.ref_list
  obtain ⟨w, h3, h4⟩ := atI_at h2 e
  exact .inl ⟨a, vs, i, w, rfl, r2.int_inv, SqL.of (hid_le _ _ h1), h3, k _ _ H rfl (Same.refl _) h4⟩
theorem rd_ixS {z : Str} {i : Int} {c : Nat} (hz : z.length ≤ 16777216) (e : atI z.cps.toList i = some c) : RD (rIx K) (.str z) (.int i) (fun x => x = .str ⟨#[c]⟩) := fun A ρ σ H v u Q E r1 r2 k =>
  .inr (.inr ⟨z, i, c, r1.str_inv, r2.int_inv, by rw [sizeLine_eq]; exact hz, e, k _ _ H rfl (Same.refl _) (.str _)⟩)
theorem rb_sign {c : Nat} {z : Str} : RB (fun x y H Q => ∃ (c : Nat) (z : Str), x = .str ⟨#[c]⟩ ∧ y = .str z ∧ Q (.bl (decide (c ∈ z.cps.toList))) H) (.str ⟨#[c]⟩) (.str z) (decide (c ∈ z.cps.toList)) := fun A ρ σ H v u Q E r1 r2 k =>
  ⟨c, z, r1.str_inv, r2.str_inv, k⟩
end
def cutD (xs : List PyData) (lo hi : Option Int) : List PyData := (xs.drop (HT.sIx xs.length 0 lo)).take (HT.sIx xs.length xs.length hi - HT.sIx xs.length 0 lo)
theorem cut_at {H : Hp} {vs : List V} {ds : List PyData} (h : AtAll H vs ds) (lo hi : Option Int) : AtAll H (cutV vs lo hi) (cutD ds lo hi) := by
  unfold cutV cutD
  rw [h.len]
  exact (h.drop _).take _
theorem cutD_all {ds : List PyData} {lo hi : Option Int} (h : HT.sIx ds.length 0 lo = 0 ∧ HT.sIx ds.length ds.length hi = ds.length) : cutD ds lo hi = ds := by
  unfold cutD
  rw [h.1, h.2, List.drop_zero, Nat.sub_zero, List.take_length]
def cO (X : Cx) (e : Option Expr) : TO := fun σ H Q => ∃ t, PO X e t ∧ t σ H Q
theorem pO {X : Cx} {e : Option Expr} : PO X e (cO X e) := ⟨fun pins s σ H Q I ⟨_, hp, h⟩ => hp.run pins s σ H Q I h⟩
def DO (C : Ct) (Ξ : Addr → Prop) (ρ : Rho) (e : Option Expr) (o : Option Int) : Prop :=
  ∀ σ H, Env C ρ σ H → ∀ Q : Option Int → Hp → Prop, (∀ H2, Gr C.U H H2 → Q o H2) → (∀ c H2, Ξ c → Gr C.U H H2 → C.W (.ref c) none σ H2) → cO C.X e σ H Q
section
variable {C : Ct} {Ξ : Addr → Prop} {ρ : Rho} {a b c e : Expr} {pos p p2 : Pos} {lo hi : Option Expr} {l h : Option Int}
theorem do_none : DO C Ξ ρ none none := fun σ H E Q q z => ⟨_, po_none, q H (Gr.refl _ _)⟩
theorem do_some {i : Int} (ha : DEd C Ξ ρ e (.int i)) : DO C Ξ ρ (some e) (some i) := fun σ H E Q q z => ⟨_, po_some pE, ha σ H E _ (fun d v H2 p g r => by subst p; exact ⟨i, r.int_inv, q H2 g⟩) z⟩
theorem sl_core {r : V → Option Int → Option Int → Hp → VK → Prop} {x : PyData} {σ : L2.St} {H : Hp} {Q : VK} (E : Env C ρ σ H) (ha : DEd C Ξ ρ e x) (hl : DO C Ξ ρ lo l) (hh : DO C Ξ ρ hi h) (k : ∀ v H2, Gr C.U H H2 → At (vis C ρ H2) v x → r v l h H2 Q)
    (z : ∀ c H2, Ξ c → Gr C.U H H2 → C.W (.ref c) none σ H2) : tSl r (cE C.X e) (cO C.X lo) (cO C.X hi) σ H Q :=
  ha σ H E _ (fun d v H2 pd g r1 => hl σ H2 (E.grow g) _ (fun H3 g2 => hh σ H3 ((E.grow g).grow g2) _ (fun H4 g3 => by
    subst pd
    exact k v H4 ((g.trans g2).trans g3) ((r1.up (vis_gr g2)).up (vis_gr g3))) fun c H4 xc g3 => z c H4 xc ((g.trans g2).trans g3)) fun c H3 xc g2 => z c H3 xc (g.trans g2)) z
theorem de_slT {ds : List PyData} (ha : DEd C Ξ ρ e (.tuple ds)) (hl : DO C Ξ ρ lo l) (hh : DO C Ξ ρ hi h) : DEd C Ξ ρ (.Subscript e (.Slice lo hi none p2) pos) (.tuple (cutD ds l h)) := fun σ H E Q q z =>
  ⟨_, pe_slice sl_tupA pE pO pO, sl_core E ha hl hh (fun v H2 g r => by
    obtain ⟨a, vs, rfl, h1, h2⟩ := r.ref_tup
    have E2 := E.grow g
    refine ⟨a, vs, rfl, SqT.of (hid_le _ _ h1), fun w => ?_, fun _ p hp => ?_⟩
    · rw [h2.len] at w
      have w2 := cutD_all w
      refine q _ _ H2 (by rw [w2]) g (.tup h1 h2)
    · exact q _ _ _ rfl (g.trans (Gr.of (same_new hp))) (.tup (E2.newV hp) ((cut_at h2 l h).up (vis_gr (Gr.of (same_new hp)))))) z⟩
theorem de_slL {ds : List PyData} (ha : DEd C Ξ ρ e (.list ds)) (hl : DO C Ξ ρ lo l) (hh : DO C Ξ ρ hi h) : DEd C Ξ ρ (.Subscript e (.Slice lo hi none p2) pos) (.list (cutD ds l h)) := fun σ H E Q q z =>
  ⟨_, pe_slice sl_list pE pO pO, sl_core E ha hl hh (fun v H2 g r => by
    obtain ⟨a, vs, rfl, h1, h2⟩ := r.ref_list
    have E2 := E.grow g
    exact ⟨a, vs, rfl, SqL.of (hid_le _ _ h1), fun p hp => q _ _ _ rfl (g.trans (Gr.of (same_new hp))) (.lst (E2.newV hp) ((cut_at h2 l h).up (vis_gr (Gr.of (same_new hp)))))⟩) z⟩
theorem de_slS {x : Str} (hz : x.length ≤ 16777216) (ha : DEd C Ξ ρ e (.str x)) (hl : DO C Ξ ρ lo l) (hh : DO C Ξ ρ hi h) : DEd C Ξ ρ (.Subscript e (.Slice lo hi none p2) pos) (.str (cutS x l h)) := fun σ H E Q q z =>
  ⟨_, pe_slice sl_str pE pO pO, sl_core E ha hl hh (fun v H2 g r => ⟨x, r.str_inv, by rw [sizeLine_eq]; exact hz, q _ _ H2 rfl g (.str _)⟩) z⟩
/-- xs[::-1] of a list -/
theorem de_revL {ds : List PyData} {k : Nat} {p1 p3 : Pos} (ha : DEd C Ξ ρ e (.list ds)) : DEd C Ξ ρ (.Subscript e (.Slice none none (some (.UnaryOp .USub (.Constant (.int 1) k p1) p2)) p3) pos) (.list ds.reverse) := fun σ H E Q q z =>
  ⟨_, pe_revL pE, ha σ H E _ (fun d v H2 pd g r => by
    subst pd
    obtain ⟨a, vs, rfl, h1, h2⟩ := r.ref_list
    exact ⟨a, vs, rfl, SqL.of (hid_le _ _ h1), fun p hp => q _ _ _ rfl (g.trans (Gr.of (same_new hp))) (.lst ((E.grow g).newV hp) (h2.rev.up (vis_gr (Gr.of (same_new hp)))))⟩) z⟩
/-- tuple(reversed(e)) -/
theorem de_tupRev {ds : List PyData} {pos2 : Pos} (hg : Gl C.X "tuple") (hm : C.X.mg "tuple" = none) (hg2 : Gl C.X "reversed") (hm2 : C.X.mg "reversed" = none) (ha : DEd C Ξ ρ e (.list ds)) (hc : C.X.calm = true := by rfl)
    (hs : starEach [e] C.X.env = (false, eval e C.X.env) :: starEach [] C.X.env := by rfl)
    (hs2 : starEach [.Call (.Name "reversed" p2) [e] [] pos2] C.X.env = (false, eval (.Call (.Name "reversed" p2) [e] [] pos2) C.X.env) :: starEach [] C.X.env := by rfl) :
    DEd C Ξ ρ (.Call (.Name "tuple" p) [.Call (.Name "reversed" p2) [e] [] pos2] [] pos) (.tuple ds.reverse) := fun σ H E Q q z =>
  ⟨_, RT.pe_tupRev hc hg hm hg2 hm2 pE hs hs2, ha σ H E _ (fun d v H2 pd g r => by
    subst pd
    obtain ⟨a, vs, rfl, h1, h2⟩ := r.ref_list
    exact ⟨a, vs, rfl, SqL.of (hid_le _ _ h1), fun p hp => q _ _ _ rfl (g.trans (Gr.of (same_new hp))) (.tup ((E.grow g).newV hp) (h2.rev.up (vis_gr (Gr.of (same_new hp)))))⟩) z⟩
/-! ### as expressions -/
theorem de_ix {r : R2} {Pa Pb P : PyData → Prop} (ho : IxR C.X r) (ha : DE C Ξ ρ a Pa) (hb : DE C Ξ ρ b Pb) (hr : ∀ x y, Pa x → Pb y → RD r x y P) (hs : PlainIx b := by intro _ _; rfl) : DE C Ξ ρ (.Subscript a b pos) P := fun σ H E Q k x =>
  ⟨_, pe_ix ho pE pE hs, ha σ H E _ (fun d v H2 p g r1 => hb σ H2 (E.grow g) _ (fun d' u H3 p' g' r2 =>
    hr d d' p p' C ρ σ H3 v u Q ((E.grow g).grow g') (r1.up (vis_gr g')) r2 fun z w H4 pz s rw' => k z w H4 pz ((g.trans g').trans (Gr.of s)) rw') fun c H3 xc g' => x c H3 xc (g.trans g')) x⟩
theorem de_ixT {ds : List PyData} {i : Int} {d : PyData} (ha : DEd C Ξ ρ a (.tuple ds)) (hb : DEd C Ξ ρ b (.int i)) (e : atI ds i = some d) (hs : PlainIx b := by intro _ _; rfl) : DEd C Ξ ρ (.Subscript a b pos) d :=
  de_ix ix_seq ha hb (fun _ _ h h' => by subst h; subst h'; exact rd_ixT e) hs
theorem de_ixL {ds : List PyData} {i : Int} {d : PyData} (ha : DEd C Ξ ρ a (.list ds)) (hb : DEd C Ξ ρ b (.int i)) (e : atI ds i = some d) (hs : PlainIx b := by intro _ _; rfl) : DEd C Ξ ρ (.Subscript a b pos) d :=
  de_ix ix_seq ha hb (fun _ _ h h' => by subst h; subst h'; exact rd_ixL e) hs
theorem de_ixS {x : Str} {i : Int} {c : Nat} (hz : x.length ≤ 16777216) (ha : DEd C Ξ ρ a (.str x)) (hb : DEd C Ξ ρ b (.int i)) (e : atI x.cps.toList i = some c) (hs : PlainIx b := by intro _ _; rfl) : DEd C Ξ ρ (.Subscript a b pos) (.str ⟨#[c]⟩) :=
  de_ix ix_seq ha hb (fun _ _ h h' => by subst h; subst h'; exact rd_ixS hz e) hs
/-- an item at a place that is not wholly known -/
theorem de_ixLI {ds : List PyData} {A : Int → Prop} {P : PyData → Prop} (ha : DEd C Ξ ρ a (.list ds)) (hb : DI C Ξ ρ b A) (e : ∀ i, A i → ∃ d, atI ds i = some d ∧ P d) (hs : PlainIx b := by intro _ _; rfl) : DE C Ξ ρ (.Subscript a b pos) P :=
  de_ix ix_seq ha hb (fun x y h ⟨i, h1, h2⟩ => by
    subst h; subst h1
    obtain ⟨d, e1, e2⟩ := e i h2
    intro A' ρ' σ H v u Q E r1 r2 k
    exact rd_ixL e1 A' ρ' σ H v u Q E r1 r2 fun z w H2 pz => k z w H2 (by rw [pz]; exact e2)) hs
theorem de_catT {xs ys : List PyData} (ha : DEd C Ξ ρ a (.tuple xs)) (hb : DEd C Ξ ρ b (.tuple ys)) (hz : xs.length + ys.length ≤ 16777216) : DEd C Ξ ρ (.BinOp a .Add b pos) (.tuple (xs ++ ys)) :=
  de_op2 op_catA ha hb fun _ _ h h' => by subst h; subst h'; exact rd_catT hz
theorem de_catL {xs ys : List PyData} (ha : DEd C Ξ ρ a (.list xs)) (hb : DEd C Ξ ρ b (.list ys)) (hz : xs.length + ys.length ≤ 16777216) : DEd C Ξ ρ (.BinOp a .Add b pos) (.list (xs ++ ys)) :=
  de_op2 op_cat ha hb fun _ _ h h' => by subst h; subst h'; exact rd_catL hz
theorem de_catS {x y : Str} (ha : DEd C Ξ ρ a (.str x)) (hb : DEd C Ξ ρ b (.str y)) (hz : x.length + y.length ≤ 16777216) : DEd C Ξ ρ (.BinOp a .Add b pos) (.str (x ++ y)) :=
  de_op2 op_add_str ha hb fun _ _ h h' => by subst h; subst h'; exact rd_catS hz
theorem de_repT {xs : List PyData} {k : Int} (ha : DEd C Ξ ρ a (.tuple xs)) (hb : DEd C Ξ ρ b (.int k)) (hne : xs ≠ []) (h2 : 2 ≤ k) (h3 : k ≤ 1000) (hz : xs.length ≤ 1000) : DEd C Ξ ρ (.BinOp a .Mult b pos) (.tuple (List.replicate k.toNat xs).flatten) :=
  de_op2 op_repT ha hb fun _ _ h h' => by subst h; subst h'; exact rd_repT hne h2 h3 hz
theorem de_repL {xs : List PyData} {k : Int} (ha : DEd C Ξ ρ a (.list xs)) (hb : DEd C Ξ ρ b (.int k)) (h2 : 0 ≤ k) (h3 : k ≤ 1000000) (hz : xs.length * k.toNat ≤ 16777216) : DEd C Ξ ρ (.BinOp a .Mult b pos) (.list (List.replicate k.toNat xs).flatten) :=
  de_op2 op_rep ha hb fun _ _ h h' => by subst h; subst h'; exact rd_repL h2 h3 hz
/-! ### int arithmetic on ints that are not wholly known -/
theorem di_add {A B : Int → Prop} (ha : DI C Ξ ρ a A) (hb : DI C Ξ ρ b B) : DI C Ξ ρ (.BinOp a .Add b pos) (fun k => ∃ i j, A i ∧ B j ∧ k = i + j) :=
  de_op2 op_add ha hb fun _ _ ⟨i, e, h⟩ ⟨j, e', h'⟩ => by
    subst e; subst e'
    intro A' ρ' σ H v u Q E r1 r2 k
    exact rd_int0 A' ρ' σ H v u Q E r1 r2 fun z w H2 pz => k z w H2 ⟨_, pz, i, j, h, h', rfl⟩
theorem di_sub {A B : Int → Prop} (ha : DI C Ξ ρ a A) (hb : DI C Ξ ρ b B) : DI C Ξ ρ (.BinOp a .Sub b pos) (fun k => ∃ i j, A i ∧ B j ∧ k = i - j) :=
  de_op2 op_sub ha hb fun _ _ ⟨i, e, h⟩ ⟨j, e', h'⟩ => by
    subst e; subst e'
    intro A' ρ' σ H v u Q E r1 r2 k
    exact rd_int0 A' ρ' σ H v u Q E r1 r2 fun z w H2 pz => k z w H2 ⟨_, pz, i, j, h, h', rfl⟩
theorem di_mul {A B : Int → Prop} (ha : DI C Ξ ρ a A) (hb : DI C Ξ ρ b B) (hm : ∀ i j, A i → B j → CMul i j) : DI C Ξ ρ (.BinOp a .Mult b pos) (fun k => ∃ i j, A i ∧ B j ∧ k = i * j) :=
  de_op2 op_mul ha hb fun _ _ ⟨i, e, h⟩ ⟨j, e', h'⟩ => by
    subst e; subst e'
    intro A' ρ' σ H v u Q E r1 r2 k
    exact rd_int (hm i j h h') A' ρ' σ H v u Q E r1 r2 fun z w H2 pz => k z w H2 ⟨_, pz, i, j, h, h', rfl⟩
theorem di_mod {A B : Int → Prop} (ha : DI C Ξ ρ a A) (hb : DI C Ξ ρ b B) (hm : ∀ j, B j → 0 < j) : DI C Ξ ρ (.BinOp a .Mod b pos) (fun k => ∃ i j, A i ∧ B j ∧ k = i % j) :=
  de_op2 op_mod ha hb fun _ _ ⟨i, e, h⟩ ⟨j, e', h'⟩ => by
    subst e; subst e'
    intro A' ρ' σ H v u Q E r1 r2 k
    exact rd_int (C' := fun _ j => 0 < j) (hm j h') A' ρ' σ H v u Q E r1 r2 fun z w H2 pz => k z w H2 ⟨_, pz, i, j, h, h', rfl⟩
end
end DD

namespace DD
variable [Nu]
open PySem L2
/-! ## what is walked -/
structure Yields (J : It) (ds : List PyData) (S : Hp → Prop) : Prop where
  mono : ∀ Hv Hv', Same Hv Hv' → S Hv → S Hv'
  go : ∀ (O : Addr → Bool) (H : Hp) (k : Nat), S (hid O H) → k < ds.length → J.go k H
  yld : ∀ (O : Addr → Bool) (H : Hp) (k : Nat) x H', (∀ a, O a = true → H a ≠ none) → S (hid O H) → k < ds.length → J.yld k H x H' → Same H H' ∧ ∃ d, ds[k]? = some d ∧ At (hid O H') x d
  stop : ∀ (O : Addr → Bool) (H : Hp) (k : Nat), S (hid O H) → ds.length ≤ k → J.stop k H
def cI (X : Cx) (tg e : Expr) : TI := fun σ H R => ∃ t, PI X tg e t ∧ t σ H R
theorem pI {X : Cx} {tg e : Expr} : PI X tg e (cI X tg e) := ⟨fun pins s σ H R I ⟨_, hp, h⟩ => hp.run pins s σ H R I h⟩
def DIt (C : Ct) (Ξ : Addr → Prop) (ρ : Rho) (tg e : Expr) (P : List PyData → Prop) : Prop :=
  ∀ σ H, Env C ρ σ H → ∀ R : It → Hp → Prop, (∀ ds J S H2, P ds → Gr C.U H H2 → S (vis C ρ H2) → Yields J ds S → R J H2) → (∀ c H2, Ξ c → Gr C.U H H2 → C.W (.ref c) none σ H2) → cI C.X tg e σ H R
abbrev DItd (C : Ct) (Ξ : Addr → Prop) (ρ : Rho) (tg e : Expr) (ds : List PyData) : Prop := DIt C Ξ ρ tg e (fun x => x = ds)
section
variable {C : Ct} {Ξ : Addr → Prop} {ρ : Rho} {e tg : Expr} {pos p : Pos}
theorem yields_list {K : PySem.W.Frag} {a : Addr} {ds : List PyData} : Yields (Itl K a) ds (fun Hv => ∃ xs, Hv a = some (.lst xs) ∧ AtAll Hv xs ds) where
  mono := fun Hv Hv' s ⟨xs, h1, h2⟩ => ⟨xs, s _ _ h1, h2.up s⟩
  go := fun O H k ⟨xs, h1, h2⟩ hk => by
    obtain ⟨v, h3, _⟩ := h2.get (List.getElem?_eq_getElem hk)
    exact ⟨xs, v, SqL.of (hid_le _ _ h1), h3⟩
  yld := fun O H k x H' _ ⟨xs, h1, h2⟩ hk y => by
    obtain ⟨rfl, y⟩ := y
    obtain ⟨d, h3, h4⟩ := h2.get' (y xs (SqL.of (hid_le _ _ h1)))
    exact ⟨Same.refl _, d, h3, h4⟩
  stop := fun O H k ⟨xs, h1, h2⟩ hk => ⟨xs, SqL.of (hid_le _ _ h1), by rw [h2.len]; exact hk⟩
theorem yields_tup {K : PySem.W.Frag} {a : Addr} {ds : List PyData} : Yields (Itt K a) ds (fun Hv => ∃ xs, Hv a = some (.tup xs) ∧ AtAll Hv xs ds) where
  mono := fun Hv Hv' s ⟨xs, h1, h2⟩ => ⟨xs, s _ _ h1, h2.up s⟩
  go := fun O H k ⟨xs, h1, h2⟩ hk => by
    obtain ⟨v, h3, _⟩ := h2.get (List.getElem?_eq_getElem hk)
    exact ⟨xs, v, SqT.of (hid_le _ _ h1), h3⟩
  yld := fun O H k x H' _ ⟨xs, h1, h2⟩ hk y => by
    obtain ⟨rfl, y⟩ := y
    obtain ⟨d, h3, h4⟩ := h2.get' (y xs (SqT.of (hid_le _ _ h1)))
    exact ⟨Same.refl _, d, h3, h4⟩
  stop := fun O H k ⟨xs, h1, h2⟩ hk => ⟨xs, SqT.of (hid_le _ _ h1), by rw [h2.len]; exact hk⟩
def rangeD (lo : Int) (n : Nat) : List PyData := (List.range n).map fun i => .int (lo + (i : Nat))
theorem rangeD_len (lo : Int) (n : Nat) : (rangeD lo n).length = n := by unfold rangeD; rw [List.length_map, List.length_range]
theorem rangeD_at {lo : Int} {n k : Nat} (h : k < n) : (rangeD lo n)[k]? = some (.int (lo + (k : Nat))) := by
  unfold rangeD
  rw [List.getElem?_map, List.getElem?_range h]
  rfl
theorem yields_range {lo : Int} {n : Nat} : Yields (Itr lo n) (rangeD lo n) (fun _ => True) where
  mono := fun _ _ _ _ => trivial
  go := fun O H k _ hk => by rw [rangeD_len] at hk; exact hk
  yld := fun O H k x H' _ _ hk y => by
    obtain ⟨rfl, rfl⟩ := y
    rw [rangeD_len] at hk
    exact ⟨Same.refl _, _, rangeD_at hk, .int _⟩
  stop := fun O H k _ hk => by rw [rangeD_len] at hk; exact hk
def strD (x : Str) : List PyData := x.cps.toList.map fun c => .str ⟨#[c]⟩
theorem yields_str {x : Str} : Yields (Its x) (strD x) (fun _ => True) where
  mono := fun _ _ _ _ => trivial
  go := fun O H k _ hk => by
    have : k < x.cps.size := by simpa [strD] using hk
    exact this
  yld := fun O H k v H' _ _ hk y => by
    obtain ⟨rfl, c, h1, rfl⟩ := y
    refine ⟨Same.refl _, .str ⟨#[c]⟩, ?_, .str _⟩
    unfold strD
    rw [List.getElem?_map, Array.getElem?_toList, h1]
    rfl
  stop := fun O H k _ hk => by
    have : x.cps.size ≤ k := by simpa [strD] using hk
    exact this
theorem Env.out {C : Ct} {ρ : Rho} {σ : L2.St} {H : Hp} (E : Env C ρ σ H) : ∀ a, inn C ρ a = true → H a ≠ none := fun a h => by
  unfold inn at h
  rcases Bool.or_eq_true_iff.mp h with z | z
  · exact E.alloc a z
  · exact E.own_at z
theorem dit_list {ds : List PyData} (ha : DEd C Ξ ρ e (.list ds)) : DItd C Ξ ρ tg e ds := fun σ H E R k z => ⟨_, pi_list pE, ha σ H E _ (fun d v H2 pd g r => by
  subst pd
  obtain ⟨a, vs, rfl, h1, h2⟩ := r.ref_list
  exact ⟨a, rfl, ⟨vs, SqL.of (hid_le _ _ h1)⟩, k _ _ _ H2 rfl g ⟨vs, h1, h2⟩ yields_list⟩) z⟩
theorem dit_tup {ds : List PyData} (ha : DEd C Ξ ρ e (.tuple ds)) : DItd C Ξ ρ tg e ds := fun σ H E R k z => ⟨_, pi_tup pE, ha σ H E _ (fun d v H2 pd g r => by
  subst pd
  obtain ⟨a, vs, rfl, h1, h2⟩ := r.ref_tup
  exact ⟨a, rfl, ⟨vs, SqT.of (hid_le _ _ h1)⟩, k _ _ _ H2 rfl g ⟨vs, h1, h2⟩ yields_tup⟩) z⟩
theorem dit_tupG {P : List PyData → Prop} (ha : DE C Ξ ρ e (fun d => ∃ ds, d = .tuple ds ∧ P ds)) : DIt C Ξ ρ tg e P := fun σ H E R k z => ⟨_, pi_tup pE, ha σ H E _ (fun d v H2 pd g r => by
  obtain ⟨ds, rfl, pd⟩ := pd
  obtain ⟨a, vs, rfl, h1, h2⟩ := r.ref_tup
  exact ⟨a, rfl, ⟨vs, SqT.of (hid_le _ _ h1)⟩, k _ _ _ H2 pd g ⟨vs, h1, h2⟩ yields_tup⟩) z⟩
theorem dit_str {x : Str} (ha : DEd C Ξ ρ e (.str x)) : DItd C Ξ ρ tg e (strD x) := fun σ H E R k z => ⟨_, pi_str pE, ha σ H E _ (fun d v H2 pd g r => by
  subst pd
  exact ⟨x, r.str_inv, k _ _ _ H2 rfl g trivial yields_str⟩) z⟩
theorem dit_rangeG {A : Int → Prop} (hg : Gl C.X "range") (hm : C.X.mg "range" = none) (ha : DI C Ξ ρ e A) (hz : ∀ i, A i → i < 2 ^ 62 ∧ -(2 ^ 62) ≤ i) (hs : starEach [e] C.X.env = [(false, eval e C.X.env)] := by rfl) : DIt C Ξ ρ tg (.Call (.Name "range" p) [e] [] pos) (fun ds => ∃ i, A i ∧ ds = rangeD 0 i.toNat) := fun σ H E R k z =>
  ⟨_, pi_range1 hg hm (pa_cons pE pa_nil hs) hs, ha σ H E _ (fun d v H2 pd g r => by
    obtain ⟨i, rfl, ai⟩ := pd
    obtain ⟨h1, h2⟩ := hz i ai
    exact ⟨i, by rw [r.int_inv], h2, h1, k _ _ _ H2 ⟨i, ai, rfl⟩ g trivial yields_range⟩) z⟩
theorem dit_range {i : Int} (hg : Gl C.X "range") (hm : C.X.mg "range" = none) (ha : DEd C Ξ ρ e (.int i)) (hz : i < 2 ^ 62 ∧ -(2 ^ 62) ≤ i) (hs : starEach [e] C.X.env = [(false, eval e C.X.env)] := by rfl) : DItd C Ξ ρ tg (.Call (.Name "range" p) [e] [] pos) (rangeD 0 i.toNat) := fun σ H E R k z =>
  dit_rangeG (A := fun j => j = i) hg hm ha.toI (fun j e => by rw [e]; exact hz) hs σ H E R (fun ds J S H2 pd => k ds J S H2 (by obtain ⟨j, e1, e2⟩ := pd; rw [e2, e1])) z
theorem dit_range2 {a b : Expr} {i j : Int} (hg : Gl C.X "range") (hm : C.X.mg "range" = none) (ha : DEd C Ξ ρ a (.int i)) (hb : DEd C Ξ ρ b (.int j)) (hz : -(2 ^ 62) ≤ i ∧ i < 2 ^ 62 ∧ -(2 ^ 62) ≤ j ∧ j < 2 ^ 62) (hs : starEach [a, b] C.X.env = [(false, eval a C.X.env), (false, eval b C.X.env)] := by rfl) (hs2 : starEach [b] C.X.env = [(false, eval b C.X.env)] := by rfl) :
    DItd C Ξ ρ tg (.Call (.Name "range" p) [a, b] [] pos) (rangeD i (j - i).toNat) := fun σ H E R k z =>
  ⟨_, pi_range2 hg hm (pa_cons pE (pa_cons pE pa_nil hs2) (by rw [hs, hs2])) hs hs2, ha σ H E _ (fun d v H2 pd g r => hb σ H2 (E.grow g) _ (fun d' u H3 pd' g' r' => by
    subst pd; subst pd'
    exact ⟨i, j, by rw [r.int_inv, r'.int_inv], hz, k _ _ _ H3 rfl (g.trans g') trivial yields_range⟩) fun c H3 xc g' => z c H3 xc (g.trans g')) z⟩
theorem dit_revL {ds : List PyData} (hg : Gl C.X "reversed") (hm : C.X.mg "reversed" = none) (ha : DEd C Ξ ρ e (.list ds)) (hs : starEach [e] C.X.env = [(false, eval e C.X.env)] := by rfl) : DItd C Ξ ρ tg (.Call (.Name "reversed" p) [e] [] pos) ds.reverse := fun σ H E R k z =>
  ⟨_, pi_reversed hg hm (pa_cons pE pa_nil hs) hs, ha σ H E _ (fun d v H2 pd g r => by
    subst pd
    obtain ⟨a, vs, rfl, h1, h2⟩ := r.ref_list
    refine ⟨a, vs, rfl, SqL.of (hid_le _ _ h1), k _ _ (fun Hv => ∃ xs, Hv a = some (.lst xs) ∧ AtAll Hv xs ds) H2 rfl g ⟨vs, h1, h2⟩ ?_⟩
    have hl := h2.len
    refine ⟨fun Hv Hv' s ⟨xs, h1, h2⟩ => ⟨xs, s _ _ h1, h2.up s⟩, fun O H k ⟨xs, h3, h4⟩ hk => ?_, fun O H k x H' _ ⟨xs, h3, h4⟩ hk y => ?_, fun O H k ⟨xs, h3, h4⟩ hk => ?_⟩
    · rw [List.length_reverse] at hk
      have hl2 := h4.len
      obtain ⟨v, h5, _⟩ := h4.get (i := vs.length - 1 - k) (List.getElem?_eq_getElem (by omega))
      exact ⟨by omega, xs, v, SqL.of (hid_le _ _ h3), h5⟩
    · obtain ⟨rfl, y⟩ := y
      rw [List.length_reverse] at hk
      obtain ⟨d, h5, h6⟩ := h4.get' (y xs (SqL.of (hid_le _ _ h3)))
      refine ⟨Same.refl _, d, ?_, h6⟩
      rw [List.getElem?_reverse hk, ← hl]
      exact h5
    · rw [List.length_reverse] at hk
      show vs.length ≤ k
      omega) z⟩
end
/-! ## slots set -/
theorem gt_set {ρ : Rho} {i j : Nat} {sv : SV} : gt (ρ.set i sv) j = if i = j ∧ i < ρ.length then sv else gt ρ j := by
  unfold gt
  rw [List.getD_eq_getElem?_getD, List.getD_eq_getElem?_getD, List.getElem?_set]
  by_cases h : i = j
  · subst h
    by_cases h2 : i < ρ.length
    · rw [if_pos rfl, if_pos h2, if_pos ⟨rfl, h2⟩]; rfl
    · rw [if_pos rfl, if_neg h2, if_neg (fun z => h2 z.2), List.getElem?_eq_none (by omega)]
  · rw [if_neg h, if_neg (fun z => h z.1)]
theorem sg_set {σ : L2.St} {i j : Nat} {o : Option V} : (σ.set i o).getD j none = if i = j ∧ i < σ.length then o else σ.getD j none := by
  rw [List.getD_eq_getElem?_getD, List.getD_eq_getElem?_getD, List.getElem?_set]
  by_cases h : i = j
  · subst h
    by_cases h2 : i < σ.length
    · rw [if_pos rfl, if_pos h2, if_pos ⟨rfl, h2⟩]; rfl
    · rw [if_pos rfl, if_neg h2, if_neg (fun z => h2 z.2), List.getElem?_eq_none (by omega)]
  · rw [if_neg h, if_neg (fun z => h z.1)]
theorem owns_iff {ρ : Rho} {a : Addr} : owns ρ a = true ↔ ∃ i, (gt ρ i).addr = some a := by
  unfold owns
  rw [List.any_eq_true]
  constructor
  · rintro ⟨sv, hm, e⟩
    obtain ⟨i, hi⟩ := mem_gt hm
    exact ⟨i, by rw [hi]; exact eq_of_beq e⟩
  · rintro ⟨i, hi⟩
    have hl : i < ρ.length := by
      rcases Nat.lt_or_ge i ρ.length with z | z
      · exact z
      · exfalso
        unfold gt at hi
        rw [List.getD_eq_getElem?_getD, List.getElem?_eq_none z] at hi
        cases hi
    refine ⟨gt ρ i, ?_, by rw [hi]; exact beq_self_eq_true _⟩
    unfold gt
    rw [List.getD_eq_getElem?_getD, List.getElem?_eq_getElem hl]
    exact List.getElem_mem hl
/-- a slot that owns nothing is put: what is seen only grows -/
theorem owns_set {ρ : Rho} {i : Nat} {sv : SV} (h : sv.addr = none) {a : Addr} (e : owns (ρ.set i sv) a = true) : owns ρ a = true := by
  obtain ⟨j, hj⟩ := owns_iff.mp e
  rw [gt_set] at hj
  split at hj
  · rw [h] at hj; cases hj
  · exact owns_iff.mpr ⟨j, hj⟩
theorem vis_le {C : Ct} {ρ ρ' : Rho} {H : Hp} (h : ∀ a, owns ρ' a = true → owns ρ a = true) : Same (vis C ρ H) (vis C ρ' H) := hid_mono fun a o e1 e2 => by
  refine ⟨?_, e2⟩
  unfold inn at e1 ⊢
  rw [Bool.or_eq_false_iff] at e1 ⊢
  refine ⟨e1.1, ?_⟩
  cases q : owns ρ' a with
  | false => rfl
  | true => rw [h a q] at e1; exact e1.2
theorem SlotOk.see {C : Ct} {ρ ρ' : Rho} {H H' : Hp} {sv : SV} {o : Option V} (s : Same (vis C ρ H) (vis C ρ' H')) (k : ∀ a u, sv.addr = some a → H a = some u → H' a = some u) (h : SlotOk C ρ H sv o) : SlotOk C ρ' H' sv o := by
  cases sv with
  | no => trivial
  | dat d => obtain ⟨v, e, r⟩ := h; exact ⟨v, e, r.up s⟩
  | raw v => exact h
  | own p ds => obtain ⟨e, h1, h2, xs, h3, h4⟩ := h; exact ⟨e, h1, h2, xs, k _ _ rfl h3, h4.up s⟩
  | dic p kvs => obtain ⟨e, h1, h2, xs, h3, h4⟩ := h; exact ⟨e, h1, h2, xs, k _ _ rfl h3, h4.up s⟩
  | thg p th => obtain ⟨e, h1, h2, u, h3, h4⟩ := h; exact ⟨e, h1, h2, u, k _ _ rfl h3, th.up s h4⟩
theorem Env.put {C : Ct} {ρ : Rho} {σ : L2.St} {H : Hp} (E : Env C ρ σ H) {i : Nat} {sv : SV} {o : Option V} (ha : sv.addr = none) (h : SlotOk C ρ H sv o) : Env C (ρ.set i sv) (σ.set i o) H ∧ Same (vis C ρ H) (vis C (ρ.set i sv) H) := by
  have s : Same (vis C ρ H) (vis C (ρ.set i sv) H) := vis_le fun a e => owns_set ha e
  refine ⟨⟨by rw [List.length_set, List.length_set, E.len], fun j => ?_, E.cell, E.alloc, E.gr, fun j l p hj hl => ?_⟩, s⟩
  · rw [gt_set, sg_set, E.len]
    split
    · exact h.see s fun a u e => by rw [ha] at e; cases e
    · exact (E.slot j).see s fun _ _ _ q => q
  · rw [gt_set] at hj hl
    split at hj
    · rw [ha] at hj; cases hj
    · split at hl
      · rw [ha] at hl; cases hl
      · exact E.dis j l p hj hl
/-! ## targets -/
def cG (X : Cx) (tg : Expr) : TG := fun v σ H Q => ∃ t, PG X tg t ∧ t v σ H Q
def cGs (X : Cx) (tgs : List Expr) : TGs := fun v σ H Q => ∃ t, PGs X tgs t ∧ t v σ H Q
theorem pG {X : Cx} {tg : Expr} : PG X tg (cG X tg) := ⟨fun pins s σ H v u Q I r ⟨_, hp, h⟩ => hp.run pins s σ H v u Q I r h⟩
theorem pGs {X : Cx} {tgs : List Expr} : PGs X tgs (cGs X tgs) := ⟨fun pins s σ H v u Q I r ⟨_, hp, h⟩ => hp.run pins s σ H v u Q I r h⟩
def wipeOk (js : List Nat) (σ σ' : L2.St) : Prop := ∀ vs : List Nat, (∀ j ∈ js, j ∈ vs) → wipe σ' vs = wipe σ vs
theorem wipe_set {σ : L2.St} {j : Nat} {o : Option V} : ∀ {vs : List Nat}, j ∈ vs → wipe (σ.set j o) vs = wipe σ vs
  | [], h => by cases h
  | v :: vs, h => by
    unfold wipe
    by_cases e : j ∈ vs
    · rw [wipe_set e]
    · have e2 : j = v := by
        rcases List.mem_cons.mp h with z | z
        · exact z
        · exact absurd z e
      subst e2
      have out : ∀ vs : List Nat, j ∉ vs → wipe (σ.set j o) vs = (wipe σ vs).set j o := by
        intro vs
        induction vs with
        | nil => intro _; rfl
        | cons v r ih =>
          intro hn
          have h1 : j ≠ v := fun z => hn (by rw [z]; exact List.mem_cons_self)
          unfold wipe
          rw [ih fun z => hn (List.mem_cons_of_mem _ z), List.set_comm _ _ h1]
      rw [out vs e, List.set_set]
def DG (C : Ct) (ρ : Rho) (tg : Expr) (d : PyData) (ρ' : Rho) (js : List Nat) : Prop :=
  ∀ σ H v, Env C ρ σ H → At (vis C ρ H) v d → ∀ Q : L2.St → Hp → Prop, (∀ σ', Env C ρ' σ' H → Same (vis C ρ H) (vis C ρ' H) → wipeOk js σ σ' → Q σ' H) → cG C.X tg v σ H Q
def DGs (C : Ct) (ρ : Rho) (tgs : List Expr) (ds : List PyData) (ρ' : Rho) (js : List Nat) : Prop :=
  ∀ σ H vs, Env C ρ σ H → AtAll (vis C ρ H) vs ds → ∀ Q : L2.St → Hp → Prop, (∀ σ', Env C ρ' σ' H → Same (vis C ρ H) (vis C ρ' H) → wipeOk js σ σ' → Q σ' H) → cGs C.X tgs vs σ H Q
section
variable {C : Ct} {ρ ρ' ρ'' : Rho} {e : Expr} {es : List Expr} {pos : Pos}
theorem dg_name (i : Nat) {x : Str} {d : PyData} (hN : C.X.N.Nodup) (hi : C.X.N[i]? = some x) (hx : Loc C.X.env.scope x) (hf : C.X.fn x = true ∨ C.X.env.scope.names.lookup x = some .local := by first | exact .inl rfl | exact .inr rfl) : DG C ρ (.Name x pos) d (ρ.set i (.dat d)) [i] := fun σ H v E r Q k => by
  refine ⟨_, pg_name hN hi hx hf, ?_⟩
  obtain ⟨E2, s⟩ := E.put (i := i) (sv := .dat d) (o := some v) rfl ⟨v, rfl, r⟩
  exact k _ E2 s fun vs hj => wipe_set (hj i List.mem_cons_self)
theorem dgs_nil : DGs C ρ [] [] ρ [] := fun σ H vs E r Q k => by
  cases r
  exact ⟨_, pgs_nil, rfl, k σ E (Same.refl _) fun _ _ => rfl⟩
theorem dgs_cons {d : PyData} {ds : List PyData} {js js' : List Nat} (h : DG C ρ e d ρ' js) (hr : DGs C ρ' es ds ρ'' js') (hs : (assignEach (e :: es) C.X.env).map (·.2) = assign e C.X.env :: (assignEach es C.X.env).map (·.2) := by rfl) : DGs C ρ (e :: es) (d :: ds) ρ'' (js ++ js') := fun σ H vs E r Q k => by
  cases r with
  | cons r1 r2 =>
    refine ⟨_, pgs_cons pG pGs hs, _, _, rfl, h σ H _ E r1 _ fun σ1 E1 s1 w1 => hr σ1 H _ E1 (r2.up s1) _ fun σ2 E2 s2 w2 => k σ2 E2 (s1.trans s2) fun vs hv => ?_⟩
    rw [w2 vs fun j hj => hv j (List.mem_append_right _ hj), w1 vs fun j hj => hv j (List.mem_append_left _ hj)]
theorem dg_tup {ds : List PyData} {js : List Nat} {k : Nat} (h : DGs C ρ es ds ρ' js) (hc : C.X.calm = true := by rfl) (hn : (assignEach es C.X.env).length = ds.length := by rfl) (hst : (assignEach es C.X.env).findIdx? (·.1) = none := by rfl) : DG C ρ (.Tuple es k pos) (.tuple ds) ρ' js := fun σ H v E r Q q => by
  obtain ⟨a, xs, rfl, h1, h2⟩ := r.ref_tup
  exact ⟨_, pg_tup hc pGs hn hst, a, xs, rfl, SqT.of (hid_le _ _ h1), h2.len, h σ H xs E h2 Q q⟩
end
end DD

namespace DD
variable [Nu]
open PySem L2
/-! ## list comprehensions -/
theorem takes0N {X : Cx} : L2N.Takes X (fun _ _ _ _ => False) := fun _ _ ⟨_, _, _, _, _, _, _, _, _, _, _, _, _, _, _, _, z⟩ => z.elim
def Ct.blk (C : Ct) (s : Shared) (H : Hp) (scope : Scope) (cenv : PySem.Env) (fp : List Addr) (O' : Addr → Bool) (le' : ∀ a, C.U a = true → O' a = true) : Ct where
  X := C.X.blk s H scope cenv fp
  W := fun _ _ _ _ => False
  tk := takes0N
  O := O'
  U := C.U
  le := le'
  base := C.base
  lv := C.lv
  room := C.room
  hd := C.hd
def wipeR (ρ : Rho) : List Nat → Rho
  | [] => ρ
  | v :: vs => (wipeR ρ vs).set v .no
theorem Env.wipe {C : Ct} {ρ : Rho} {σ : L2.St} {H : Hp} (E : Env C ρ σ H) : ∀ vs : List Nat, Env C (wipeR ρ vs) (wipe σ vs) H ∧ Same (vis C ρ H) (vis C (wipeR ρ vs) H)
  | [] => ⟨E, Same.refl _⟩
  | v :: vs => by
    obtain ⟨E1, s1⟩ := Env.wipe E vs
    obtain ⟨E2, s2⟩ := E1.put (i := v) (sv := .no) (o := none) rfl trivial
    exact ⟨E2, s1.trans s2⟩
/-- the same slots, seen with fewer places -/
theorem Env.less {C C' : Ct} {ρ : Rho} {σ : L2.St} {H : Hp} (E : Env C ρ σ H) (hO : ∀ a, C'.O a = C.O a) (hU : C'.U = C.U) (hb : C'.base = C.base) : Env C' ρ σ H := by
  have s : Same (vis C ρ H) (vis C' ρ H) := hid_mono fun a o e1 e2 => ⟨by unfold inn at e1 ⊢; rw [hO]; exact e1, e2⟩
  refine ⟨E.len, fun i => ?_, by rw [hU]; exact E.cell, fun a h => E.alloc a (by rw [← hO]; exact h), by rw [hU, hb]; exact E.gr, E.dis⟩
  have q := E.slot i
  cases h : gt ρ i with
  | no => trivial
  | dat d => rw [h] at q; obtain ⟨v, e, r⟩ := q; exact ⟨v, e, r.up s⟩
  | raw v => rw [h] at q; exact q
  | own p ds => rw [h] at q; obtain ⟨e, h1, h2, xs, h3, h4⟩ := q; exact ⟨e, by rw [hO]; exact h1, by rw [hb]; exact h2, xs, h3, h4.up s⟩
  | dic p ds => rw [h] at q; obtain ⟨e, h1, h2, xs, h3, h4⟩ := q; exact ⟨e, by rw [hO]; exact h1, by rw [hb]; exact h2, xs, h3, h4.up s⟩
  | thg p th => rw [h] at q; obtain ⟨e, h1, h2, u, h3, h4⟩ := q; exact ⟨e, by rw [hO]; exact h1, by rw [hb]; exact h2, u, h3, th.up s h4⟩
/-- a new list D, hidden -/
def plusO (O : Addr → Bool) (D : Addr) : Addr → Bool := fun a => O a || a == D
theorem Env.hide {C C' : Ct} {ρ : Rho} {σ : L2.St} {H : Hp} {D : Addr} {o : HO} (E : Env C ρ σ H) (hD : H D = none) (hO : ∀ a, C'.O a = plusO C.O D a) (hU : C'.U = C.U) (hb : C'.base = C.base) : Env C' ρ σ (upd H D o) ∧ Same (vis C ρ H) (vis C' ρ (upd H D o)) := by
  have s : Same (vis C ρ H) (vis C' ρ (upd H D o)) := hid_mono fun a u e1 e2 => by
    have hne : a ≠ D := ne_of_none e2 hD
    refine ⟨?_, by rw [upd_ne hne]; exact e2⟩
    unfold inn at e1 ⊢
    rw [Bool.or_eq_false_iff] at e1 ⊢
    refine ⟨?_, e1.2⟩
    rw [hO]
    unfold plusO
    rw [e1.1, Bool.false_or]
    exact beq_eq_false_iff_ne.mpr hne
  have hOD := E.new hD
  have up : ∀ a u, H a = some u → upd H D o a = some u := fun a u e => by rw [upd_ne (ne_of_none e hD)]; exact e
  have nO : ∀ p, C.O p = false → (∃ u, H p = some u) → C'.O p = false := fun p h ⟨u, e⟩ => by
    rw [hO]
    unfold plusO
    rw [h, Bool.false_or]
    exact beq_eq_false_iff_ne.mpr (ne_of_none e hD)
  refine ⟨⟨E.len, fun i => ?_, fun a h => ?_, fun a h => ?_, ?_, E.dis⟩, s⟩
  · have q := E.slot i
    cases h : gt ρ i with
    | no => trivial
    | dat d => rw [h] at q; obtain ⟨v, e, r⟩ := q; exact ⟨v, e, r.up s⟩
    | raw v => rw [h] at q; exact q
    | own p ds => rw [h] at q; obtain ⟨e, h1, h2, xs, h3, h4⟩ := q; exact ⟨e, nO p h1 ⟨_, h3⟩, by rw [hb]; exact h2, xs, up _ _ h3, h4.up s⟩
    | dic p ds => rw [h] at q; obtain ⟨e, h1, h2, xs, h3, h4⟩ := q; exact ⟨e, nO p h1 ⟨_, h3⟩, by rw [hb]; exact h2, xs, up _ _ h3, h4.up s⟩
    | thg p th => rw [h] at q; obtain ⟨e, h1, h2, u, h3, h4⟩ := q; exact ⟨e, nO p h1 ⟨_, h3⟩, by rw [hb]; exact h2, u, up _ _ h3, th.up s h4⟩
  · rw [hU] at h
    obtain ⟨k, e⟩ := E.cell a h
    exact ⟨k, e.up up⟩
  · rw [hO] at h
    unfold plusO at h
    rcases Bool.or_eq_true_iff.mp h with z | z
    · cases q : H a with
      | none => exact absurd q (E.alloc a z)
      | some u => rw [up _ _ q]; simp
    · rw [eq_of_beq z, upd_same]; simp
  · rw [hU, hb]
    exact E.gr.trans (Gr.of (same_new hD))
/-- the hidden list changes -/
theorem Env.turn {C' : Ct} {ρ : Rho} {σ : L2.St} {H : Hp} {D : Addr} {xs : List V} {o' : HO} (E : Env C' ρ σ H) (hD : H D = some (.lst xs)) (hO : C'.O D = true) (hU : C'.U D = false) (hb : C'.base D = none) (ho : owns ρ D = false) : Env C' ρ σ (upd H D o') ∧ vis C' ρ (upd H D o') = vis C' ρ H := by
  have e : vis C' ρ (upd H D o') = vis C' ρ H := by
    funext a
    show hid _ _ a = hid _ _ a
    unfold hid
    by_cases h : a = D
    · subst h
      have q : inn C' ρ a = true := by unfold inn; rw [hO]; rfl
      rw [if_pos q, if_pos q]
    · split
      · rfl
      · exact upd_ne h
  have nD : ∀ p, owns ρ p = true → p ≠ D := fun p h z => by rw [z, ho] at h; cases h
  refine ⟨⟨E.len, fun i => ?_, fun a h => ?_, fun a h => ?_, ⟨fun a u hu q => ?_, fun a k hu q => ?_⟩, E.dis⟩, e⟩
  · have q := E.slot i
    cases h : gt ρ i with
    | no => trivial
    | dat d => rw [h] at q; obtain ⟨v, e', r⟩ := q; exact ⟨v, e', by rw [e]; exact r⟩
    | raw v => rw [h] at q; exact q
    | own p ds => rw [h] at q; obtain ⟨e', h1, h2, xs, h3, h4⟩ := q; exact ⟨e', h1, h2, xs, by rw [upd_ne (nD p (owns_iff.mpr ⟨i, by rw [h]; rfl⟩))]; exact h3, by rw [e]; exact h4⟩
    | dic p ds => rw [h] at q; obtain ⟨e', h1, h2, xs, h3, h4⟩ := q; exact ⟨e', h1, h2, xs, by rw [upd_ne (nD p (owns_iff.mpr ⟨i, by rw [h]; rfl⟩))]; exact h3, by rw [e]; exact h4⟩
    | thg p th => rw [h] at q; obtain ⟨e', h1, h2, u, h3, h4⟩ := q; exact ⟨e', h1, h2, u, by rw [upd_ne (nD p (owns_iff.mpr ⟨i, by rw [h]; rfl⟩))]; exact h3, by rw [e]; exact h4⟩
  · obtain ⟨k, q⟩ := E.cell a h
    exact ⟨k, q.mut hD fun z => by rw [z, hU] at h; cases h⟩
  · by_cases z : a = D
    · rw [z, upd_same]; simp
    · rw [upd_ne z]; exact E.alloc a h
  · rw [upd_ne (fun z => by rw [z, hb] at q; cases q)]
    exact E.gr.keep a u hu q
  · exact (E.gr.cell a k hu q).mut hD fun z => by rw [z, hU] at hu; cases hu
theorem wipe_out2 (σ : L2.St) (v : Nat) : ∀ vs : List Nat, (wipe σ vs).set v none = wipe (σ.set v none) vs
  | [] => rfl
  | w :: vs => by
    unfold wipe
    rw [← wipe_out2 σ v vs]
    by_cases h : v = w
    · rw [h]
    · rw [List.set_comm _ _ (Ne.symm h)]
theorem wipe_wipe (σ : L2.St) : ∀ vs : List Nat, wipe (wipe σ vs) vs = wipe σ vs
  | [] => rfl
  | v :: vs => by
    show (wipe ((wipe σ vs).set v none) vs).set v none = (wipe σ vs).set v none
    rw [← wipe_out2, List.set_set, wipe_wipe σ vs]
/-- the kept items and what became of them -/
def Made (t : PyData → Bool) (P : PyData → PyData → Prop) (ds es : List PyData) : Prop := Paired P (ds.filter t) es
theorem Paired.appP {α β : Type} {F : α → β → Prop} : ∀ {l1 m1 : List α} {l2 m2 : List β}, Paired F l1 l2 → Paired F m1 m2 → Paired F (l1 ++ m1) (l2 ++ m2)
  | _, _, _, _, .nil, s => s
  | _, _, _, _, .cons r t, s => .cons r (Paired.appP t s)
def PTsIf (X : Cx) (ifs : List Expr) (t : TT) : Prop := PTs X ifs t
def cTs (X : Cx) (ifs : List Expr) : TT := fun σ H Q => ∃ t, PTs X ifs t ∧ t σ H Q
theorem pTs {X : Cx} {ifs : List Expr} : PTs X ifs (cTs X ifs) := ⟨fun pins s σ H Q I ⟨_, hp, h⟩ => hp.run pins s σ H Q I h⟩
def DTs (C : Ct) (Ξ : Addr → Prop) (ρ : Rho) (ifs : List Expr) (k : Bool) : Prop :=
  ∀ σ H, Env C ρ σ H → ∀ Q : Bool → Hp → Prop, (∀ H2, Gr C.U H H2 → Q k H2) → (∀ c H2, Ξ c → Gr C.U H H2 → C.W (.ref c) none σ H2) → cTs C.X ifs σ H Q
theorem dts_nil {C : Ct} {Ξ : Addr → Prop} {ρ : Rho} : DTs C Ξ ρ [] true := fun σ H E Q q z => ⟨_, pts_nil, q H (Gr.refl _ _)⟩
theorem dts_one {C : Ct} {Ξ : Addr → Prop} {ρ : Rho} {e : Expr} {k : Bool} (h : DTd C Ξ ρ e k) : DTs C Ξ ρ [e] k := fun σ H E Q q z => ⟨_, pts_one pT, h σ H E _ (fun b H2 p g => by subst p; exact q H2 g) z⟩
section
variable {C : Ct} {Ξ : Addr → Prop} {ρ : Rho} {elt tg iter : Expr} {ifs : List Expr} {scope : Scope} {own : List (Str × Nat)} {pos : Pos}
theorem lc_read {Pd : List PyData → Prop} {t : PyData → Bool} {P : PyData → PyData → Prop} {js : List Nat} {ρ1 : PyData → Rho} {σ : L2.St} {H : Hp} {Q : VK} (E : Env C ρ σ H) (hi : DIt C Ξ ρ tg iter Pd) (hn : ∀ ds, Pd ds → ds.length ≤ 16777215)
    (hw : ∀ a, owns (wipeR ρ (own.map (·.2))) a = owns ρ a) (hj : ∀ j ∈ js, j ∈ own.map (·.2))
    (step : ∀ (ds : List PyData), Pd ds → ∀ (k : Nat) (d : PyData), ds[k]? = some d → ∀ s H Cc cl fp O' le', (∀ a, owns (ρ1 d) a = owns ρ a) ∧ DG (C.blk s H scope (compEnvC scope cl Cc C.X.env) fp O' le') (wipeR ρ (own.map (·.2))) tg d (ρ1 d) js ∧ DTs (C.blk s H scope (compEnvC scope cl Cc C.X.env) fp O' le') none' (ρ1 d) ifs (t d) ∧
      (t d = true → DE (C.blk s H scope (compEnvC scope cl Cc C.X.env) fp O' le') none' (ρ1 d) elt (P d)))
    (q : ∀ ds es v H2, Pd ds → Made t P ds es → Gr C.U H H2 → At (vis C ρ H2) v (.list es) → Q v H2) (z : ∀ c H2, Ξ c → Gr C.U H H2 → C.W (.ref c) none σ H2) :
    tLc (cI C.X tg iter) (fun v σ H Q => ∀ s H0 Cc cl fp, cG (C.X.blk s H0 scope (compEnvC scope cl Cc C.X.env) fp) tg v σ H Q) (fun σ H Q => ∀ s H0 Cc cl fp, cTs (C.X.blk s H0 scope (compEnvC scope cl Cc C.X.env) fp) ifs σ H Q)
      (fun σ H Q => ∀ s H0 Cc cl fp, cE (C.X.blk s H0 scope (compEnvC scope cl Cc C.X.env) fp) elt σ H Q) (own.map (·.2)) σ H Q := by
  refine hi σ H E _ (fun ds J S H1 pd g hS Y => ?_) z
  intro D hD
  have E1 := E.grow g
  have hOD := E1.new hD
  have hUD : C.U D = false := O_U hOD
  have hbD : C.base D = none := by
    cases e : C.base D with
    | none => rfl
    | some u => rw [E1.gr.keep D u hUD e] at hD; cases hD
  have hoD : owns ρ D = false := by
    cases e : owns ρ D with
    | false => rfl
    | true => exact absurd hD (E1.own_at e)
  have le' : ∀ a, C.U a = true → plusO C.O D a = true := fun a h => by unfold plusO; rw [C.le a h]; rfl
  have pO' : plusO C.O D D = true := by unfold plusO; rw [beq_self_eq_true, Bool.or_true]
  -- a context that hides D
  let C' : Ct := C.blk C.X.s_0 C.X.H_0 scope C.X.env [] (plusO C.O D) le'
  obtain ⟨Ew, sw⟩ := E1.wipe (own.map (·.2))
  have hoW : owns (wipeR ρ (own.map (·.2))) D = false := by rw [hw]; exact hoD
  obtain ⟨E2, s2⟩ := Ew.hide (C' := C') (o := .lst []) hD (fun _ => rfl) rfl rfl
  refine ⟨fun i m H2 => m = ds.length - i ∧ i ≤ ds.length ∧ Env C' (wipeR ρ (own.map (·.2))) (wipe σ (own.map (·.2))) H2 ∧ S (vis C' (wipeR ρ (own.map (·.2))) H2) ∧ Gr C.U H1 H2 ∧
      ∃ acc es, H2 D = some (.lst acc) ∧ AtAll (vis C' (wipeR ρ (own.map (·.2))) H2) acc es ∧ Made t P (ds.take i) es ∧ es.length ≤ i, ⟨ds.length, by simp, Nat.zero_le _, E2, Y.mono _ _ (sw.trans s2) hS, Gr.of (same_new hD), [], [], upd_same, .nil, .nil, Nat.le_refl _⟩, ?_⟩
  rintro i m H2 ⟨rfl, hil, E3, S3, g3, acc, es, h4, h5, h6, h6l⟩
  have toC : ∀ {H2 : Hp}, Same (vis C' (wipeR ρ (own.map (·.2))) H2) (vis C (wipeR ρ (own.map (·.2))) H2) := fun {_} => hid_mono fun a o e1 e2 => by
    refine ⟨?_, e2⟩
    unfold inn at e1 ⊢
    rw [Bool.or_eq_false_iff] at e1 ⊢
    have e3 : plusO C.O D a = false := e1.1
    unfold plusO at e3
    rw [Bool.or_eq_false_iff] at e3
    exact ⟨e3.1, e1.2⟩
  by_cases hlt : i < ds.length
  · refine .inr ⟨Y.go _ _ _ S3 hlt, fun H' => (i + 1 ≤ ds.length ∧ Env C' (wipeR ρ (own.map (·.2))) (wipe σ (own.map (·.2))) H' ∧ S (vis C' (wipeR ρ (own.map (·.2))) H') ∧ Gr C.U H1 H' ∧
      ∃ acc es, H' D = some (.lst acc) ∧ AtAll (vis C' (wipeR ρ (own.map (·.2))) H') acc es ∧ Made t P (ds.take (i + 1)) es ∧ es.length ≤ i + 1), fun H' ⟨a1, a2⟩ => ⟨ds.length - (i + 1), by omega, rfl, a1, a2⟩, fun x H' y => ?_⟩
    obtain ⟨sy, d, hd, rx⟩ := Y.yld (inn C' (wipeR ρ (own.map (·.2)))) _ _ _ _ E3.out S3 hlt y
    have E4 : Env C' (wipeR ρ (own.map (·.2))) (wipe σ (own.map (·.2))) H' := E3.grow (Gr.of sy)
    have hD4 : H' D = some (.lst acc) := sy _ _ h4
    intro s0 H0 Cc cl fp
    obtain ⟨ho1, hdg, hdt, hde⟩ := step ds pd i d hd s0 H0 Cc cl fp (plusO C.O D) le'
    have E4' : Env (C.blk s0 H0 scope (compEnvC scope cl Cc C.X.env) fp (plusO C.O D) le') (wipeR ρ (own.map (·.2))) (wipe σ (own.map (·.2))) H' := E4.less (fun _ => rfl) rfl rfl
    refine hdg _ H' x E4' rx _ fun σ2 E5 s5 w5 => ⟨?_, fun s0 H0 Cc cl fp => ?_⟩
    · rw [w5 _ hj, wipe_wipe]
    obtain ⟨_, _, hdt, hde⟩ := step ds pd i d hd s0 H0 Cc cl fp (plusO C.O D) le'
    refine hdt σ2 H' (E5.less (fun _ => rfl) rfl rfl) _ (fun H6 g6 => ?_) (fun _ _ f _ => f.elim)
    have back : ∀ {H7 : Hp}, Same (vis C' (ρ1 d) H7) (vis C' (wipeR ρ (own.map (·.2))) H7) := fun {H7} => hid_mono fun a o e1 e2 => ⟨by unfold inn at e1 ⊢; rw [hw, ← ho1]; exact e1, e2⟩
    have fin : ∀ {H7 : Hp}, Gr C.U H' H7 → Env C' (wipeR ρ (own.map (·.2))) (wipe σ (own.map (·.2))) H7 ∧ S (vis C' (wipeR ρ (own.map (·.2))) H7) ∧ Gr C.U H1 H7 ∧ H7 D = some (.lst acc) ∧ AtAll (vis C' (wipeR ρ (own.map (·.2))) H7) acc es := fun {H7} g7 => by
      have g8 : Gr C.U H2 H7 := (Gr.of sy).trans g7
      exact ⟨E3.grow g8, Y.mono _ _ (vis_gr (C := C') g8) S3, g3.trans g8, g8.keep _ _ hUD h4, h5.up (vis_gr (C := C') g8)⟩
    have tk : ds.take (i + 1) = ds.take i ++ [d] := by
      rw [List.take_succ, hd]
      rfl
    cases ht : t d with
    | false =>
      refine iteF ?_
      obtain ⟨b1, b2, b3, b4, b5⟩ := fin g6
      refine ⟨hlt, b1, b2, b3, acc, es, b4, b5, ?_, by omega⟩
      unfold Made at h6 ⊢
      rw [tk, List.filter_append, List.filter_cons_of_neg (by rw [ht]; decide), List.filter_nil, List.append_nil]
      exact h6
    | true =>
      refine iteT fun s0 H0 Cc cl fp => ?_
      obtain ⟨_, _, _, hde⟩ := step ds pd i d hd s0 H0 Cc cl fp (plusO C.O D) le'
      refine hde ht σ2 H6 ((E5.grow g6).less (fun _ => rfl) rfl rfl) _ (fun d2 v H7 p2 g7 r7 => ?_) (fun _ _ f _ => f.elim)
      obtain ⟨b1, b2, b3, b4, b5⟩ := fin (g6.trans g7)
      have r8 : At (vis C' (wipeR ρ (own.map (·.2))) H7) v d2 := At.up (show At (vis C' (ρ1 d) H7) v d2 from r7) back
      have hal := b5.len
      obtain ⟨b6, b7⟩ := b1.turn (o' := .lst (acc ++ [v])) b4 pO' hUD hbD hoW
      refine ⟨acc, b4, by rw [sizeLine_eq]; have := hn ds pd; omega, hlt, b6, by rw [b7]; exact b2, ?_, acc ++ [v], es ++ [d2], upd_same, by rw [b7]; exact b5.app (.cons r8 .nil), ?_, by rw [List.length_append]; exact Nat.succ_le_succ h6l⟩
      · refine ⟨fun a u hu q => ?_, fun a k hu q => ?_⟩
        · rw [upd_ne (fun e => by rw [e, hD] at q; cases q)]
          exact b3.keep a u hu q
        · exact (b3.cell a k hu q).mut b4 fun e => by rw [e, hUD] at hu; cases hu
      · unfold Made at h6 ⊢
        rw [tk, List.filter_append, List.filter_cons_of_pos ht, List.filter_nil]
        exact Paired.appP h6 (.cons p2 .nil)
  · have e : i = ds.length := by omega
    subst e
    refine .inl ⟨Y.stop _ _ _ S3 (Nat.le_refl _), q ds es _ H2 pd (by rw [List.take_length] at h6; exact h6) (g.trans g3) (At.lst (xs := acc) ?_ ?_)⟩
    · exact (hid_at (show inn C ρ D = false by unfold inn; rw [hOD, hoD]; rfl)).trans h4
    · refine (h5.up toC).up ?_
      exact hid_mono fun a o e1 e2 => ⟨by unfold inn at e1 ⊢; rw [← hw]; exact e1, e2⟩
theorem lc_g {X : Cx} {scope : Scope} {tg : Expr} : ∀ (s : Shared) (H : Hp) (Cc : Addr) (cl : List (Str × Addr)) (fp : List Addr), PG (X.blk s H scope (compEnvC scope cl Cc X.env) fp) tg (fun v σ H Q => ∀ s H0 Cc cl fp, cG (X.blk s H0 scope (compEnvC scope cl Cc X.env) fp) tg v σ H Q) :=
  fun s H Cc cl fp => ⟨fun pins s' σ H' v u Q I r h => pG.run pins s' σ H' v u Q I r (h s H Cc cl fp)⟩
theorem lc_t {X : Cx} {scope : Scope} {ifs : List Expr} : ∀ (s : Shared) (H : Hp) (Cc : Addr) (cl : List (Str × Addr)) (fp : List Addr), PTs (X.blk s H scope (compEnvC scope cl Cc X.env) fp) ifs (fun σ H Q => ∀ s H0 Cc cl fp, cTs (X.blk s H0 scope (compEnvC scope cl Cc X.env) fp) ifs σ H Q) :=
  fun s H Cc cl fp => ⟨fun pins s' σ H' Q I h => pTs.run pins s' σ H' Q I (h s H Cc cl fp)⟩
theorem lc_e {X : Cx} {scope : Scope} {elt : Expr} : ∀ (s : Shared) (H : Hp) (Cc : Addr) (cl : List (Str × Addr)) (fp : List Addr), PE (X.blk s H scope (compEnvC scope cl Cc X.env) fp) elt (fun σ H Q => ∀ s H0 Cc cl fp, cE (X.blk s H0 scope (compEnvC scope cl Cc X.env) fp) elt σ H Q) :=
  fun s H Cc cl fp => ⟨fun pins s' σ H' Q I h => pE.run pins s' σ H' Q I (h s H Cc cl fp)⟩
/-- what each turn of a comprehension asks -/
def LcStep (C : Ct) (ρ : Rho) (scope : Scope) (own : List (Str × Nat)) (tg : Expr) (ifs : List Expr) (elt : Expr) (js : List Nat) (ρ1 : PyData → Rho) (t : PyData → Bool) (P : PyData → PyData → Prop) (d : PyData) : Prop :=
  ∀ s H Cc cl fp O' le', (∀ a, owns (ρ1 d) a = owns ρ a) ∧ DG (C.blk s H scope (compEnvC scope cl Cc C.X.env) fp O' le') (wipeR ρ (own.map (·.2))) tg d (ρ1 d) js ∧ DTs (C.blk s H scope (compEnvC scope cl Cc C.X.env) fp O' le') none' (ρ1 d) ifs (t d) ∧
      (t d = true → DE (C.blk s H scope (compEnvC scope cl Cc C.X.env) fp O' le') none' (ρ1 d) elt (P d))
theorem de_lcG {Pd : List PyData → Prop} {js : List Nat} {ρ1 : PyData → Rho} (t : PyData → Bool) (P : PyData → PyData → Prop) (hN : C.X.N.Nodup) (ok : BlkOk C.X.N C.X.env.scope scope own) (hi : DIt C Ξ ρ tg iter Pd) (hn : ∀ ds, Pd ds → ds.length ≤ 16777215)
    (step : ∀ (ds : List PyData), Pd ds → ∀ (k : Nat) (d : PyData), ds[k]? = some d → LcStep C ρ scope own tg ifs elt js ρ1 t P d)
    (hj : ∀ j ∈ js, j ∈ own.map (·.2)) (hw : ∀ a, owns (wipeR ρ (own.map (·.2))) a = owns ρ a) (hc : C.X.calm = true := by rfl) (hs : ∀ x, foldedSetIterable iter C.X.env x = pure x := by intro _; rfl) :
    DE C Ξ ρ (.ListComp elt [⟨tg, iter, ifs, 0⟩] scope pos) (fun d => ∃ ds es, Pd ds ∧ Made t P ds es ∧ d = .list es) := fun σ H E Q q z =>
  ⟨_, pe_lc hc hN pI ok lc_g lc_t lc_e hs, lc_read E hi hn hw hj step (fun ds es v H2 pd m g r => q _ v H2 ⟨ds, es, pd, m, rfl⟩ g r) z⟩
theorem paired_map {ds es : List PyData} {f : PyData → PyData} (h : Paired (fun d e => e = f d) ds es) : es = ds.map f := by
  induction h with
  | nil => rfl
  | cons r t ih => rw [r, ih]; rfl
/-- [f(x) for x in ..] -/
theorem de_lc (i : Nat) (f : PyData → PyData) {x : Str} {px : Pos} {ds : List PyData} (hN : C.X.N.Nodup) (ok : BlkOk C.X.N C.X.env.scope scope [(x, i)]) (hi : DItd C Ξ ρ (.Name x px) iter ds) (hn : ds.length ≤ 16777215)
    (hx : ∀ (s : Shared) (H : Hp) (Cc : Addr) (cl : List (Str × Addr)) (fp : List Addr), Loc (compEnvC scope cl Cc C.X.env).scope x) (hix : C.X.N[i]? = some x)
    (el : ∀ (k : Nat) (d : PyData), ds[k]? = some d → ∀ s H Cc cl fp O' le', DEd (C.blk s H scope (compEnvC scope cl Cc C.X.env) fp O' le') none' ((ρ.set i .no).set i (.dat d)) elt (f d))
    (hw : ∀ a, owns (ρ.set i .no) a = owns ρ a) (hw2 : ∀ d a, owns ((ρ.set i .no).set i (.dat d)) a = owns ρ a)
    (hf : ∀ (s : Shared) (H : Hp) (Cc : Addr) (cl : List (Str × Addr)) (fp : List Addr), (C.X.blk s H scope (compEnvC scope cl Cc C.X.env) fp).fn x = true ∨ (compEnvC scope cl Cc C.X.env).scope.names.lookup x = some .local)
    (hc : C.X.calm = true := by rfl) (hs : ∀ x, foldedSetIterable iter C.X.env x = pure x := by intro _; rfl) :
    DEd C Ξ ρ (.ListComp elt [⟨.Name x px, iter, [], 0⟩] scope pos) (.list (ds.map f)) :=
  (de_lcG (js := [i]) (ρ1 := fun d => (ρ.set i .no).set i (.dat d)) (fun _ => true) (fun d e => e = f d) hN ok hi (fun _ e => by rw [e]; exact hn)
    (fun ds' e k d hd s H Cc cl fp O' le' => by
      subst e
      exact ⟨hw2 d, dg_name (C := C.blk s H scope (compEnvC scope cl Cc C.X.env) fp O' le') i hN hix (hx s H Cc cl fp) (hf s H Cc cl fp), dts_nil, fun _ => el k d hd s H Cc cl fp O' le'⟩)
    (fun j h => h) hw hc hs).imp fun d ⟨ds', es, e, m, e2⟩ => by
      subst e
      unfold Made at m
      rw [List.filter_eq_self.mpr (fun _ _ => rfl)] at m
      rw [e2, paired_map m]
end
end DD

namespace DD
variable [Nu]
open PySem L2
/-! ## statements -/
inductive Out where
  | nx (ρ : Rho) | rt (d : PyData) | ex (c : Addr) | bk (ρ : Rho) | ct (ρ : Rho)
structure Kont (C : Ct) (F : Out → Prop) (ρ : Rho) (H : Hp) (D : Ends) : Prop where
  nx : ∀ ρ' σ' H', F (.nx ρ') → Env C ρ' σ' H' → Same (vis C ρ H) (vis C ρ' H') → D.nx σ' H'
  rt : ∀ d v H', F (.rt d) → Gr C.U C.base H' → At (hid C.O H') v d → D.rt v H'
  ex : ∀ c σ' H', F (.ex c) → Gr C.U C.base H' → C.W (.ref c) none σ' H'
  bk : ∀ ρ' σ' H', F (.bk ρ') → Env C ρ' σ' H' → Same (vis C ρ H) (vis C ρ' H') → D.bk σ' H'
  ct : ∀ ρ' σ' H', F (.ct ρ') → Env C ρ' σ' H' → Same (vis C ρ H) (vis C ρ' H') → D.ct σ' H'
theorem Kont.move {C : Ct} {F : Out → Prop} {ρ ρ1 : Rho} {H H1 : Hp} {D : Ends} (k : Kont C F ρ H D) (s : Same (vis C ρ H) (vis C ρ1 H1)) : Kont C F ρ1 H1 D :=
  ⟨fun ρ' σ' H' f E s' => k.nx ρ' σ' H' f E (s.trans s'), k.rt, k.ex, fun ρ' σ' H' f E s' => k.bk ρ' σ' H' f E (s.trans s'), fun ρ' σ' H' f E s' => k.ct ρ' σ' H' f E (s.trans s')⟩
theorem Kont.imp {C : Ct} {F F' : Out → Prop} {ρ : Rho} {H : Hp} {D : Ends} (k : Kont C F ρ H D) (i : ∀ o, F' o → F o) : Kont C F' ρ H D :=
  ⟨fun ρ' σ' H' f => k.nx ρ' σ' H' (i _ f), fun d v H' f => k.rt d v H' (i _ f), fun c σ' H' f => k.ex c σ' H' (i _ f), fun ρ' σ' H' f => k.bk ρ' σ' H' (i _ f), fun ρ' σ' H' f => k.ct ρ' σ' H' (i _ f)⟩
def DS (C : Ct) (F : Out → Prop) (ρ : Rho) (st : Stmt) : Prop := ∀ D σ H, Env C ρ σ H → Kont C F ρ H D → cS C.X st D σ H
def DSs (C : Ct) (F : Out → Prop) (ρ : Rho) (sts : List Stmt) : Prop := ∀ D σ H, Env C ρ σ H → Kont C F ρ H D → cSs C.X sts D σ H
/-- what is wanted ahead of further statements -/
def thenF (C : Ct) (rest : List Stmt) (F : Out → Prop) : Out → Prop
  | .nx ρ => DSs C F ρ rest
  | o => F o
abbrev xi (F : Out → Prop) : Addr → Prop := fun c => F (.ex c)
section
variable {C : Ct} {F : Out → Prop} {ρ : Rho} {st : Stmt} {rest : List Stmt} {e a b : Expr} {pos p : Pos} {P : PyData → Prop}
theorem DS.imp {F' : Out → Prop} (h : DS C F ρ st) (i : ∀ o, F o → F' o) : DS C F' ρ st := fun D σ H E k => h D σ H E (k.imp i)
theorem DSs.imp {F' : Out → Prop} {sts : List Stmt} (h : DSs C F ρ sts) (i : ∀ o, F o → F' o) : DSs C F' ρ sts := fun D σ H E k => h D σ H E (k.imp i)
theorem dss_nil (h : F (.nx ρ)) : DSs C F ρ [] := fun D σ H E k => ⟨_, pss_nil, k.nx ρ σ H h E (Same.refl _)⟩
theorem dss_cons (h : DS C (thenF C rest F) ρ st) : DSs C F ρ (st :: rest) := fun D σ H E k =>
  ⟨_, pss_cons pS pSs, h { D with nx := cSs C.X rest D } σ H E ⟨fun ρ' σ' H' f E' s => f D σ' H' E' (k.move s), k.rt, k.ex, k.bk, k.ct⟩⟩
theorem dss_one (h : DS C F ρ st) : DSs C F ρ [st] := fun D σ H E k => ⟨_, pss_one pS, h D σ H E k⟩
theorem Kont.exE {σ : L2.St} {H : Hp} {D : Ends} (k : Kont C F ρ H D) (E : Env C ρ σ H) : ∀ c H2, xi F c → Gr C.U H H2 → C.W (.ref c) none σ H2 := fun c H2 f g => k.ex c σ H2 f (E.gr.trans g)
theorem ds_pass : F (.nx ρ) → DS C F ρ (.Pass pos) := fun h D σ H E k => ⟨_, ps_pass, k.nx ρ σ H h E (Same.refl _)⟩
theorem ds_break : F (.bk ρ) → DS C F ρ (.Break pos) := fun h D σ H E k => ⟨_, ps_break, k.bk ρ σ H h E (Same.refl _)⟩
theorem ds_set (i : Nat) {x : Str} {pos' : Pos} (he : DE C (xi F) ρ e P) (k : ∀ d, P d → F (.nx (ρ.set i (.dat d)))) (hN : C.X.N.Nodup) (hi : C.X.N[i]? = some x) (hx : Loc C.X.env.scope x)
    (hs : swapsWith e (some (.Name x pos')) pos.line C.X.env = pure false := by rfl) (hf : C.X.fn x = true ∨ C.X.env.scope.names.lookup x = some .local := by first | exact .inl rfl | exact .inr rfl) : DS C F ρ (.Assign [.Name x pos'] e pos) := fun D σ H E q =>
  ⟨_, ps_set hN hi hx pE hs hf, he σ H E _ (fun d v H2 p g r => by
    obtain ⟨E2, s⟩ := (E.grow g).put (i := i) (sv := .dat d) (o := some v) rfl ⟨v, rfl, r⟩
    exact q.nx _ _ _ (k d p) E2 ((vis_gr g).trans s)) (q.exE E)⟩
theorem ds_setd (i : Nat) {x : Str} {d : PyData} {pos' : Pos} (he : DEd C (xi F) ρ e d) (k : F (.nx (ρ.set i (.dat d)))) (hN : C.X.N.Nodup) (hi : C.X.N[i]? = some x) (hx : Loc C.X.env.scope x)
    (hs : swapsWith e (some (.Name x pos')) pos.line C.X.env = pure false := by rfl) (hf : C.X.fn x = true ∨ C.X.env.scope.names.lookup x = some .local := by first | exact .inl rfl | exact .inr rfl) : DS C F ρ (.Assign [.Name x pos'] e pos) :=
  ds_set i he (fun d' e => by rw [e]; exact k) hN hi hx hs hf
/-- a tuple of names = e -/
theorem ds_asg {tg : Expr} {js : List Nat} {ρ' : PyData → Rho} (he : DE C (xi F) ρ e P) (hg : ∀ d, P d → DG C ρ tg d (ρ' d) js) (k : ∀ d, P d → F (.nx (ρ' d))) (hs : swapsWithSole [tg] e pos.line C.X.env = pure false := by rfl) (hw : swappedStores [tg] e C.X.env = pure none := by rfl)
    (h1 : (assignEach [tg] C.X.env).map (·.2) = [assign tg C.X.env] := by rfl) : DS C F ρ (.Assign [tg] e pos) := fun D σ H E q =>
  ⟨_, ps_asg pE pG hs hw h1, he σ H E _ (fun d v H2 p g r => hg d p σ H2 v (E.grow g) r _ fun σ' E' s _ => q.nx _ _ _ (k d p) E' ((vis_gr g).trans s)) (q.exE E)⟩
/-- a, b = x, y -/
theorem ds_par (i j : Nat) {x y : Str} {P2 : PyData → PyData → Prop} {px py pt : Pos} {kt k2 pt2} (ha : DA C (xi F) ρ [a, b] (AllD fun l => ∃ d d', l = [d, d'] ∧ P2 d d')) (k : ∀ d d', P2 d d' → F (.nx ((ρ.set i (.dat d)).set j (.dat d')))) (hN : C.X.N.Nodup) (hi : C.X.N[i]? = some x) (hj : C.X.N[j]? = some y) (hij : i ≠ j)
    (hx : C.X.env.scope.names.lookup x = some .local) (hy : C.X.env.scope.names.lookup y = some .local) (hw : swappedStores [.Tuple [.Name x px, .Name y py] kt pt] (.Tuple [a, b] k2 pt2) C.X.env = pure (some [x, y]))
    (hc : C.X.calm = true := by rfl) (hs : swapsWithSole [.Tuple [.Name x px, .Name y py] kt pt] (.Tuple [a, b] k2 pt2) pos.line C.X.env = pure false := by rfl) :
    DS C F ρ (.Assign [.Tuple [.Name x px, .Name y py] kt pt] (.Tuple [a, b] k2 pt2) pos) := fun D σ H E q =>
  ⟨_, ps_par hc hN hi hj hij hx hy pA hw hs, ha σ H E _ (fun l vs H2 p g r => by
    obtain ⟨ds, rfl, d, d', rfl, p2⟩ := p
    obtain ⟨v, u, rfl, r1, r2⟩ := r.ats.two
    obtain ⟨E2, s⟩ := (E.grow g).put (i := i) (sv := .dat d) (o := some v) rfl ⟨v, rfl, r1⟩
    obtain ⟨E3, s3⟩ := E2.put (i := j) (sv := .dat d') (o := some u) rfl ⟨u, rfl, r2.up s⟩
    exact ⟨v, u, rfl, q.nx _ _ _ (k d d' p2) E3 (((vis_gr g).trans s).trans s3)⟩) (q.exE E)⟩
theorem ds_expr (he : DE C (xi F) ρ e P) (k : ∀ d, P d → F (.nx ρ)) (hs : swapsWith e none pos.line C.X.env = pure false := by rfl) : DS C F ρ (.Expr e pos) := fun D σ H E q =>
  ⟨_, ps_expr pE hs, he σ H E _ (fun d v H2 p g r => q.nx _ _ _ (k d p) (E.grow g) (vis_gr g)) (q.exE E)⟩
theorem ds_if {B : Bool → Prop} {s1 s2 : List Stmt} (hc : DT C (xi F) ρ e B) (h1 : B true → DSs C F ρ s1) (h2 : B false → DSs C F ρ s2) : DS C F ρ (.If e s1 s2 pos) := fun D σ H E q =>
  ⟨_, ps_if pT pSs pSs, hc σ H E _ (fun b H2 p g => by
    cases b with
    | true => exact iteT (h1 p D σ H2 (E.grow g) (q.move (vis_gr g)))
    | false => exact iteF (h2 p D σ H2 (E.grow g) (q.move (vis_gr g)))) (q.exE E)⟩
theorem ds_ifd {k : Bool} {s1 s2 : List Stmt} (hc : DTd C (xi F) ρ e k) (h1 : k = true → DSs C F ρ s1) (h2 : k = false → DSs C F ρ s2) : DS C F ρ (.If e s1 s2 pos) := ds_if hc (fun e => h1 e.symm) (fun e => h2 e.symm)
theorem see_O {H : Hp} : Same (vis C ρ H) (hid C.O H) := hid_mono fun a o e1 e2 => by
  unfold inn at e1
  rw [Bool.or_eq_false_iff] at e1
  exact ⟨e1.1, e2⟩
theorem ds_ret (he : DE C (xi F) ρ e P) (k : ∀ d, P d → F (.rt d)) : DS C F ρ (.Return (some e) pos) := fun D σ H E q =>
  ⟨_, ps_ret pE, he σ H E _ (fun d v H2 p g r => q.rt d v H2 (k d p) (E.gr.trans g) (r.up see_O)) (q.exE E)⟩
theorem ds_retd {d : PyData} (he : DEd C (xi F) ρ e d) (k : F (.rt d)) : DS C F ρ (.Return (some e) pos) := ds_ret he fun _ e => by rw [e]; exact k
/-! ### raise -/
structure Xc (K : PySem.W.Frag) (mg : Str → Option Value) (x : Str) : Prop where
  g : mg x = some (.ref (He.ga K x))
  q : PySem.W.excIn K (He.ga K x) He.veBase "ValueError.__new__" = true
  k : PySem.W.keepIn K (.ref (He.ga K x)) = true
  s : PySem.W.subIn K (.ref (He.ga K x)) (.type "BaseException") = some true
  t : PySem.W.typeIn K (.ref (He.ga K x)) = some (.type "type")
theorem ds_raise {x m : Str} {j : Nat} {p2 pos2 : Pos} (T : Xc C.X.K C.X.mg x) (k : F (.ex (He.ga C.X.K x))) (hg : Gl C.X x) (hc : C.X.calm = true := by rfl) (hdb : (x == ("__debug__" : Str)) = false := by decide) : DS C F ρ (.Raise (some (.Call (.Name x p) [.Constant (.str m) j p2] [] pos)) none pos2) := fun D σ H E q =>
  ⟨_, L2N.ps_raise hc C.tk (L2N.pmk_own PySem.F.excBase_ValueError T.q T.g T.k (raises_own T.s T.t) hg hdb), q.ex _ σ H k E.gr⟩
/-! ### for -/
/-- what is wanted behind a turn -/
def turnF (I : Rho → Prop) (F : Out → Prop) : Out → Prop
  | .nx ρ => I ρ
  | .ct ρ => I ρ
  | .bk ρ => F (.nx ρ)
  | o => F o
theorem ds_for {tg iter : Expr} {body : List Stmt} {Pd : List PyData → Prop} {js : List Nat} {ρ1 : Rho → PyData → Rho} (hi : DIt C (xi F) ρ tg iter Pd) (I : List PyData → Nat → Rho → Prop) (h0 : ∀ ds, Pd ds → I ds 0 ρ)
    (hg : ∀ (ds : List PyData) (k : Nat) (d : PyData) ρ', Pd ds → ds[k]? = some d → I ds k ρ' → DG C ρ' tg d (ρ1 ρ' d) js)
    (hb : ∀ (ds : List PyData) (k : Nat) (d : PyData) ρ', Pd ds → ds[k]? = some d → I ds k ρ' → DSs C (turnF (I ds (k + 1)) F) (ρ1 ρ' d) body)
    (hd : ∀ (ds : List PyData) ρ', Pd ds → I ds ds.length ρ' → F (.nx ρ')) (hp : PassesOwn (model C.X.prog C.X.w) C.X.A C.X.env C.X.xe) (hc : C.X.calm = true := by rfl) (hs : ∀ x, foldedSetIterable iter C.X.env x = pure x := by intro _; rfl) :
    DS C F ρ (.For tg iter body [] pos) := fun D σ H E q =>
  ⟨_, ps_for hp hc pI pG pSs hs, by
    refine hi σ H E _ (fun ds J S H1 pd g hS Y => ?_) (q.exE E)
    have E1 := E.grow g
    refine ⟨fun i m σ' H' => m = ds.length - i ∧ i ≤ ds.length ∧ ∃ ρ', I ds i ρ' ∧ Env C ρ' σ' H' ∧ S (vis C ρ' H') ∧ Same (vis C ρ H) (vis C ρ' H'), ⟨ds.length, by simp, Nat.zero_le _, ρ, h0 ds pd, E1, hS, vis_gr g⟩, ?_⟩
    rintro i m σ' H' ⟨rfl, hil, ρ', hI, E', S', s'⟩
    by_cases hlt : i < ds.length
    · refine .inr ⟨Y.go _ _ _ S' hlt, fun σ2 H2 => i + 1 ≤ ds.length ∧ ∃ ρ2, I ds (i + 1) ρ2 ∧ Env C ρ2 σ2 H2 ∧ S (vis C ρ2 H2) ∧ Same (vis C ρ H) (vis C ρ2 H2), fun σ2 H2 ⟨a1, a2⟩ => ⟨ds.length - (i + 1), by omega, rfl, a1, a2⟩, fun x H2 y => ?_⟩
      obtain ⟨sy, d, hd', rx⟩ := Y.yld _ _ _ _ _ E'.out S' hlt y
      have E2 := E'.grow (Gr.of sy)
      have s2 : Same (vis C ρ' H') (vis C ρ' H2) := vis_gr (Gr.of sy)
      refine hg ds i d ρ' pd hd' hI σ' H2 x E2 rx _ fun σ3 E3 s3 _ => hb ds i d ρ' pd hd' hI _ σ3 H2 E3 ?_
      refine ⟨fun ρ4 σ4 H4 f E4 s4 => ⟨hlt, ρ4, f, E4, Y.mono _ _ ((s2.trans s3).trans s4) S', ((s'.trans s2).trans s3).trans s4⟩, q.rt, q.ex, fun ρ4 σ4 H4 f E4 s4 => q.nx _ _ _ f E4 (((s'.trans s2).trans s3).trans s4),
        fun ρ4 σ4 H4 f E4 s4 => ⟨hlt, ρ4, f, E4, Y.mono _ _ ((s2.trans s3).trans s4) S', ((s'.trans s2).trans s3).trans s4⟩⟩
    · have e : i = ds.length := by omega
      subst e
      exact .inl ⟨Y.stop _ _ _ S' (Nat.le_refl _), q.nx _ _ _ (hd ds ρ' pd hI) E' s'⟩⟩
/-! ### while -/
theorem ds_while {body : List Stmt} (I : Nat → Rho → Prop) (n : Nat) (h0 : I n ρ) {B : Nat → Rho → Bool → Prop} (hc : ∀ n ρ', I n ρ' → DT C (xi F) ρ' e (B n ρ')) (hb : ∀ n ρ', I n ρ' → B n ρ' true → DSs C (turnF (fun ρ'' => ∃ m, m < n ∧ I m ρ'') F) ρ' body)
    (hd : ∀ n ρ', I n ρ' → B n ρ' false → F (.nx ρ')) (hp : PassesOwn (model C.X.prog C.X.w) C.X.A C.X.env C.X.xe) : DS C F ρ (.While e body [] pos) := fun D σ H E q =>
  ⟨_, ps_while hp pT pSs, by
    refine ⟨fun m σ' H' => ∃ ρ', I m ρ' ∧ Env C ρ' σ' H' ∧ Same (vis C ρ H) (vis C ρ' H'), ⟨n, ρ, h0, E, Same.refl _⟩, ?_⟩
    rintro m σ' H' ⟨ρ', hI, E', s'⟩
    refine hc m ρ' hI σ' H' E' _ (fun b H2 p g => ?_) (fun c H2 xc g => q.ex c σ' H2 xc (E'.gr.trans g))
    cases b with
    | false => exact iteF (q.nx _ _ _ (hd m ρ' hI p) (E'.grow g) (s'.trans (vis_gr g)))
    | true =>
      refine iteT ⟨fun σ2 H2 => ∃ m', m' < m ∧ ∃ ρ2, I m' ρ2 ∧ Env C ρ2 σ2 H2 ∧ Same (vis C ρ H) (vis C ρ2 H2), fun σ2 H2 h => h, ?_⟩
      refine hb m ρ' hI p _ σ' H2 (E'.grow g) ⟨fun ρ4 σ4 H4 ⟨m', l, f⟩ E4 s4 => ⟨m', l, ρ4, f, E4, (s'.trans (vis_gr g)).trans s4⟩, q.rt, q.ex, fun ρ4 σ4 H4 f E4 s4 => q.nx _ _ _ f E4 ((s'.trans (vis_gr g)).trans s4),
        fun ρ4 σ4 H4 ⟨m', l, f⟩ E4 s4 => ⟨m', l, ρ4, f, E4, (s'.trans (vis_gr g)).trans s4⟩⟩⟩
end
/-! ## functions -/
/-- a def that changes nothing: its data in, its result or its exception out -/
def spP (n : Nat) (Dom : List PyData → Prop) (R : List PyData → Out → Prop) : Sp := fun vs H Q E => ∃ (O : Addr → Bool) (ds : List PyData), ds.length = n ∧ (∀ a, O a = true → H a ≠ none) ∧ AtAll (hid O H) vs ds ∧ Dom ds ∧
  (∀ d v H', R ds (.rt d) → Same H H' → At (hid O H') v d → Q v H') ∧ ∀ c H', R ds (.ex c) → Same H H' → E (.ref c) none H'
def outF (R : Out → Prop) : Out → Prop
  | .nx _ => R (.rt .none)
  | .rt d => R (.rt d)
  | .ex c => R (.ex c)
  | _ => False
def rho (n : Nat) (ds : List PyData) : Rho := ds.map .dat ++ List.replicate (n - ds.length) .no
def fnC (P : Program) (w : World) (K : PySem.W.Frag) (mg : Str → Option Value) (base : Heap) (N : List Str) (qual : Str) (scope : Scope) (f : Addr) (cdv : Value) (A : Around) (outer : List PySem.Env) (s : Shared) (H : Hp) (E : XK) (k : Nat) (hr : Room k (A.deeper (PyProof.Rows.envOfC qual scope s.heap.objs.size f cdv))) (O : Addr → Bool) : Ct where
  X := cxOf (L2N.CX P w) P w K mg base N qual scope f cdv A outer s H E
  W := fun cls d _ H => E cls d H
  tk := L2N.takes_of rfl rfl rfl rfl
  O := O
  U := fun _ => false
  le := fun _ h => by cases h
  base := H
  lv := k
  room := L2H.roomH_of hr
  hd := fun _ => hr.hd
theorem start_len (N : List Str) (vs : List V) (h : vs.length ≤ N.length) : (L2.start N vs).length = N.length := by
  unfold L2.start
  rw [List.length_append, List.length_map, List.length_replicate]
  omega
theorem owns_rho {n : Nat} {ds : List PyData} {a : Addr} : owns (rho n ds) a = false := by
  unfold owns rho
  rw [List.any_append]
  have h1 : (ds.map SV.dat).any (fun s => s.addr == some a) = false := by
    rw [List.any_eq_false]
    intro x hx
    obtain ⟨d, _, rfl⟩ := List.mem_map.mp hx
    simp [SV.addr]
  have h2 : (List.replicate (n - ds.length) SV.no).any (fun s => s.addr == some a) = false := by
    rw [List.any_eq_false]
    intro x hx
    rw [List.eq_of_mem_replicate hx]
    simp [SV.addr]
  rw [h1, h2]
  rfl
theorem env_start {C : Ct} {N : List Str} {ds : List PyData} {vs : List V} (h : AtAll (hid C.O C.base) vs ds) (hl : ds.length ≤ N.length) (ho : ∀ a, C.O a = true → C.base a ≠ none) (hU : ∀ a, C.U a = false) : Env C (rho N.length ds) (L2.start N vs) C.base := by
  have e := h.len
  have hv : vis C (rho N.length ds) C.base = hid C.O C.base := by
    unfold vis inn
    congr 1
    funext a
    rw [owns_rho, Bool.or_false]
  refine ⟨?_, fun i => ?_, fun a q => (by rw [hU] at q; cases q), ho, Gr.refl _ _, fun i j p hi => ?_⟩
  · rw [start_len N vs (by omega)]
    unfold rho
    rw [List.length_append, List.length_map, List.length_replicate]
    omega
  · unfold gt rho L2.start
    rw [List.getD_eq_getElem?_getD, List.getD_eq_getElem?_getD, List.getElem?_append, List.getElem?_append]
    by_cases hi : i < ds.length
    · rw [if_pos (by rw [List.length_map]; exact hi), if_pos (by rw [List.length_map]; omega), List.getElem?_map, List.getElem?_map, List.getElem?_eq_getElem hi]
      obtain ⟨v, h1, h2⟩ := h.get (List.getElem?_eq_getElem hi)
      rw [h1]
      exact ⟨v, rfl, by have h3 := h2; rw [← hv] at h3; exact h3⟩
    · rw [if_neg (by rw [List.length_map]; exact hi)]
      have : (((List.replicate (N.length - ds.length) SV.no)[i - (ds.map SV.dat).length]?).getD SV.no) = SV.no := by
        rw [List.getElem?_replicate]
        split <;> rfl
      rw [this]
      exact True.intro
  · exfalso
    have : owns (rho N.length ds) p = true := owns_iff.mpr ⟨i, hi⟩
    rw [owns_rho] at this
    cases this
theorem fn_P {P : Program} {w : World} {K : PySem.W.Frag} {mg : Str → Option Value} {base : Heap} {x : Str} {st : Stmt} {f : Addr} {fd : FuncData} {N ps : List Str} {k n : Nat} {Dom : List PyData → Prop} {R : List PyData → Out → Prop}
    (F : FunD K x x (defArgs st) (defBody st) (defScope st) [] [] f fd) (S : FnScope N ps (defScope st)) (hn : ps.length = n) (hN : n ≤ N.length)
    (body : ∀ cdv A outer s H E hr O ds, ds.length = n → Dom ds → DSs (fnC P w K mg base N x (defScope st) f cdv A outer s H E k hr O) (outF (R ds)) (rho N.length ds) (defBody st)) : FnOk P w K mg base (L2N.CX P w) (k + 1) f fd ps (spP n Dom R) := by
  refine F.ok (CX := L2N.CX P w) S (fun vs H Q E h => ?_) (fun cdv A outer s H vs Q E hr h => ?_)
  · obtain ⟨O, ds, hl, _, ha, _⟩ := h
    rw [ha.len, hl, hn]
  · obtain ⟨O, ds, hl, ho, ha, hd, h1, h2⟩ := h
    refine ⟨_, pSs, body cdv A outer s H E hr O ds hl hd _ _ H (env_start (C := fnC P w K mg base N x (defScope st) f cdv A outer s H E k hr O) ha (by omega) ho fun _ => rfl) ⟨fun ρ' σ' H' f E' s' => ?_, fun d v H' f g r => h1 d v H' f g.same r, fun c σ' H' f g => h2 c H' f g.same, fun _ _ _ f => f.elim, fun _ _ _ f => f.elim⟩⟩
    exact h1 .none .non H' f E'.gr.same .non
/-- a def that may be called -/
structure Fc (P : Program) (w : World) (K : PySem.W.Frag) (mg : Str → Option Value) (base : Heap) (x : Str) (ps : List Str) (k : Nat) (sp : Sp) : Prop where
  ex : ∃ (f : Addr) (fd : FuncData), mg x = some (.ref f) ∧ PySem.W.keepIn K (.ref f) = true ∧ Binds K fd ps [] ∧ FnOk P w K mg base (L2N.CX P w) k f fd ps sp
theorem fc_P {P : Program} {w : World} {K : PySem.W.Frag} {mg : Str → Option Value} {base : Heap} {x : Str} {st : Stmt} {N ps : List Str} {k n : Nat} {Dom : List PyData → Prop} {R : List PyData → Out → Prop}
    (D : ∃ fd, FunD K x x (defArgs st) (defBody st) (defScope st) [] [] (He.ga K x) fd) (g : mg x = some (.ref (He.ga K x))) (S : FnScope N ps (defScope st)) (hn : ps.length = n) (hN : n ≤ N.length)
    (hb : ∀ (kV doc pm : Value) (an : Option Addr) (cdv ct : Value) (us : List Value), us.length = ps.length → bindArgs (PySem.W.fnOf x x (defArgs st) (defBody st) (defScope st) .none kV doc pm an cdv ct) ⟨us, []⟩ = pure (ps.zip us))
    (body : ∀ cdv A outer s H E hr O ds, ds.length = n → Dom ds → DSs (fnC P w K mg base N x (defScope st) (He.ga K x) cdv A outer s H E k hr O) (outF (R ds)) (rho N.length ds) (defBody st)) : Fc P w K mg base x ps (k + 1) (spP n Dom R) := by
  obtain ⟨fd, F⟩ := D
  exact ⟨_, fd, g, F.kp, FunD.bindsN F hb, fn_P F S hn hN body⟩
section
variable {C : Ct} {Ξ : Addr → Prop} {ρ : Rho} {e : Expr} {es : List Expr} {pos p : Pos} {P : PyData → Prop}
theorem de_callG {x : Str} {ps : List Str} {k n : Nat} {Dom : List PyData → Prop} {R : List PyData → Out → Prop} {Pd : List PyData → Prop} (G : Fc C.X.prog C.X.w C.X.K C.X.mg C.X.base x ps k (spP n Dom R)) (hk : k ≤ C.lv) (hg : Gl C.X x) (ha : DA C Ξ ρ (e :: es) (AllD Pd)) (hl : ∀ ds, Pd ds → ds.length = n ∧ Dom ds)
    (hP : ∀ ds d, Pd ds → R ds (.rt d) → P d) (hX : ∀ ds c, Pd ds → R ds (.ex c) → Ξ c) (hcalm : C.X.calm = true := by rfl) (hdb : (x == ("__debug__" : Str)) = false := by decide) (he : starEach (e :: es) C.X.env = (false, eval e C.X.env) :: starEach es C.X.env := by rfl) (hpl : (backTo pos (starEach es C.X.env)).any (·.1) = false := by rfl) :
    DE C Ξ ρ (.Call (.Name x p) (e :: es) [] pos) P := fun σ H E Q q z => by
  obtain ⟨f, fd, hm, kp, hb, F⟩ := G.ex
  refine ⟨_, pe_callS F ((C.room' hcalm).mono hk) hg hm kp hb (fun σ => L2N.passAt C.tk σ) pA hdb he hpl, ha σ H E _ (fun l vs H2 pl g r => ?_) z⟩
  obtain ⟨ds, rfl, pd⟩ := pl
  obtain ⟨hl1, hl2⟩ := hl ds pd
  refine ⟨inn C ρ, ds, hl1, (E.grow g).out, r.ats, hl2, fun d v H' hr s ra => q d v H' (hP ds d pd hr) (g.trans (Gr.of s)) ra, fun c H' hr s => z c H' (hX ds c pd hr) (g.trans (Gr.of s))⟩
theorem de_call {x : Str} {ps : List Str} {k n : Nat} {Dom : List PyData → Prop} {R : List PyData → Out → Prop} {ds : List PyData} (G : Fc C.X.prog C.X.w C.X.K C.X.mg C.X.base x ps k (spP n Dom R)) (hk : k ≤ C.lv) (hg : Gl C.X x) (ha : DAd C Ξ ρ (e :: es) ds) (hl : ds.length = n) (hd : Dom ds)
    (hP : ∀ d, R ds (.rt d) → P d) (hX : ∀ c, R ds (.ex c) → Ξ c) (hcalm : C.X.calm = true := by rfl) (hdb : (x == ("__debug__" : Str)) = false := by decide) (he : starEach (e :: es) C.X.env = (false, eval e C.X.env) :: starEach es C.X.env := by rfl) (hpl : (backTo pos (starEach es C.X.env)).any (·.1) = false := by rfl) :
    DE C Ξ ρ (.Call (.Name x p) (e :: es) [] pos) P :=
  de_callG (Pd := fun l => l = ds) G hk hg (fun σ H E Q q z => ha σ H E Q (fun l vs H2 pl => q l vs H2 ⟨ds, pl, rfl⟩) z) (fun l e => by rw [e]; exact ⟨hl, hd⟩) (fun l d e => by rw [e]; exact hP d) (fun l c e => by rw [e]; exact hX c) hcalm hdb he hpl
end
end DD
namespace DD
variable [Nu]
open PySem L2
/-! ## defs that are functions of their data -/
abbrev spD (n : Nat) (Dom : List PyData → Prop) (f : List PyData → Out) : Sp := spP n Dom (fun ds o => o = f ds)
section
variable {C : Ct} {Ξ : Addr → Prop} {ρ : Rho} {e : Expr} {es : List Expr} {pos p : Pos} {P : PyData → Prop}
theorem de_fn {x : Str} {ps : List Str} {k n : Nat} {Dom : List PyData → Prop} {f : List PyData → Out} {ds : List PyData} {d : PyData} (G : Fc C.X.prog C.X.w C.X.K C.X.mg C.X.base x ps k (spD n Dom f)) (hk : k ≤ C.lv) (hg : Gl C.X x) (ha : DAd C Ξ ρ (e :: es) ds) (hl : ds.length = n) (hd : Dom ds)
    (h : f ds = .rt d) (hcalm : C.X.calm = true := by rfl) (hdb : (x == ("__debug__" : Str)) = false := by decide) (he : starEach (e :: es) C.X.env = (false, eval e C.X.env) :: starEach es C.X.env := by rfl) (hpl : (backTo pos (starEach es C.X.env)).any (·.1) = false := by rfl) :
    DEd C Ξ ρ (.Call (.Name x p) (e :: es) [] pos) d :=
  de_call G hk hg ha hl hd (fun d' q => by rw [h] at q; injection q) (fun c q => by rw [h] at q; cases q) hcalm hdb he hpl
theorem dx_fn {x : Str} {ps : List Str} {k n : Nat} {Dom : List PyData → Prop} {f : List PyData → Out} {ds : List PyData} {c : Addr} (G : Fc C.X.prog C.X.w C.X.K C.X.mg C.X.base x ps k (spD n Dom f)) (hk : k ≤ C.lv) (hg : Gl C.X x) (ha : DAd C Ξ ρ (e :: es) ds) (hl : ds.length = n) (hd : Dom ds)
    (h : f ds = .ex c) (hx : Ξ c) (hcalm : C.X.calm = true := by rfl) (hdb : (x == ("__debug__" : Str)) = false := by decide) (he : starEach (e :: es) C.X.env = (false, eval e C.X.env) :: starEach es C.X.env := by rfl) (hpl : (backTo pos (starEach es C.X.env)).any (·.1) = false := by rfl) :
    DE C Ξ ρ (.Call (.Name x p) (e :: es) [] pos) P :=
  de_call G hk hg ha hl hd (fun d' q => by rw [h] at q; cases q) (fun c' q => by rw [h] at q; injection q with q; rw [q]; exact hx) hcalm hdb he hpl
end
end DD

namespace DD
variable [Nu]
open PySem L2
/-! ## promises by what the arguments stand for -/
def spX {α : Type} (enc : α → List PyData) (Dom : α → Prop) (R : α → Out → Prop) : Sp := fun vs H Q E => ∃ (O : Addr → Bool) (x : α), (∀ a, O a = true → H a ≠ none) ∧ AtAll (hid O H) vs (enc x) ∧ Dom x ∧
  (∀ d v H', R x (.rt d) → Same H H' → At (hid O H') v d → Q v H') ∧ ∀ c H', R x (.ex c) → Same H H' → E (.ref c) none H'
abbrev spF {α : Type} (enc : α → List PyData) (Dom : α → Prop) (g : α → Out) : Sp := spX enc Dom (fun x o => o = g x)
theorem fn_X {α : Type} {enc : α → List PyData} {P : Program} {w : World} {K : PySem.W.Frag} {mg : Str → Option Value} {base : Heap} {x : Str} {st : Stmt} {f : Addr} {fd : FuncData} {N ps : List Str} {k : Nat} {Dom : α → Prop} {R : α → Out → Prop}
    (F : FunD K x x (defArgs st) (defBody st) (defScope st) [] [] f fd) (S : FnScope N ps (defScope st)) (hn : ∀ y, (enc y).length = ps.length) (hN : ps.length ≤ N.length)
    (body : ∀ cdv A outer s H E hr O y, Dom y → DSs (fnC P w K mg base N x (defScope st) f cdv A outer s H E k hr O) (outF (R y)) (rho N.length (enc y)) (defBody st)) : FnOk P w K mg base (L2N.CX P w) (k + 1) f fd ps (spX enc Dom R) := by
  refine F.ok (CX := L2N.CX P w) S (fun vs H Q E h => ?_) (fun cdv A outer s H vs Q E hr h => ?_)
  · obtain ⟨O, ds, _, ha, _⟩ := h
    rw [ha.len, hn]
  · obtain ⟨O, ds, ho, ha, hd, h1, h2⟩ := h
    refine ⟨_, pSs, body cdv A outer s H E hr O ds hd _ _ H (env_start (C := fnC P w K mg base N x (defScope st) f cdv A outer s H E k hr O) ha (by rw [hn]; exact hN) ho fun _ => rfl) ⟨fun ρ' σ' H' f E' s' => ?_, fun d v H' f g r => h1 d v H' f g.same r, fun c σ' H' f g => h2 c H' f g.same, fun _ _ _ f => f.elim, fun _ _ _ f => f.elim⟩⟩
    exact h1 .none .non H' f E'.gr.same .non
theorem fc_X {α : Type} {enc : α → List PyData} {P : Program} {w : World} {K : PySem.W.Frag} {mg : Str → Option Value} {base : Heap} {x : Str} {st : Stmt} {N ps : List Str} {k : Nat} {Dom : α → Prop} {R : α → Out → Prop}
    (D : ∃ fd, FunD K x x (defArgs st) (defBody st) (defScope st) [] [] (He.ga K x) fd) (g : mg x = some (.ref (He.ga K x))) (S : FnScope N ps (defScope st)) (hn : ∀ y, (enc y).length = ps.length) (hN : ps.length ≤ N.length)
    (hb : ∀ (kV doc pm : Value) (an : Option Addr) (cdv ct : Value) (us : List Value), us.length = ps.length → bindArgs (PySem.W.fnOf x x (defArgs st) (defBody st) (defScope st) .none kV doc pm an cdv ct) ⟨us, []⟩ = pure (ps.zip us))
    (body : ∀ cdv A outer s H E hr O y, Dom y → DSs (fnC P w K mg base N x (defScope st) (He.ga K x) cdv A outer s H E k hr O) (outF (R y)) (rho N.length (enc y)) (defBody st)) : Fc P w K mg base x ps (k + 1) (spX enc Dom R) := by
  obtain ⟨fd, F⟩ := D
  exact ⟨_, fd, g, F.kp, FunD.bindsN F hb, fn_X F S hn hN body⟩
section
variable {α : Type} {enc : α → List PyData} {C : Ct} {Ξ : Addr → Prop} {ρ : Rho} {e : Expr} {es : List Expr} {pos p : Pos} {P : PyData → Prop}
theorem de_cx {x : Str} {ps : List Str} {k : Nat} {Dom : α → Prop} {R : α → Out → Prop} (y : α) (G : Fc C.X.prog C.X.w C.X.K C.X.mg C.X.base x ps k (spX enc Dom R)) (hk : k ≤ C.lv) (hg : Gl C.X x) (ha : DAd C Ξ ρ (e :: es) (enc y)) (hd : Dom y)
    (hP : ∀ d, R y (.rt d) → P d) (hX : ∀ c, R y (.ex c) → Ξ c) (hcalm : C.X.calm = true := by rfl) (hdb : (x == ("__debug__" : Str)) = false := by decide) (he : starEach (e :: es) C.X.env = (false, eval e C.X.env) :: starEach es C.X.env := by rfl) (hpl : (backTo pos (starEach es C.X.env)).any (·.1) = false := by rfl) :
    DE C Ξ ρ (.Call (.Name x p) (e :: es) [] pos) P := fun σ H E Q q z => by
  obtain ⟨f, fd, hm, kp, hb, F⟩ := G.ex
  refine ⟨_, pe_callS F ((C.room' hcalm).mono hk) hg hm kp hb (fun σ => L2N.passAt C.tk σ) pA hdb he hpl, ha σ H E _ (fun l vs H2 pl g r => ?_) z⟩
  subst pl
  refine ⟨inn C ρ, y, (E.grow g).out, r.ats, hd, fun d v H' hr s ra => q d v H' (hP d hr) (g.trans (Gr.of s)) ra, fun c H' hr s => z c H' (hX c hr) (g.trans (Gr.of s))⟩
theorem de_f {x : Str} {ps : List Str} {k : Nat} {Dom : α → Prop} {f : α → Out} {d : PyData} (y : α) (G : Fc C.X.prog C.X.w C.X.K C.X.mg C.X.base x ps k (spF enc Dom f)) (hg : Gl C.X x) (ha : DAd C Ξ ρ (e :: es) (enc y)) (hd : Dom y)
    (h : f y = .rt d) (hk : k ≤ C.lv := by exact Nat.le_of_ble_eq_true rfl) (hcalm : C.X.calm = true := by rfl) (hdb : (x == ("__debug__" : Str)) = false := by decide) (he : starEach (e :: es) C.X.env = (false, eval e C.X.env) :: starEach es C.X.env := by rfl) (hpl : (backTo pos (starEach es C.X.env)).any (·.1) = false := by rfl) :
    DEd C Ξ ρ (.Call (.Name x p) (e :: es) [] pos) d :=
  de_cx y G hk hg ha hd (fun d' q => by rw [h] at q; injection q) (fun c q => by rw [h] at q; cases q) hcalm hdb he hpl
theorem dx_f {x : Str} {ps : List Str} {k : Nat} {Dom : α → Prop} {f : α → Out} {c : Addr} (y : α) (G : Fc C.X.prog C.X.w C.X.K C.X.mg C.X.base x ps k (spF enc Dom f)) (hg : Gl C.X x) (ha : DAd C Ξ ρ (e :: es) (enc y)) (hd : Dom y)
    (h : f y = .ex c) (hx : Ξ c) (hk : k ≤ C.lv := by exact Nat.le_of_ble_eq_true rfl) (hcalm : C.X.calm = true := by rfl) (hdb : (x == ("__debug__" : Str)) = false := by decide) (he : starEach (e :: es) C.X.env = (false, eval e C.X.env) :: starEach es C.X.env := by rfl) (hpl : (backTo pos (starEach es C.X.env)).any (·.1) = false := by rfl) :
    DE C Ξ ρ (.Call (.Name x p) (e :: es) [] pos) P :=
  de_cx y G hk hg ha hd (fun d' q => by rw [h] at q; cases q) (fun c' q => by rw [h] at q; injection q with q; rw [q]; exact hx) hcalm hdb he hpl
/-- a def that may raise, as a statement -/
def thenO (o : Out) (F : Out → Prop) (ρ : Rho) : Prop := match o with
  | .rt _ => F (.nx ρ)
  | .ex c => F (.ex c)
  | _ => False
theorem ds_call {F : Out → Prop} {x : Str} {ps : List Str} {k : Nat} {Dom : α → Prop} {f : α → Out} (y : α) (G : Fc C.X.prog C.X.w C.X.K C.X.mg C.X.base x ps k (spF enc Dom f)) (hg : Gl C.X x) (ha : DAd C (xi F) ρ (e :: es) (enc y)) (hd : Dom y) (h : thenO (f y) F ρ)
    (hk : k ≤ C.lv := by exact Nat.le_of_ble_eq_true rfl) (hs : swapsWith (.Call (.Name x p) (e :: es) [] pos) none pos.line C.X.env = pure false := by rfl) (hcalm : C.X.calm = true := by rfl) (hdb : (x == ("__debug__" : Str)) = false := by decide) (he : starEach (e :: es) C.X.env = (false, eval e C.X.env) :: starEach es C.X.env := by rfl) (hpl : (backTo pos (starEach es C.X.env)).any (·.1) = false := by rfl) :
    DS C F ρ (.Expr (.Call (.Name x p) (e :: es) [] pos) pos) :=
  ds_expr (de_cx (P := fun d => f y = .rt d) y G hk hg ha hd (fun d q => q.symm) (fun c q => by rw [← q] at h; exact h) hcalm hdb he hpl) (fun d q => by rw [q] at h; exact h) hs
end
/-! ## the numbers of the program -/
def iv (ns : List Int) : List PyData := ns.map PyData.int
abbrev tI (ns : List Int) : PyData := .tuple (iv ns)
abbrev lI (ns : List Int) : PyData := .list (iv ns)
theorem iv_len (ns : List Int) : (iv ns).length = ns.length := List.length_map ..
theorem iv_app (a b : List Int) : iv (a ++ b) = iv a ++ iv b := List.map_append
theorem iv_at {ns : List Int} {k : Nat} {d : PyData} (h : (iv ns)[k]? = some d) : ∃ n, ns[k]? = some n ∧ d = .int n := by
  unfold iv at h
  rw [List.getElem?_map] at h
  cases e : ns[k]? with
  | none => rw [e] at h; cases h
  | some n => rw [e] at h; injection h with h; exact ⟨n, rfl, h.symm⟩
theorem iv_inj {a b : List Int} (h : iv a = iv b) : a = b := by
  induction a generalizing b with
  | nil => cases b with
    | nil => rfl
    | cons y ys => cases h
  | cons x xs ih => cases b with
    | nil => cases h
    | cons y ys =>
      injection h with h1 h2
      injection h1 with h1
      rw [h1, ih h2]
def isW : PyData → Int → Int → Bool
  | .int i, lo, hi => decide (lo ≤ i) && decide (i ≤ hi)
  | _, _, _ => false
def rowOk (b : Int) : PyData → Bool
  | .tuple ds => (decide ((1 : Int) ≤ ds.length) && decide ((ds.length : Int) ≤ 8)) && ds.all fun d => isW d 0 (b - 1)
  | _ => false
/-- digits of a base -/
def Dg (b : Int) (ns : List Int) : Prop := ∀ n ∈ ns, 0 ≤ n ∧ n < b
def Row (b : Int) (ns : List Int) : Prop := (1 ≤ ns.length ∧ ns.length ≤ 8) ∧ Dg b ns
def Base (b : Int) : Prop := 2 ≤ b ∧ b ≤ 12
theorem rowOk_iff {b : Int} {d : PyData} : rowOk b d = true ↔ ∃ ns, d = tI ns ∧ Row b ns := by
  constructor
  · intro h
    cases d with
    | tuple ds =>
      unfold rowOk at h
      rw [Bool.and_eq_true, Bool.and_eq_true, decide_eq_true_iff, decide_eq_true_iff, List.all_eq_true] at h
      obtain ⟨⟨h1, h2⟩, h3⟩ := h
      have : ∃ ns, ds = iv ns ∧ Dg b ns := by
        clear h1 h2
        induction ds with
        | nil => exact ⟨[], rfl, fun _ h => nomatch h⟩
        | cons x xs ih =>
          obtain ⟨ns, e, g⟩ := ih fun z hz => h3 z (List.mem_cons_of_mem _ hz)
          have q := h3 x List.mem_cons_self
          cases x with
          | int i =>
            unfold isW at q
            rw [Bool.and_eq_true, decide_eq_true_iff, decide_eq_true_iff] at q
            refine ⟨i :: ns, by rw [e]; rfl, fun n hn => ?_⟩
            rcases List.mem_cons.mp hn with e | hn
            · subst e; omega
            · exact g n hn
          | _ => cases q
      obtain ⟨ns, rfl, g⟩ := this
      rw [iv_len] at h1 h2
      exact ⟨ns, rfl, ⟨by omega, by omega⟩, g⟩
    | _ => cases h
  · rintro ⟨ns, rfl, ⟨h1, h2⟩, h3⟩
    unfold rowOk
    rw [Bool.and_eq_true, Bool.and_eq_true, decide_eq_true_iff, decide_eq_true_iff, List.all_eq_true, iv_len]
    refine ⟨⟨by omega, by omega⟩, fun d hd => ?_⟩
    obtain ⟨n, hn, rfl⟩ := List.mem_map.mp hd
    have := h3 n hn
    unfold isW
    rw [Bool.and_eq_true, decide_eq_true_iff, decide_eq_true_iff]
    omega
theorem Row.ok {b : Int} {ns : List Int} (h : Row b ns) : rowOk b (tI ns) = true := rowOk_iff.mpr ⟨ns, rfl, h⟩
theorem Base.ok {b : Int} (h : Base b) : isW (.int b) 2 12 = true := by
  unfold isW
  rw [Bool.and_eq_true, decide_eq_true_iff, decide_eq_true_iff]
  exact h
theorem base_iff {d : PyData} : isW d 2 12 = true ↔ ∃ b, d = .int b ∧ Base b := by
  constructor
  · intro h
    cases d with
    | int i =>
      unfold isW at h
      rw [Bool.and_eq_true, decide_eq_true_iff, decide_eq_true_iff] at h
      exact ⟨i, rfl, h⟩
    | _ => cases h
  · rintro ⟨b, rfl, h⟩
    exact h.ok
/-- the value -/
def numI (b : Int) (ns : List Int) : Int := ns.foldl (fun f d => f * b + d) 0
def wrI (b : Int) : Nat → Int → List Int → List Int
  | 0, _, acc => acc
  | k + 1, n, acc => wrI b k (n / b) (n % b :: acc)
def srtI (ns : List Int) : List Int := ns.mergeSort fun a b => decide (a ≤ b)
def falI (ns : List Int) : List Int := (srtI ns).reverse
def stepI (b : Int) (ns : List Int) : List Int := wrI b ns.length (numI b (falI ns) - numI b (srtI ns)) []
def powI (b : Int) (k : Nat) : Int := b ^ k
theorem numI_app (b : Int) (ns : List Int) (d : Int) : numI b (ns ++ [d]) = numI b ns * b + d := by
  unfold numI
  rw [List.foldl_append]
  rfl
theorem Dg.app {b : Int} {xs ys : List Int} (h : Dg b xs) (h' : Dg b ys) : Dg b (xs ++ ys) := fun n hn => by
  rcases List.mem_append.mp hn with q | q
  · exact h n q
  · exact h' n q
theorem Dg.sub {b : Int} {xs ys : List Int} (h : Dg b xs) (s : ∀ n ∈ ys, n ∈ xs) : Dg b ys := fun n hn => h n (s n hn)
theorem snoc_ind {α : Type} {p : List α → Prop} (h0 : p []) (h1 : ∀ xs x, p xs → p (xs ++ [x])) : ∀ xs, p xs := fun xs => by
  rw [← List.reverse_reverse xs]
  induction xs.reverse with
  | nil => exact h0
  | cons x t ih => rw [List.reverse_cons]; exact h1 _ _ ih
theorem numI_bd {b : Int} (hb : 1 ≤ b) : ∀ {ns : List Int}, Dg b ns → 0 ≤ numI b ns ∧ numI b ns + 1 ≤ b ^ ns.length := fun {ns} => by
  refine snoc_ind (p := fun ns => Dg b ns → 0 ≤ numI b ns ∧ numI b ns + 1 ≤ b ^ ns.length) (fun _ => ⟨Int.le_refl _, by unfold numI; simp⟩) (fun xs x ih h => ?_) ns
  obtain ⟨h1, h2⟩ := ih (h.sub fun n hn => List.mem_append_left _ hn)
  obtain ⟨h3, h4⟩ := h x (List.mem_append_right _ List.mem_cons_self)
  rw [numI_app, List.length_append, List.length_cons, List.length_nil, Int.pow_succ]
  constructor
  · have := Int.mul_nonneg h1 (by omega : 0 ≤ b)
    omega
  · have := Int.mul_le_mul_of_nonneg_right h2 (by omega : 0 ≤ b)
    rw [Int.add_mul] at this
    omega
theorem pow_bd {b : Int} (h : Base b) {k : Nat} (hk : k ≤ 8) : 1 ≤ b ^ k ∧ b ^ k ≤ 429981696 := by
  have h1 : ∀ k : Nat, 1 ≤ b ^ k ∧ b ^ k ≤ 12 ^ k := fun k => by
    induction k with
    | zero => simp
    | succ k ih =>
      rw [Int.pow_succ, Int.pow_succ]
      obtain ⟨a1, a2⟩ := ih
      obtain ⟨b1, b2⟩ := h
      constructor
      · have := Int.mul_le_mul a1 (by omega : 1 ≤ b) (by decide) (by omega)
        omega
      · exact Int.mul_le_mul a2 b2 (by omega) (by omega)
  obtain ⟨a1, a2⟩ := h1 k
  refine ⟨a1, ?_⟩
  have : (12 : Int) ^ k ≤ 12 ^ 8 := by
    have e := Nat.pow_le_pow_right (by decide : 0 < 12) hk
    have := Int.ofNat_le.mpr e
    simpa using this
  exact Int.le_trans a2 this
theorem wrI_len (b : Int) : ∀ (k : Nat) (n : Int) (acc : List Int), (wrI b k n acc).length = k + acc.length
  | 0, _, acc => by show acc.length = _; omega
  | k + 1, n, acc => by
    show (wrI b k (n / b) (n % b :: acc)).length = _
    rw [wrI_len, List.length_cons]
    omega
theorem wrI_dg {b : Int} (hb : 1 ≤ b) : ∀ (k : Nat) (n : Int) (acc : List Int), Dg b acc → Dg b (wrI b k n acc)
  | 0, _, _, h => h
  | k + 1, n, acc, h => wrI_dg hb k _ _ fun m hm => by
    rcases List.mem_cons.mp hm with e | q
    · rw [e]; exact ⟨Int.emod_nonneg _ (by omega), Int.emod_lt_of_pos _ (by omega)⟩
    · exact h m q
theorem wrI_acc (b : Int) : ∀ (k : Nat) (n : Int) (acc : List Int), wrI b k n acc = wrI b k n [] ++ acc
  | 0, _, acc => rfl
  | k + 1, n, acc => by
    show wrI b k (n / b) (n % b :: acc) = wrI b k (n / b) [n % b] ++ acc
    rw [wrI_acc b k _ (n % b :: acc), wrI_acc b k _ [n % b], List.append_assoc]
    rfl
theorem wrI_succ (b : Int) (k : Nat) (n : Int) : wrI b (k + 1) n [] = wrI b k (n / b) [] ++ [n % b] := wrI_acc b k _ _
theorem srtI_perm (ns : List Int) : (srtI ns).Perm ns := List.mergeSort_perm _ _
theorem srtI_len (ns : List Int) : (srtI ns).length = ns.length := (srtI_perm ns).length_eq
theorem falI_len (ns : List Int) : (falI ns).length = ns.length := by unfold falI; rw [List.length_reverse, srtI_len]
theorem Dg.srt {b : Int} {ns : List Int} (h : Dg b ns) : Dg b (srtI ns) := h.sub fun n hn => (srtI_perm ns).mem_iff.mp hn
theorem Dg.fal {b : Int} {ns : List Int} (h : Dg b ns) : Dg b (falI ns) := h.srt.sub fun n hn => List.mem_reverse.mp hn
theorem stepI_len (b : Int) (ns : List Int) : (stepI b ns).length = ns.length := by unfold stepI; rw [wrI_len]; rfl
theorem Row.step {b : Int} {ns : List Int} (hb : 1 ≤ b) (h : Row b ns) : Row b (stepI b ns) := ⟨by rw [stepI_len]; exact h.1, wrI_dg hb _ _ _ fun _ h => nomatch h⟩
theorem dLe_int (a b : Int) : decide (a ≤ b) = dLe (.int a) (.int b) := by
  exact (congrFun (congrFun (PySem.W.dataLe_int (fun b : Int => b)) a) b).symm
theorem sort_iv (ns : List Int) : (iv ns).mergeSort dLe = iv (srtI ns) := by
  unfold iv srtI
  exact (List.map_mergeSort (r := fun a b => decide (a ≤ b)) (s := dLe) (f := PyData.int) (l := ns) (fun a _ b _ => dLe_int a b)).symm
theorem lfs_iv : ∀ ns : List Int, lfs (iv ns) = true
  | [] => rfl
  | n :: ns => by
    have := lfs_iv ns
    show (lf (.int n) && lfs (iv ns)) = true
    rw [this]; rfl
theorem can_iv (ns : List Int) : CanSort (iv ns) where
  al := PySem.W.AllAlike.of fun _ _ => rfl
  so := PySem.W.Sortable.others fun b => ⟨by simp, fun xs => by simp⟩
  lf := lfs_iv ns
  dp := fun d hd => by
    obtain ⟨n, _, rfl⟩ := List.mem_map.mp hd
    simp [PyData.depth]
end DD
namespace DD
variable [Nu]
open PySem L2
/-- a, b = x, y, of known data -/
theorem ds_pard {C : Ct} {F : Out → Prop} {ρ : Rho} {a b : Expr} {pos : Pos} (i j : Nat) {x y : Str} {d d' : PyData} {px py pt : Pos} {kt k2 pt2} (ha : DAd C (xi F) ρ [a, b] [d, d']) (k : F (.nx ((ρ.set i (.dat d)).set j (.dat d')))) (hN : C.X.N.Nodup) (hi : C.X.N[i]? = some x) (hj : C.X.N[j]? = some y) (hij : i ≠ j)
    (hx : C.X.env.scope.names.lookup x = some .local) (hy : C.X.env.scope.names.lookup y = some .local) (hw : swappedStores [.Tuple [.Name x px, .Name y py] kt pt] (.Tuple [a, b] k2 pt2) C.X.env = pure (some [x, y]))
    (hc : C.X.calm = true := by rfl) (hs : swapsWithSole [.Tuple [.Name x px, .Name y py] kt pt] (.Tuple [a, b] k2 pt2) pos.line C.X.env = pure false := by rfl) :
    DS C F ρ (.Assign [.Tuple [.Name x px, .Name y py] kt pt] (.Tuple [a, b] k2 pt2) pos) :=
  ds_par (P2 := fun z z' => z = d ∧ z' = d') i j (fun σ H E Q q z => ha σ H E Q (fun l vs H2 pl => q l vs H2 ⟨[d, d'], pl, d, d', rfl, rfl, rfl⟩) z) (fun z z' e => by rw [e.1, e.2]; exact k) hN hi hj hij hx hy hw hc hs
end DD

namespace DD
variable [Nu]
open PySem PySem.Spec PyProof.Rows L2 L2H HotX
section
variable {prog : Program} {w : World} {A : Around} {E : Value → Shared → Prop} {s : Shared}
/-- a list's iterator at its end, while an exception is handled -/
theorem list_end_hot {it l x1 : Addr} {i : Nat} {items : Array Value} {Q : Option Value → Shared → Prop} (hot : HotAt A x1 s.heap) (ne : x1 ≠ it) (hit : s.heap.IsListIter it l i) (hl : s.heap.IsList l items) (hx : items[i]? = none)
    (hQ : ∀ h', Heap.ExtBut it s.heap h' → Q none { s with heap := h' }) : wpAny (model prog w) A (pyNext (.ref it)) Q E s := by
  obtain ⟨hh, o1, vs1, h1, d1, c1⟩ := hot
  obtain ⟨ol, gl, _, nl, dl⟩ := hl
  obtain ⟨o, ho, hc, hd⟩ := id hit
  unfold pyNext
  refine wpAny_bind (wpAny_attempt (wpAny_callSpecial?_slot (name := Str.ofString "__next__") hit.typeIs slot_listiter_next (wpAny_call_entry slot_listiter_next hit.typeIs entry_listiter_next ?_ (args_listiter_next _))))
  show wpAny _ _ (field (.ref it) 0 >>= _) _ _ s
  refine wpAny_bind (wpAny_field ho hd (x := .ref l) rfl ?_)
  show wpAny _ _ (if (Value.ref l == Value.none) = true then _ else _) _ _ s
  rw [if_neg (by exact Bool.false_ne_true)]
  show wpAny _ _ (field (.ref it) 1 >>= _) _ _ s
  refine wpAny_bind (wpAny_field ho hd (x := .int i 0) rfl ?_)
  show wpAny _ _ (seqItems? (.ref l) >>= _) _ _ s
  refine wpAny_bind (wpAny_seqItems gl dl ?_)
  simp only [Int.toNat_natCast, hx]
  have up : ∀ b u, b ≠ it → s.heap.get? b = some u → (s.heap.update it (Obj.mapFields (·.setIfInBounds 0 .none))).get? b = some u := fun b u n e => by rw [Heap.get?_update_other _ _ (Ne.symm n)]; exact e
  refine wpAny_bind (wpAny_rule (wpAny_bind (wpAny_setField ho hd (by simp) ?_)))
  show wpAny _ _ (newExc (.type "StopIteration") [] >>= _) _ _ _
  refine wpAny_bind ?_
  simp only [newExc, newTuple]
  refine wpAny_bind (wpAny_newObj_type ?_ (by size_fits))
  refine wpAny_bind (m := firstArgMember _ _) (wpAny_of_eq (a := Value.none) (by first | rfl | (simp only [firstArgMember]; rfl)) ?_)
  refine wpAny_newObj_type ?_ (by size_fits)
  refine raiseNew_hot ⟨hh, o1, vs1, Heap.get?_push_of_some _ (Heap.get?_push_of_some _ (up x1 o1 ne h1)), d1, c1⟩ (Nat.ne_of_lt (Heap.lt_size (Heap.get?_push_of_some _ (up x1 o1 ne h1)))) (Heap.get?_push_size _ rfl) rfl
    (by first | (simp; done) | (simp; omega) | (simp only [Array.size_append]; simp; omega)) ?_
  refine wpAny_bind (wpAny_isInstance (T := "StopIteration") (b := true) ⟨_, Heap.get?_update_self _ (Heap.get?_push_size _ rfl) rfl, rfl⟩ isSubtype_stop ?_)
  refine wpAny_pure (hQ _ fun b u n e => ?_)
  rw [Heap.get?_update_other _ _ (Nat.ne_of_gt (Heap.lt_size (Heap.get?_push_of_some _ (up b u n e))))]
  exact Heap.get?_push_of_some _ (Heap.get?_push_of_some _ (up b u n e))
end
/-- the handled exception stands apart from what is tracked or fresh -/
theorem hot_ne {X : Cx} {pins : List (Addr × Obj)} {σ : L2.St} {H : Hp} {s : Shared} (c : HotC X) (I : Inv X pins σ H s) {it : Addr} (hf : FpOk X pins H it) : ∃ x1, HotAt X.A x1 s.heap ∧ x1 ≠ it := by
  obtain ⟨p, ⟨hh, v1, e1, c1⟩, hp⟩ := c
  refine ⟨p.1, ⟨hh, p.2, v1, (I.pin p (List.mem_append_left _ hp)).1, e1, c1⟩, fun z => ?_⟩
  exact hf.2.2.2.2.2 p (List.mem_append_left _ hp) z
/-- a list walked there -/
theorem turn_listH {P : Program} {w : World} {K : PySem.W.Frag} {tg : Expr} (a it : Addr) : TurnH P w K tg (Itl K a) [it] it (fun i h => h.IsListIter it a i) where
  mem := List.mem_cons_self
  obj := fun i h st b hb => by
    obtain rfl := List.mem_singleton.mp hb
    obtain ⟨o, e, _, d⟩ := st
    exact ⟨o, e, fun v z => by rw [d] at z; cases z⟩
  keep := fun i h h' st k => st.at fun o e => k it List.mem_cons_self o e
  item := by
    rintro X rfl rfl rfl hc i pins s σ H E I hf st ⟨xs, x, hq, hx⟩
    obtain ⟨its, rv, p, _⟩ := I.list hq
    obtain ⟨u, hu, ru⟩ := rv.get hx
    obtain ⟨g0, g1, g2, g3, g4, g5⟩ := hf it List.mem_cons_self
    refine wpAny_pyNext_list_item st p.isList (x := u) (by simpa using hu) fun h2 st2 sb => ?_
    have J : Inv X pins σ H { s with heap := h2 } := I.turned (t' := s.toks) (fun b o hb e => (sb.2 b hb).trans e) g0 g1 g3 g4 g5
    obtain ⟨o, e, c, d⟩ := id st2
    refine ⟨u, rfl, go_of (s := { s with heap := h2 }) e c d (by decide) ⟨x, H, J, ru, ⟨rfl, fun ys hy => ?_⟩, st2, fun b hb => (hf b hb).1⟩⟩
    rw [J.list_inj hy hq]
    exact hx
  done := by
    rintro X rfl rfl rfl hc i pins s σ H E I hf st ⟨xs, hq, hx⟩
    obtain ⟨its, rv, p, _⟩ := I.list hq
    obtain ⟨g0, g1, g2, g3, g4, g5⟩ := hf it List.mem_cons_self
    obtain ⟨x1, hot, ne⟩ := hot_ne hc I (hf it List.mem_cons_self)
    have hl := rv.length
    exact list_end_hot hot ne st p.isList (by simp; omega) fun h2 eb => ⟨rfl, I.turned (t' := s.toks) (fun b o hb e => eb b o hb e) g0 g1 g3 g4 g5⟩
  self := fun _ _ _ _ _ st h => wpAny_pyIter_listiter st h
theorem pi_listH {X : Cx} {tg l : Expr} {tl : TE} (hl : PE X l tl) : PIH X tg l (iList X.K tl) := by
  refine ⟨fun pins s σ H R I h => ?_⟩
  refine thn (hl.run pins s σ H _ I h) fun v s1 ⟨x, H1, I1, r1, a, e, ⟨xs, hq⟩, q⟩ => ?_
  subst e
  cases r1
  obtain ⟨its, rv, p, _⟩ := I1.list hq
  refine wpAny_pyIter_list p.isList ⟨s1.heap.objs.size, [s1.heap.objs.size], _, _, H1, rfl, I1.kept (t' := s1.toks) fun b o e => Heap.get?_push_of_some _ e, turn_listH a _, ⟨_, Heap.get?_push_size _ rfl, rfl, rfl⟩, fun b hb => ?_, q⟩
  obtain rfl := List.mem_singleton.mp hb
  exact I1.fpOk (Nat.le_refl _) (I1.hok.fresh (Nat.le_refl _))
end DD

namespace DD
variable [Nu]
open PySem PySem.Spec PyProof.Rows L2 L2H HotX
theorem hot_pin {X : Cx} {pins : List (Addr × Obj)} {σ : L2.St} {H : Hp} {s : Shared} (c : HotC X) (I : Inv X pins σ H s) : ∃ p : Addr × Obj, Hot1 X.A p ∧ PinOk X.stack H s p := by
  obtain ⟨p, h, hp⟩ := c
  have z := I.pin p (List.mem_append_left _ hp)
  exact ⟨p, h, z.1, z.2.1, fun hm => (List.mem_cons.mp (I.stkSub p.1 hm)).elim z.2.2.1 z.2.2.2.1, z.2.2.2.2⟩
/-- [elt for n in iter] of a list, while an exception is handled: each item's result, the heap kept -/
def tLcH (K : PySem.W.Frag) (i : Nat) (ti te : TE) : TE := fun σ H Q => ti σ H fun x H1 => ∃ (a : Addr) (xs ys : List V), x = .ref a ∧ H1 a = some (.lst xs) ∧ ys.length = xs.length ∧ xs.length < 1000000 ∧
  (∀ (k : Nat) (x y : V) (H' : Hp), xs[k]? = some x → ys[k]? = some y → te ((wipe σ [i]).set i (some x)) H' fun z H'' => H'' = H' ∧ z = y) ∧ ∀ D, H1 D = none → Q (.ref D) (upd H1 D (.lst ys))
theorem pe_lcH {X : Cx} {elt iter : Expr} {n : Str} {np pos : Pos} {scope : Scope} {i : Nat} {ti te : TE} (hc : HotC X) (hN : X.N.Nodup) (hi : PE X iter ti) (ok : BlkOk X.N X.env.scope scope [(n, i)]) (hix : X.N[i]? = some n)
    (hl : ∀ (s : Shared) (H : Hp) (C : Addr) (cl : List (Str × Addr)) (fp : List Addr), PG (X.blk s H scope (compEnvC scope cl C X.env) fp) (.Name n np) (gName i))
    (he : ∀ (s : Shared) (H : Hp) (C : Addr) (cl : List (Str × Addr)) (fp : List Addr), PE (X.blk s H scope (compEnvC scope cl C X.env) fp) elt te) (hs : ∀ x, foldedSetIterable iter X.env x = pure x := by intro _; rfl) :
    PE X (.ListComp elt [⟨.Name n np, iter, [], 0⟩] scope pos) (tLcH X.K i ti te) := by
  refine ⟨fun pins s σ H Q I h => ?_⟩
  rw [eval_ListComp]
  have cells : ∀ y ∈ scope.names, y.2 = .free → ∃ c, X.env.cells.lookup y.1 = some c := fun y hy e => I.ok.has _ ((ok.free y hy e).elim .inl .inr)
  refine wpAny_comprehension_free (use := none) rfl hs (closure_ok cells) ok.kind (fun y hy e => by rw [ok.uniq y hy, e]) (thn (hi.run pins s σ H _ I h) fun v1 s1 ⟨x1, H1, I1, r1, a, xs, ys, ex, hq, hly, hlx, step, fin⟩ => ?_)
  subst ex
  cases r1
  obtain ⟨its, rv, pl, _⟩ := I1.list (SqL.of hq)
  refine wpAny_pyIter_list pl.isList ?_
  -- the iterator
  generalize hit : s1.heap.objs.size = it
  have I2 : Inv X pins σ H1 { s1 with heap := s1.heap.push { cls := .type "list_iterator", data := .fields #[.ref a, .int 0 0] } } := I1.kept (t' := s1.toks) fun b o e => Heap.get?_push_of_some _ e
  have st2 : (s1.heap.push { cls := .type "list_iterator", data := .fields #[.ref a, .int 0 0] }).IsListIter it a 0 := by rw [← hit]; exact ⟨_, Heap.get?_push_size _ rfl, rfl, rfl⟩
  have f2 : FpOk X pins H1 it := by rw [← hit]; exact I1.fpOk (Nat.le_refl _) (I1.hok.fresh (Nat.le_refl _))
  generalize hs2 : ({ s1 with heap := s1.heap.push { cls := .type "list_iterator", data := .fields #[.ref a, .int 0 0] } } : Shared) = s2 at I2 st2 ⊢
  have st2 : s2.heap.IsListIter it a 0 := by rw [← hs2]; exact st2
  refine wpAny_newObj_type (newEnv_comp ?_) (by show 0 ≤ sizeLine; decide)
  generalize hD : s2.heap.objs.size = D
  have hDn : H1 D = none := I2.hok.fresh (Nat.le_of_eq hD)
  have aD : a ≠ D := ne_of_none hq hDn
  generalize hs3 : ({ s2 with heap := s2.heap.push { cls := .type "list", data := .seq ([] : List Value).toArray } } : Shared) = s3
  have g3 : ∀ b o, s2.heap.get? b = some o → s3.heap.get? b = some o := fun b o e => by rw [← hs3]; exact Heap.get?_push_of_some _ e
  have I3 : Inv X pins σ (upd H1 D (.lst [])) s3 := by
    rw [← hs3]
    refine I2.laid (t' := s2.toks) (fun b o e => Heap.get?_push_of_some _ e) (Nat.le_of_eq hD) ⟨Nat.zero_le _, [], 0, .nil, ?_⟩
    rw [← hD]
    exact Heap.get?_push_size _ rfl
  have ltI : it < s2.heap.objs.size := by obtain ⟨o, e, _⟩ := st2; exact Heap.lt_size e
  have f3 : FpOk X pins (upd H1 D (.lst [])) it := ⟨by rw [upd_ne (by rw [← hD]; exact Nat.ne_of_lt ltI)]; exact f2.1, f2.2⟩
  have sz3 : it < s3.heap.objs.size := by rw [← hs3]; show it < (s2.heap.push _).objs.size; rw [Heap.size_push]; exact Nat.lt_succ_of_lt ltI
  have I4 := block_start I3 ok hN (fp := [it]) fun b hb => by rw [List.mem_singleton.mp hb]; exact ⟨f3, sz3⟩
  have pg := hl s3 (upd H1 D (.lst [])) s3.heap.objs.size (cellsFrom (s3.heap.objs.size + 1) scope.names (cloFrom X.env.cells scope.names [])) [it]
  have pe := he s3 (upd H1 D (.lst [])) s3.heap.objs.size (cellsFrom (s3.heap.objs.size + 1) scope.names (cloFrom X.env.cells scope.names [])) [it]
  obtain ⟨p, ⟨hh, v0, e0, c0⟩, hpn⟩ := hc
  have pz := I3.pin p (List.mem_append_left _ hpn)
  show codeAny _ _ (.compStart (.ListComp elt [⟨.Name n np, iter, [], 0⟩] scope pos) 0 (.ref it) (.ref D) (compEnvC scope (cellsFrom (s3.heap.objs.size + 1) scope.names (cloFrom X.env.cells scope.names [])) s3.heap.objs.size X.env)) _ { s3 with heap := pushCells (s3.heap.push { cls := .type "dict", data := .dict #[] }) scope.names }
  have cL : (compEnvC scope (cellsFrom (s3.heap.objs.size + 1) scope.names (cloFrom X.env.cells scope.names [])) s3.heap.objs.size X.env).locals = s3.heap.objs.size := rfl
  generalize compEnvC scope (cellsFrom (s3.heap.objs.size + 1) scope.names (cloFrom X.env.cells scope.names [])) s3.heap.objs.size X.env = ce at I4 pg pe cL ⊢
  have g4 : ∀ b o, s3.heap.get? b = some o → (pushCells (s3.heap.push { cls := .type "dict", data := .dict #[] }) scope.names).get? b = some o := fun b o e => pushCells_keeps _ _ _ _ (Heap.get?_push_of_some _ e)
  generalize hs4 : ({ s3 with heap := pushCells (s3.heap.push { cls := .type "dict", data := .dict #[] }) scope.names } : Shared) = s4 at I4 ⊢
  have g4 : ∀ b o, s3.heap.get? b = some o → s4.heap.get? b = some o := fun b o e => by rw [← hs4]; exact g4 b o e
  have st4 : s4.heap.IsListIter it a 0 := st2.at fun o e => g4 _ _ (g3 _ _ e)
  have nit : p.1 ≠ it := f3.2.2.2.2.2 p (List.mem_append_left _ hpn)
  have nD : p.1 ≠ D := fun z => by
    have q := pz.2.1
    rw [z, upd_same] at q
    cases q
  have nL : p.1 ≠ ce.locals := by
    rw [cL]
    exact Nat.ne_of_lt (Heap.lt_size pz.1)
  have nS : p.1 ∉ frs X.stack := fun hm => (List.mem_cons.mp (I3.stkSub p.1 hm)).elim pz.2.2.1 pz.2.2.2.1
  have hIt : upd H1 D (.lst []) it = none := f3.1
  have itD : it ≠ D := by rw [← hD]; exact Nat.ne_of_lt ltI
  have h1it : H1 it = none := f2.1
  have I5 : Inv (X.blk s3 (upd H1 D (.lst [])) scope ce [it]) [p] (wipe σ [i]) (upd H1 D (.lst [])) s4 := I4.pins_of fun q hq => by
    obtain rfl := List.mem_singleton.mp hq
    exact ⟨g4 _ _ pz.1, pz.2.1, nL, nS, pz.2.2.2.2⟩
  have stat : ∀ {σ' : L2.St} {H' : Hp} {s' : Shared}, Inv (X.blk s3 (upd H1 D (.lst [])) scope ce [it]) [p] σ' H' s' → H' it = none → ∀ b ∈ [it], FpOk (X.blk s3 (upd H1 D (.lst [])) scope ce [it]) [p] H' b := fun {σ' H' s'} J hn b hb => by
    obtain rfl := List.mem_singleton.mp hb
    refine ⟨hn, (J.ok.exf b hb).1, J.ok.exfs b hb, .inl hb, fun x c e => (J.ok.exf b hb).2 x c e, fun q hq => ?_⟩
    obtain rfl := List.mem_singleton.mp hq
    exact nit
  have hU : ∀ k, upd (upd H1 D (.lst [])) D (.lst (ys.take k)) = upd H1 D (.lst (ys.take k)) := fun k => by
    funext b
    by_cases z : b = D
    · rw [z, upd_same, upd_same]
    · rw [upd_ne z, upd_ne z, upd_ne z]
  have hU2 : ∀ l l', upd (upd H1 D (.lst l)) D (.lst l') = upd H1 D (.lst l') := fun l l' => by
    funext b
    by_cases z : b = D
    · rw [z, upd_same, upd_same]
    · rw [upd_ne z, upd_ne z, upd_ne z]
  have nIt : ∀ l, upd H1 D (.lst l) it = none := fun l => by rw [upd_ne itD]; exact h1it
  have loop : codeAny (model X.prog X.w) X.A (.compLoop (.ListComp elt [⟨.Name n np, iter, [], 0⟩] scope pos) 0 (.ref it) (.ref D) ce) (compPost (model X.prog X.w) X.A X.xe none (EP X pins σ Q) (.ref D) s3.heap.objs.size) s4 := by
    refine compLoop_any (fun m s' => ∃ k, m = xs.length - k ∧ k ≤ xs.length ∧ Inv (X.blk s3 (upd H1 D (.lst [])) scope ce [it]) [p] (wipe σ [i]) (upd H1 D (.lst (ys.take k))) s' ∧ s'.heap.IsListIter it a k) ?_ xs.length ⟨0, rfl, Nat.zero_le _, I5, st4⟩
    rintro m s5 ⟨k, rfl, hk, J, st5⟩
    have hqa : upd H1 D (.lst (ys.take k)) a = some (.lst xs) := by rw [upd_ne aD]; exact hq
    obtain ⟨its2, rv2, pl2, _⟩ := J.list (SqL.of hqa)
    have hl2 := rv2.length
    obtain ⟨t0, t1, t2, t3, t4, t5⟩ := stat J (nIt _) it List.mem_cons_self
    by_cases hlt : k < xs.length
    · obtain ⟨xk, hxk⟩ : ∃ z, xs[k]? = some z := ⟨_, List.getElem?_eq_getElem hlt⟩
      obtain ⟨yk, hyk⟩ : ∃ z, ys[k]? = some z := ⟨_, List.getElem?_eq_getElem (by omega)⟩
      obtain ⟨u, hu, ru⟩ := rv2.get hxk
      refine wpAny_pyNext_list_item st5 pl2.isList (x := u) (by simpa using hu) fun h6 st6 sb => ?_
      have J6 : Inv (X.blk s3 (upd H1 D (.lst [])) scope ce [it]) [p] (wipe σ [i]) (upd H1 D (.lst (ys.take k))) { s5 with heap := h6 } := J.turned (t' := s5.toks) (fun b o hb e => (sb.2 b hb).trans e) t0 t1 t3 t4 t5
      obtain ⟨o6, e6, c6, d6⟩ := id st6
      refine go_of (s := { s5 with heap := h6 }) e6 c6 d6 (by decide) ?_
      have J7 := J6.pinned (stat J6 (nIt _)) fun b hb => by
        obtain rfl := List.mem_singleton.mp hb
        exact ⟨o6, e6, fun v z => by rw [d6] at z; cases z⟩
      refine thnF (pg.run _ _ _ _ xk u (fun σ2 H2 => σ2 = (wipe σ [i]).set i (some xk) ∧ H2 = upd H1 D (.lst (ys.take k))) J7 ru ⟨rfl, rfl⟩) fun _ s8 ⟨σ8, H8, J8, e8, e9⟩ => ?_
      subst e8 e9
      refine wpAny_tests_nil ?_
      simp only [if_true]
      refine thnF (pe.run _ s8 _ _ _ J8 (step k xk yk _ hxk hyk)) fun z s10 ⟨yv, H10, J10, r10, e10, e11⟩ => ?_
      subst e10 e11
      have hyl : (ys.take k).length = k := by rw [List.length_take]; omega
      refine app_ok (X := X.blk s3 (upd H1 D (.lst [])) scope ce [it]) J10 upd_same (by rw [hyl, sizeLine_eq]; omega) r10 fun s11 J11 => ⟨xs.length - (k + 1), by omega, k + 1, rfl, hlt, ?_, ?_⟩
      · rw [hU2, show ys.take k ++ [yv] = ys.take (k + 1) by rw [List.take_succ, hyk]; rfl] at J11
        refine (J11.unpinned (pins := [p])).weak (by rw [List.length_set]) fun j v e => ?_
        have hw : (wipe σ [i])[j]? = some (some v) := e
        by_cases hj : j = i
        · exfalso
          rw [hj] at hw
          unfold wipe at hw
          unfold wipe at hw
          rw [List.getElem?_set] at hw
          split at hw
          · split at hw <;> cases hw
          · contradiction
        · rw [List.getElem?_set_ne (Ne.symm hj)]
          exact hw
      · exact st6.at fun o e => (J11.pin (it, o) (List.mem_append_right _ (List.mem_append_right _ (mem_pinsAt List.mem_cons_self e)))).1
    · have hke : k = xs.length := by omega
      subst hke
      have hot : HotAt X.A p.1 s5.heap := ⟨hh, p.2, v0, (J.pin p (List.mem_append_right _ List.mem_cons_self)).1, e0, c0⟩
      refine list_end_hot hot nit st5 pl2.isList (by simp; omega) fun h6 eb => ?_
      have J6 : Inv (X.blk s3 (upd H1 D (.lst [])) scope ce [it]) [p] (wipe σ [i]) (upd H1 D (.lst (ys.take xs.length))) { s5 with heap := h6 } := J.turned (t' := s5.toks) (fun b o hb e => eb b o hb e) t0 t1 t3 t4 t5
      rw [List.take_of_length_le (by omega)] at J6
      have B : Inv X pins σ (upd H1 D (.lst ys)) { s5 with heap := h6 } := I3.call' (ch := [it]) J6.os J6.base J6.hok J6.bare fun b hb => by
        obtain rfl := List.mem_singleton.mp hb
        exact ⟨f3.2.2.2.1, f3.2.1, f3.2.2.2.2.1, f3.2.2.2.2.2⟩
      have nC : upd H1 D (.lst ys) s3.heap.objs.size = none := by
        have z : upd H1 D (.lst ys) ce.locals = none := J6.free
        rw [cL] at z
        exact z
      obtain ⟨m6, hn6, _⟩ := J6.loc
      have hn6 : h6.Ns ce.locals m6 := hn6
      rw [cL] at hn6
      obtain ⟨w0, w1, w2, w3, w4, w5⟩ := I3.fpOk (Nat.le_refl _) nC
      exact ⟨m6, hn6, fun h7 sb => ⟨.ref D, _, B.turned (t' := s5.toks) (fun b o hb e => (sb.2 b hb).trans e) w0 w1 w3 w4 w5, rfl, fin D hDn⟩⟩
  exact codeAny_compStart_list loop (wpAny_pyIter_listiter st4 loop)
end DD

namespace DD
variable [Nu]
open PySem PySem.Spec PyProof.Rows L2 L2H HotX
theorem presum_list (ns : List Int) : ∀ k, k ≤ ns.length → preSum (fun j => ns.getD j 0) k = (ns.take k).sum
  | 0, _ => by simp [preSum]
  | k + 1, h => by
    have hk : ns[k]? = some ns[k] := List.getElem?_eq_getElem (by omega)
    rw [preSum, presum_list ns k (by omega), List.take_succ, hk, List.sum_append, List.getD_eq_getElem?_getD, hk]
    simp
theorem vals_int {ns : List Int} {us : List Value} (r : Vals (ns.map V.int) us) {k : Nat} {v : Value} (e : us[k]? = some v) : ∃ t, v = .int (ns.getD k 0) t := by
  have hl := r.length
  have hk : k < us.length := (List.getElem?_eq_some_iff.mp e).1
  rw [List.length_map] at hl
  have hn : (ns.map V.int)[k]? = some (.int (ns[k]'(by omega))) := by rw [List.getElem?_map, List.getElem?_eq_getElem (by omega)]; rfl
  obtain ⟨u, hu, ru⟩ := r.get hn
  rw [e] at hu
  obtain rfl := Option.some.inj hu
  obtain ⟨t, rfl⟩ := ru
  exact ⟨t, by rw [List.getD_eq_getElem?_getD, List.getElem?_eq_getElem (by omega)]; rfl⟩
/-- sum(xs) of a list of ints, while an exception is handled -/
theorem cr_sumH {X : Cx} (hc : HotC X) : CallR X (.builtin "sum") (rSum X.K) := by
  intro pins s σ H vs us Q I r h
  obtain ⟨a, ns, rfl, hs, q⟩ := h
  obtain ⟨its, rv, pl, _⟩ := I.list hs
  have hlen := rv.length
  rw [List.length_map] at hlen
  obtain ⟨p, ⟨hh, v0, e0, c0⟩, pz⟩ := hot_pin hc I
  rw [Vals.ref1 r]
  have la : a < s.heap.objs.size := by obtain ⟨_, e, _⟩ := pl.isList; exact Heap.lt_size e
  refine call_sum_walkAnyS (wpAny_pyIter_list pl.isList ?_)
  generalize hit : s.heap.objs.size = it
  have st : (s.heap.push { cls := .type "list_iterator", data := .fields #[.ref a, .int 0 0] }).IsListIter it a 0 := by rw [← hit]; exact ⟨_, Heap.get?_push_size _ rfl, rfl, rfl⟩
  have nai : a ≠ it := by rw [← hit]; exact Nat.ne_of_lt la
  have npi : p.1 ≠ it := by rw [← hit]; exact Nat.ne_of_lt (Heap.lt_size pz.get)
  refine ⟨it, [it, a, p.1], [it], fun x y => y = x, its.toArray.size, fun k v => its.toArray[k]? = some v, fun k s' => s'.heap.IsListIter it a k ∧ s'.heap.IsList a its.toArray ∧ s'.heap.get? p.1 = some p.2, fun j => ns.getD j 0, rfl, ?_, ⟨st, pl.isList.push _, Heap.get?_push_of_some _ pz.get⟩, fun b hb => ?_, fun k v e => vals_int rv (by simpa using e), fun s' t' m => ?_⟩
  · refine ⟨fun b hb => by rw [List.mem_singleton.mp hb]; exact List.mem_cons_self, fun _ => rfl, fun x y z e1 e2 => e2.trans e1, fun k s1 h' tk z _ kp => ⟨z.1.at fun o e => kp it (by simp) o e, z.2.1.at fun o e => kp a (by simp) o e, kp p.1 (by simp) _ z.2.2⟩, fun k s1 Q E hk z hQ => ?_, fun s1 Q E z hQ => ?_, fun k s1 Q E z hQ => wpAny_pyIter_listiter z.1 hQ⟩
    · refine wpAny_pyNext_list_item z.1 z.2.1 (x := its.toArray[k]) (Array.getElem?_eq_getElem hk) fun h' st' sb => hQ _ { s1 with heap := h' } (Array.getElem?_eq_getElem hk) ⟨st', z.2.1.extBut sb.extBut nai, sb.extBut _ _ npi z.2.2⟩ ?_
      exact ⟨fun b o hb e => sb.extBut b o (fun h => hb (by rw [h]; exact List.mem_cons_self)) e, rfl, rfl, rfl, Nat.le_refl _⟩
    · refine list_end_hot ⟨hh, p.2, v0, z.2.2, e0, c0⟩ npi z.1 z.2.1 (Array.getElem?_eq_none (Nat.le_refl _)) fun h' eb => hQ { s1 with heap := h' } ?_
      exact ⟨fun b o hb e => eb b o (fun h => hb (by rw [h]; exact List.mem_cons_self)) e, rfl, rfl, rfl, Nat.le_refl _⟩
  · show b < (s.heap.push _).objs.size
    rw [Heap.size_push]
    simp only [List.mem_cons, List.not_mem_nil, or_false] at hb
    have lp := Heap.lt_size pz.get
    rcases hb with e | e | e
    · rw [e, ← hit]; exact Nat.lt_succ_self _
    · rw [e]; exact Nat.lt_succ_of_lt la
    · rw [e]; exact Nat.lt_succ_of_lt lp
  · have I2 : Inv X pins σ H s' := by
      obtain ⟨m1, m2, m3, m4, m5⟩ := m
      obtain ⟨hp, gs, dr, tk, os⟩ := s'
      have e1 : gs = s.gens := m2
      have e2 : dr = s.drawn := m3
      have e3 : os = s.os := m4
      subst e1 e2 e3
      exact I.kept (t' := tk) fun b o e => m1 b o (fun hb => by
        have := Heap.lt_size e
        rw [List.mem_singleton.mp hb, ← hit] at this
        exact Nat.lt_irrefl _ this) (Heap.get?_push_of_some _ e)
    have e : preSum (fun j => ns.getD j 0) its.toArray.size = ns.sum := by
      rw [presum_list ns _ (by simp; omega), List.take_of_length_le (by simp; omega)]
    refine ⟨.int ns.sum, H, I2, ⟨t', ?_⟩, q⟩
    rw [e]
end DD

namespace DD
variable [Nu]
open PySem PySem.Spec PyProof.Rows L2 L2H HotX LamX
/-- all but the table at P stays, the table too tells what it told -/
structure Laid (P : Addr) (q : Str) (H H' : Hp) : Prop where
  keep : ∀ b o, b ≠ P → H b = some o → H' b = some o
  tab : TabS H' P q
section
variable {X : Cx} {pins : List (Addr × Obj)} {σ : L2.St} {H : Hp} {s : Shared}
theorem tab_more {P c' : Addr} {q : Str} {ps : Array Value} {pos : Pos} (hP : H P = some (.tbl ps)) (ht : TriplesOk ps.toList) (ha : ∀ (pos : Pos) (cv : Value), codeAmong pos ps.toList = some cv → ∃ c, cv = .ref c ∧ H c = some (CodeO c q)) (nC : H c' = none) :
    Laid P q H (upd (upd H P (.tbl (ps ++ #[rawInt pos.line, rawInt pos.col, .ref c']))) c' (CodeO c' q)) := by
  have kp : ∀ b o, b ≠ P → H b = some o → upd (upd H P (.tbl (ps ++ #[rawInt pos.line, rawInt pos.col, .ref c']))) c' (CodeO c' q) b = some o := fun b o n e => by
    rw [upd_ne (ne_of_none e nC), upd_ne n]
    exact e
  have el : (ps ++ #[rawInt pos.line, rawInt pos.col, .ref c']).toList = ps.toList ++ [rawInt pos.line, rawInt pos.col, .ref c'] := by simp
  refine ⟨kp, _, by rw [upd_ne (ne_of_none hP nC), upd_same], by rw [el]; exact PySem.TriplesOk_snoc _ _ _ _ ht, fun p2 cv h => ?_⟩
  rw [el] at h
  rcases among_app _ ht h with z | z
  · obtain ⟨d, e1, e2⟩ := ha p2 cv z
    exact ⟨d, e1, kp _ _ (fun y => by rw [y, hP] at e2; unfold CodeO at e2; cases e2) e2⟩
  · exact ⟨c', z, upd_same⟩
theorem lam_mk {c P : Addr} {params : Arguments} {body : Expr} {scope : Scope} {pos : Pos} {E Q : Value → Shared → Prop} (I : Inv X pins σ H s) (TB : TabB X.base X.mg c P) (hcode : X.env.code = .ref c) (hT : TabS H P (X.env.qual ++ "<lambda>"))
    (hdef : defaultsOf params X.env = ([], [])) (hfree : ∀ y ∈ scope.names, y.2 = .free → ∃ c, X.env.cells.lookup y.1 = some c)
    (h : ∀ (f c' : Addr) (pm ctv : Value) (H1 : Hp) (s' : Shared), Inv X pins σ H1 s' → Laid P (X.env.qual ++ "<lambda>") H H1 →
      s'.heap.get? f = some (PySem.W.kla_obj "<lambda>" (X.env.qual ++ "<lambda>") params body scope (cloFrom X.env.cells scope.names []) pm c' ctv) → H1 f = none → f ∉ frs X.stack → H1 c' = some (CodeO c' (X.env.qual ++ "<lambda>")) → Q (.ref f) s') :
    wpAny (model X.prog X.w) X.A (eval (.Lambda params body scope pos) X.env) Q E s := by
  obtain ⟨ps, hP, ht, ha⟩ := id hT
  have atP : s.heap.get? P = some { cls := .none, data := .fields ps } := I.hok P _ hP
  have out : ∀ f, s.heap.objs.size ≤ f → f ∉ frs X.stack := fun f hf z => (List.mem_cons.mp (I.stkSub _ z)).elim (fun e => Nat.lt_irrefl _ (Nat.lt_of_lt_of_le (by rw [e]; exact I.lt) hf)) (I.nofs hf)
  refine PySem.W.kla_eval hdef ?_
  cases hc : codeAmong pos ps.toList with
  | some cv =>
    obtain ⟨c', e, hco⟩ := ha pos cv hc
    subst e
    refine PySem.W.kla_makeFunctionHit (mg := X.mg) (c := c) (P := P) (ps := ps) (closure_ok hfree) I.ok.glob (I.mod.glob.keeps I.bk) hcode (TB.code.keeps I.bk) atP ht hc (TB.bm.keeps I.bk) fun ctv h' tk hx hsz => ?_
    exact h h'.objs.size c' ((X.mg "__name__").getD .none) ctv H _ (I.kept (t' := tk) fun b o e => Heap.get?_push_of_some _ (hx b o e)) ⟨fun _ _ _ e => e, hT⟩ (Heap.get?_push_size _ rfl) (I.hok.fresh hsz) (out _ hsz) hco
  | none =>
    refine PySem.W.kla_makeFunction (mg := X.mg) (c := c) (P := P) (ps := ps) (closure_ok hfree) I.ok.glob (I.mod.glob.keeps I.bk) hcode (TB.code.keeps I.bk) atP ht hc TB.gP (TB.bm.keeps I.bk) fun c' ctv h' tk hx hge hlt hrec htb => ?_
    obtain ⟨c2, oc, vs, t, e2, hoc, hd, hv⟩ := hrec
    cases e2
    have hsz : s.heap.objs.size ≤ h'.objs.size := Nat.le_trans hge (Nat.le_of_lt hlt)
    have nC : H c' = none := I.hok.fresh hge
    have J := inv_table (t' := tk) (more := #[rawInt pos.line, rawInt pos.col, .ref c']) (h' := h'.push (PySem.W.kla_obj "<lambda>" (X.env.qual ++ "<lambda>") params body scope (cloFrom X.env.cells scope.names []) ((X.mg "__name__").getD .none) c' ctv)) I hP (fun b o hb e => Heap.get?_push_of_some _ (hx b o hb e)) (Heap.get?_push_of_some _ htb) hge ⟨oc, vs, t, Heap.get?_push_of_some _ hoc, hd, hv⟩
    refine h h'.objs.size c' ((X.mg "__name__").getD .none) ctv _ _ J (tab_more hP ht ha nC) (Heap.get?_push_size _ rfl) ?_ (out _ hsz) upd_same
    rw [upd_ne (Nat.ne_of_gt hlt), upd_ne (Nat.ne_of_gt (Nat.lt_of_lt_of_le (Heap.lt_size atP) hsz))]
    exact I.hok.fresh hsz
end
/-! ### the lambda's body, its exceptions as ExcCtx has them -/
def lamN (X : Cx) (A : Around) (outer : List PySem.Env) (s : Shared) (H : Hp) (E : XK) (scope : Scope) (f c' : Addr) : Cx :=
  { lamCx X A outer s H E scope f c' with
    xe := fun e s' => wpAny (model X.prog X.w) (A.deeper (lamEnv X scope s.heap.objs.size f c')) (leaving (lamEnv X scope s.heap.objs.size f c') e) (fun _ s'' => L2N.CX X.prog X.w outer H s E e s'') (fun e' s'' => L2N.CX X.prog X.w outer H s E e' s'') s' }
theorem toN {X : Cx} {A : Around} {outer : List PySem.Env} {s s' : Shared} {H H' : Hp} {E : XK} {scope : Scope} {f c' : Addr} {pins : List (Addr × Obj)} {σ : L2.St} (I : Inv (lamCx X A outer s H E scope f c') pins σ H' s') : Inv (lamN X A outer s H E scope f c') pins σ H' s' :=
  let z := I.ok
  ⟨⟨z.mod, z.kind, z.glob, z.blt, z.above, z.inj, z.has, z.cab, z.hd, z.frames, z.stk, z.exf, z.bs, z.bsz, z.noex, z.exfs, z.funs, z.frf⟩, I.os, I.bare, I.base, I.loc, I.cell, I.free, I.freeC, I.pin, I.hok, I.len⟩
section
variable {X : Cx} {pins : List (Addr × Obj)} {σ : L2.St} {H HZ : Hp} {s : Shared}
theorem actN {CXg : CXT} {Eg : XK} {Ng : List Str} {qg : Str} {sg : Scope} {g f c' : Addr} {cdg pm ctv : Value} {params : Arguments} {body : Expr} {scope : Scope} {k i : Nat} {a : Str} {pn : List (Addr × Obj)} {xe : Value → Shared → Prop} {W : WX} {E : XK} {tb : Hp → TE} {p1 p2 : Pos}
    (I : Inv X pins σ H s) (L : LamS X.env.scope scope) (hf : s.heap.get? f = some (PySem.W.kla_obj "<lambda>" (X.env.qual ++ "<lambda>") params body scope (cloFrom X.env.cells scope.names []) pm c' ctv)) (hfn : H f = none) (hfr : f ∉ frs X.stack)
    (hbind : bindArgs (PySem.W.kla_fn "<lambda>" (X.env.qual ++ "<lambda>") params body scope (cloFrom X.env.cells scope.names []) pm (.ref c') ctv) ⟨[], []⟩ = pure [])
    (tk : L2N.Takes ((cxOf CXg X.prog X.w X.K X.mg X.base Ng qg sg g cdg X.A X.stack s H Eg).tr pn xe) W) (hr : Room (k + 1) (X.A.deeper (envOfC qg sg s.heap.objs.size g cdg)))
    (hbody : ∀ (A : Around) (outer : List PySem.Env) (s : Shared) (H : Hp), Room k (A.deeper (lamEnv X scope s.heap.objs.size f c')) → PE (lamN X A outer s H E scope f c') body (tb H))
    (hN : Ng[i]? = some a) (hv : Vis sg a) (hd : (a == ("__debug__" : Str)) = false := by decide) (hcd : (a == ("__classdict__" : Str)) = false := by decide) :
    PE ((cxOf CXg X.prog X.w X.K X.mg X.base Ng qg sg g cdg X.A X.stack s H Eg).tr pn xe) (.Call (.Name a p1) [] [] p2)
      (fun σZ HZ Q => σZ[i]? = some (some (.ref f)) ∧ HZ c' = some (CodeO c' (X.env.qual ++ "<lambda>")) ∧ (∀ cls d H', E cls d H' → W cls d σZ H') ∧ tb HZ σ HZ Q) := by
  refine ⟨fun pz sz σz Hz Q Iz ⟨e1, e2, hW, e3⟩ => ?_⟩
  refine wpAny_Call_Name_kw (thn ((pe_var (pos := p1) (i := i) hN hv hd hcd).run pz sz σz Hz (fun v H1 => v = .ref f ∧ H1 = Hz) Iz ⟨.ref f, e1, rfl, rfl⟩) fun u s1 ⟨v, H1, J, r1, ev, eh⟩ => ?_)
  subst ev eh
  obtain rfl : u = Value.ref f := r1
  have atF := J.base.keep f _ hf hfn hfr (fun z => nomatch (show f ∈ ([] : List Addr) from z))
  refine PySem.W.callWith_F0 ⟨_, _, _, _, atF⟩ ?_
  obtain ⟨⟨oc, vs, t, hoc, hdc, hvc⟩, _, _⟩ := J.hok c' _ e2
  have run : codeAny (model X.prog X.w) (X.A.deeper (envOfC qg sg s.heap.objs.size g cdg)) (.call (.ref f) ⟨[], []⟩) (CR (L2N.CX X.prog X.w) (envOfC qg sg s.heap.objs.size g cdg :: X.stack) X.prog X.w H1 s1 Q E) s1 := by
    refine PySem.W.kla_callFunE hr.depth atF rfl L.co L.gen rfl ⟨c', oc, vs, t, rfl, hoc, hdc, hvc⟩ ?_
    rw [hbind]
    refine wpAny_pure (wpAny_newFunctionEnv (fun y hy => (L.own y hy).2) (fun y hy => absurd hy (by simp)) (fun h₁ hns hsb => ⟨J.nolimit.fresh _ hsb, ?_⟩) L.kind)
    show codeAny _ _ (.expr body (lamEnv X scope s1.heap.objs.size f c')) _ _
    have kp : ∀ b o, s1.heap.get? b = some o → h₁.get? b = some o := fun b o e => hsb.extBut b o (Nat.ne_of_lt (Heap.lt_size e)) (Heap.get?_push_of_some _ e)
    have Z : Inv (lamN X (X.A.deeper (envOfC qg sg s.heap.objs.size g cdg)) (envOfC qg sg s.heap.objs.size g cdg :: X.stack) s1 H1 E scope f c') [] σ H1 { s1 with heap := h₁, toks := s1.toks + ([] : List (Str × Value)).length } :=
      toN (lam_start2 I L J.env0 hr.hd J.base hns kp)
    refine PySem.W.kla_codeExpr (wpAny_mono ((hbody _ _ s1 H1 (hr.deeper _)).run [] _ _ H1 Q Z e3) (fun v s' hq => ?_) fun e s' hq => hq)
    obtain ⟨w', H', Z', rv, q⟩ := hq
    exact ⟨w', H', Z'.os, Z'.bare, Z'.base, Z'.hok, rv, q⟩
  refine wpAny_call (codeAny_mono run fun r s' hq => ?_)
  cases r with
  | error e => exact tk e s' (L2N.XE.of_call J hW hq)
  | ok fl =>
    cases fl with
    | ret u => exact J.after hq
    | next => exact False.elim hq
    | brk => exact False.elim hq
    | cont => exact False.elim hq
end
end DD

namespace DD
variable [Nu]
open PySem PySem.Spec PyProof.Rows L2 L2H HotX LamX
/-- a def entered while p is handled -/
theorem run_hot {CX : CXT} {P : Program} {w : World} {K : PySem.W.Frag} {mg : Str → Option Value} {base : Heap} {k : Nat} {f : Addr} {name qual : Str} {params : Arguments} {body : List Stmt} {scope : Scope} {dV kV doc pm cdv ct oc : Value} {an od : Option Addr}
    {osl : Array (Option Value)} {N ps : List Str} (lk : K.lookup f = some ⟨oc, od, .func (PySem.W.fnOf name qual params body scope dV kV doc pm an cdv ct), osl⟩) (hcd : PySem.W.codeIn K cdv qual = true) (S : FnScope N ps scope)
    {A : Around} {outer : List PySem.Env} {s : Shared} {H : Hp} {args : Args} {us : List Value} {vs : List V} {Q : VK} {E : XK} {p : Addr × Obj} (hr : RoomH (k + 1) A) (hpin : PinOk outer H s p) (e0 : Env0 P w K mg base A outer s H)
    (hb : BindsTo s (PySem.W.fnOf name qual params body scope dV kV doc pm an cdv ct) args (ps.zip us)) (r : Vals vs us) (hl : vs.length = ps.length)
    (hbody : RoomH k (A.deeper (envOfC qual scope s.heap.objs.size f cdv)) → ∃ t, PSs (cxH CX P w K mg base N qual scope f cdv A outer s H E p) body t ∧ t { nx := fun _ H' => Q .non H', rt := Q } (L2.start N vs) H) :
    codeAny (model P w) A (.call (.ref f) args) (CR CX outer P w H s Q E) s := by
  have kin : K.In s.heap := e0.mod.kin.keeps fun b o e => (e0.bs b o e).1
  have lim : s.heap.NoLimit := e0.mod.nolimit.keeps fun b o e => (e0.bs b o e).1
  refine codeAny_call_function hr.depth (kin _ _ lk) rfl S.co S.gen rfl (PySem.W.codeRec_of kin hcd) (hb _ _ _ _ ?_)
  refine wpAny_newFunctionEnv_cells S.kind (fun ⟨n, v⟩ hy => ?_) fun env he s1 x => ?_
  · rcases S.par n (List.of_mem_zip hy).1 with q | q
    · exact .inl q
    · exact .inr ⟨q, PySem.W.cellsFrom_some _ _ _ (.inl q)⟩
  subst he
  refine ⟨lim.keeps x.toInCall.keep, codeAny_func ?_⟩
  obtain ⟨t, ht, hq⟩ := hbody (hr.deeper _)
  refine wpAny_mono (ht.run [] s1 (L2.start N vs) H _ (inv_startH S hpin e0 hl r x) hq) (fun fl s' hs => ?_) fun e s' hs => hs
  cases fl with
  | ret u => obtain ⟨v, σ', H', J, rv, q⟩ := hs; exact ⟨v, H', J.os, J.bare, J.base, J.hok, rv, q⟩
  | next => obtain ⟨σ', H', J, q⟩ := hs; exact ⟨V.non, H', J.os, J.bare, J.base, J.hok, rfl, q⟩
  | brk => obtain ⟨_, _, _, q⟩ := hs; exact False.elim q
  | cont => obtain ⟨_, _, _, q⟩ := hs; exact False.elim q
theorem call_isP {X : Cx} {a D : Addr} {oe : Obj} (C : ExcC X.K D) (hz : Zc (.ref D) none oe) (hf : ∃ vs, oe.data = .fields vs) (hp : (a, oe) ∈ X.pn) : CallR X (.builtin "isinstance") (rIsE X.K D a) := by
  rintro pins s σ H xs us Q I r ⟨c, cv, b, rfl, hcv, e, q⟩
  cases r with
  | cons rx rr =>
    cases rr with
    | cons rt rr =>
      cases rr
      cases rx
      obtain rfl := hcv _ rt
      obtain ⟨here, _⟩ := I.pin (a, oe) (List.mem_append_left _ hp)
      obtain ⟨vs, hv⟩ := hf
      have J : PySem.W.InstAt s.heap a oe D none := by
        obtain ⟨oc, od, oda, osl⟩ := oe
        obtain ⟨h1, h2⟩ := hz
        dsimp only at h1 h2 hv
        subst h1 h2 hv
        exact ⟨here, rfl, rfl, trivial⟩
      exact PySem.W.kia_one (PySem.W.handS_kitx_exc C.hg C.hk C.hs C.hd C.ha C.hn C.ht C.hm) I.kIn J e (fun z => nomatch z) fun tk => ⟨.bl b, H, I.kept (t' := tk) fun _ _ z => z, rfl, q⟩
section
variable {C : Ct} {Ξ : Addr → Prop} {ρ : Rho} {pos p p1 p2 : Pos}
theorem raw_at {C : Ct} {ρ : Rho} {σ : L2.St} {H : Hp} {v : V} {i : Nat} (E : Env C ρ σ H) (h : gt ρ i = .raw v) : σ[i]? = some (some v) := by
  have s := E.slot i
  rw [h] at s
  have s : σ.getD i none = some v := s
  rw [List.getD_eq_getElem?_getD] at s
  cases q : σ[i]? with
  | none => rw [q] at s; cases s
  | some o => rw [q] at s; exact congrArg some s
theorem de_isE (i : Nat) {e x : Str} {a D : Addr} {oe : Obj} {c : V} {cv : Value} {b : Bool} (F : ExcC C.X.K D) (hz : Zc (.ref D) none oe) (hf : ∃ vs, oe.data = .fields vs) (hp : (a, oe) ∈ C.X.pn) (hs : gt ρ i = .raw (.ref a)) (hN : C.X.N[i]? = some e) (hv : Vis C.X.env.scope e)
    (hx : PE C.X (.Name x p2) (tC c)) (hc : ∀ u, RelV c u → u = cv) (hk : PySem.W.kitOne C.X.K (.ref D) cv = some b) (hg : Gl C.X "isinstance") (hm : C.X.mg "isinstance" = none)
    (hd : (e == ("__debug__" : Str)) = false := by decide) (hcd : (e == ("__classdict__" : Str)) = false := by decide) (he : starEach [.Name e p1, .Name x p2] C.X.env = (false, eval (.Name e p1) C.X.env) :: starEach [.Name x p2] C.X.env := by rfl) (he2 : starEach [.Name x p2] C.X.env = (false, eval (.Name x p2) C.X.env) :: starEach [] C.X.env := by rfl)
    (hpl : (backTo pos (starEach [.Name x p2] C.X.env)).any (·.1) = false := by rfl) : DEd C Ξ ρ (.Call (.Name "isinstance" p) [.Name e p1, .Name x p2] [] pos) (.bool b) := fun σ H E Q q z =>
  ⟨_, pe_callB (call_isP F hz hf hp) hg hm b_isi (pa_cons (pe_var hN hv hd hcd) (pa_cons hx pa_nil he2) he) (by decide) (by decide) he hpl, _, raw_at E hs, c, cv, b, rfl, hc, hk, q _ _ H rfl (Gr.refl _ _) (.bl b)⟩
/-- xs.index(x) -/
theorem de_index (j : Nat) {o e : Expr} {apos cpos : Pos} {ds : List PyData} {d z : PyData} (hu : C.X.A.units + 65 < cLine) (ho : DEd C Ξ ρ o (.list ds)) (ha : DEd C Ξ ρ e d) (sl : SeqAt.shaped (.list ds) = true) (sd : SeqAt.shaped d = true) (hz : ds[j]? = some z) (hzj : PyData.eqv z d = true)
    (hno : ∀ (m : Nat) (z' : PyData), m < j → ds[m]? = some z' → PyData.eqv z' d = false) (hbase : attributeBase o "index" C.X.env (eval o C.X.env) = eval o C.X.env := by rfl)
    (hfew : ((backTo cpos (starEach [e] C.X.env)).all (fun x => !x.1) && (backToKw cpos (keywordEach [] C.X.env)).all (fun x => x.1.isSome) && decide ([e].length + ([] : List Keyword).length + (if ([] : List Keyword).isEmpty then 0 else 1) < 30)) = true := by rfl)
    (hline : (apos.endLine == cpos.line) = true := by rfl) (hs : starEach [e] C.X.env = (false, eval e C.X.env) :: starEach [] C.X.env := by rfl) (hplain : (backTo cpos (starEach [] C.X.env)).any (·.1) = false := by rfl) :
    DEd C Ξ ρ (.Call (.Attribute o "index" apos) [e] [] cpos) (.int j) := fun σ H E Q q z0 =>
  ⟨_, pe_bm PySem.F.plainAttrs_list PySem.F.slot_list_index PySem.F.type_list_index (mt_indexD hu) pE pA hbase hfew hline hs hplain, ho σ H E _ (fun d1 v H2 p1 g1 r1 => by
    subst p1
    obtain ⟨a, xs, rfl, h1, h2⟩ := r1.ref_list
    refine ⟨.inl ⟨rfl, xs, SqL.of (hid_le _ _ h1)⟩, da_cons ha da_nil hs σ H2 (E.grow g1) _ (fun l vs H3 p2 g2 r2 => ?_) fun c H3 x g2 => z0 c H3 x (g1.trans g2)⟩
    subst p2
    obtain ⟨u, rfl, ru⟩ := r2.ats.one
    have h1' := vis_gr g2 _ _ h1
    exact ⟨a, u, d, ds, j, z, rfl, rfl, .lst (SqL.of (hid_le _ _ h1')) (AtAll.dp' _ _ _ (by have := nod_lay _ (SeqAt.canLay_of_shaped sl); rw [nod] at this; exact this) ((h2.up (vis_gr g2)).up hid_le)), Ct.dpv sd ru, sl, sd, hz, hzj, hno, q _ _ H3 rfl (g1.trans g2) (.int _)⟩) z0⟩
theorem de_sumH {e : Expr} {ns : List Int} (hot : HotC C.X) (hg : Gl C.X "sum") (hm : C.X.mg "sum" = none) (ha : DEd C Ξ ρ e (.list (ns.map .int))) (he : starEach [e] C.X.env = (false, eval e C.X.env) :: starEach [] C.X.env := by rfl) : DEd C Ξ ρ (.Call (.Name "sum" p) [e] [] pos) (.int ns.sum) :=
  de_cb (cr_sumH hot) hg hm b_sum (da_cons ha da_nil he) rc_sum (he := he)
def bI (b : Bool) : Int := if b then 1 else 0
theorem de_flags (i : Nat) {x : Str} {iter : Expr} {bs : List Bool} {scope : Scope} {px p3 p4 : Pos} (hot : HotC C.X) (hN : C.X.N.Nodup) (ok : BlkOk C.X.N C.X.env.scope scope [(x, i)]) (hi : DEd C Ξ ρ iter (.list (bs.map .bool))) (hz : bs.length < 1000000) (hl : i < ρ.length) (hix : C.X.N[i]? = some x)
    (hx : ∀ (s : Shared) (H : Hp) (Cc : Addr) (cl : List (Str × Addr)) (fp : List Addr), (compEnvC scope cl Cc C.X.env).scope.names.lookup x = some .local) (hg : ∀ (s : Shared) (H : Hp) (Cc : Addr) (cl : List (Str × Addr)) (fp : List Addr), Gl (C.X.blk s H scope (compEnvC scope cl Cc C.X.env) fp) "int") (hm : C.X.mg "int" = none)
    (hd : (x == ("__debug__" : Str)) = false := by decide) (hcd : (x == ("__classdict__" : Str)) = false := by decide) (hs : ∀ x, foldedSetIterable iter C.X.env x = pure x := by intro _; rfl) :
    DEd C Ξ ρ (.ListComp (.Call (.Name "int" p3) [.Name x p4] [] p) [⟨.Name x px, iter, [], 0⟩] scope pos) (.list (bs.map fun b => .int (bI b))) := fun σ H E Q q z =>
  ⟨_, pe_lcH hot hN pE ok hix (fun s H Cc cl fp => pg_name hN hix (.inl (hx s H Cc cl fp)) (.inr (hx s H Cc cl fp))) (fun s H Cc cl fp => pe_callTy call_int1 (hg s H Cc cl fp) hm b_int (pa_cons (pe_var hix (.inl (hx s H Cc cl fp)) hd hcd) pa_nil)) hs, hi σ H E _ (fun d v H2 pd g r => by
    subst pd
    obtain ⟨a, xs, rfl, h1, h2⟩ := r.ref_list
    obtain rfl := h2.bls
    have hi2 : i < (wipe σ [i]).length := by
      rw [wipe_length, E.len]
      exact hl
    refine ⟨a, _, bs.map fun b => .int (bI b), rfl, hid_le _ _ h1, by rw [List.length_map, List.length_map], by rw [List.length_map]; exact hz, fun k x y H' e1 e2 => ?_, fun D hD => ?_⟩
    · rw [List.getElem?_map] at e1 e2
      cases hb : bs[k]? with
      | none => rw [hb] at e1; cases e1
      | some b =>
        rw [hb] at e1 e2
        cases e1
        cases e2
        exact ⟨.bl b, by rw [List.getElem?_set_self hi2], .inr ⟨b, rfl, rfl, rfl⟩⟩
    · refine q _ _ _ rfl (g.trans (Gr.of (same_new hD))) (.lst ((E.grow g).newV hD) ?_)
      have : (bs.map fun b => V.int (bI b)) = (bs.map bI).map V.int := by rw [List.map_map]; rfl
      rw [this, show (bs.map fun b => PyData.int (bI b)) = (bs.map bI).map PyData.int by rw [List.map_map]; rfl]
      exact atAll_ints _) z⟩
end
end DD

namespace DD
variable [Nu]
open PySem PySem.Spec PyProof.Rows L2 L2H HotX LamX
/-- the context of a def entered while p is handled; nothing is let out -/
def hotC (CX : CXT) (P : Program) (w : World) (K : PySem.W.Frag) (mg : Str → Option Value) (base : Heap) (N : List Str) (qual : Str) (scope : Scope) (f : Addr) (cdv : Value) (A : Around) (outer : List PySem.Env) (s : Shared) (H : Hp) (E : XK) (p : Addr × Obj) (k : Nat) (hr : RoomH k (A.deeper (envOfC qual scope s.heap.objs.size f cdv))) : Ct where
  X := cxH CX P w K mg base N qual scope f cdv A outer s H E p
  W := fun _ _ _ _ => False
  tk := takes0N
  O := fun a => (H a).isSome
  U := fun _ => false
  le := fun _ h => by cases h
  base := H
  lv := k
  room := hr
  hd := fun h => by cases h
theorem env_raw {C : Ct} {n : Nat} {v : V} (ho : ∀ a, C.O a = true → C.base a ≠ none) (hU : ∀ a, C.U a = false) : Env C (.raw v :: List.replicate n .no) (some v :: List.replicate n none) C.base := by
  have hg : ∀ i, gt (.raw v :: List.replicate n .no) i = .raw v ∧ i = 0 ∨ gt (.raw v :: List.replicate n .no) i = .no := fun i => by
    cases i with
    | zero => exact .inl ⟨rfl, rfl⟩
    | succ i =>
      right
      unfold gt
      rw [List.getD_cons_succ, List.getD_eq_getElem?_getD, List.getElem?_replicate]
      split <;> rfl
  refine ⟨by simp, fun i => ?_, fun a h => ?_, fun a h => ?_, Gr.refl _ _, fun i j p h1 h2 => ?_⟩
  · rcases hg i with ⟨e, rfl⟩ | e
    · rw [e]; rfl
    · rw [e]; trivial
  · rw [hU a] at h; cases h
  · exact ho a h
  · rcases hg i with ⟨e, _⟩ | e <;> rw [e] at h1 <;> cases h1
/-- x(e), e the handled exception -/
theorem pe_callP {X : Cx} {p : Addr × Obj} {x y : Str} {g : Addr} {k i : Nat} {pg : Arguments} {bg : List Stmt} {sg : Scope} {fd : FuncData} {Ng ps : List Str} {q q2 pos : Pos} {G : V → Hp → VK → Prop}
    (hot : Hot1 X.A p) (hp : p ∈ X.pn) (F : FunD X.K x x pg bg sg [] [] g fd) (hg : Gl X x) (hm : X.mg x = some (.ref g)) (hb : L2.Binds X.K fd ps []) (S : FnScope Ng ps sg) (hl : ps.length = 1) (hr : RoomH (k + 1) X.A) (hN : X.N[i]? = some y) (hv : Vis X.env.scope y)
    (body : ∀ (cdv : Value) (A : Around) (outer : List PySem.Env) (s : Shared) (H : Hp) (Q : VK) (v : V), RoomH k (A.deeper (envOfC x sg s.heap.objs.size g cdv)) → Hot1 A p → G v H Q → ∃ t, PSs (cxH C8.CX0 X.prog X.w X.K X.mg X.base Ng x sg g cdv A outer s H C8.E0 p) bg t ∧ t { nx := fun _ H' => Q .non H', rt := Q } (L2.start Ng [v]) H)
    (hdb : (x == ("__debug__" : Str)) = false := by decide) (hd : (y == ("__debug__" : Str)) = false := by decide) (hcd : (y == ("__classdict__" : Str)) = false := by decide) (he : starEach [.Name y q2] X.env = (false, eval (.Name y q2) X.env) :: starEach [] X.env := by rfl) (hpl : (backTo pos (starEach [] X.env)).any (·.1) = false := by rfl) :
    PE X (.Call (.Name x q) [.Name y q2] [] pos) (fun σ H Q => ∃ v, σ[i]? = some (some v) ∧ G v H Q) := by
  refine ⟨fun pins s σ H Q I ⟨v, hv0, hG⟩ => ?_⟩
  obtain ⟨oc, od, dV, kV, doc, pm, an, cdv, ct, osl, rfl, lk, hcd', _, _⟩ := F.ex
  refine wpAny_Call_Name_kw (ld_glob I hg hm ?_ hdb)
  have ha : PA X [.Name y q2] _ := pa_cons (pe_var hN hv hd hcd) pa_nil he
  refine PySem.W.callWith_K (h₀ := X.base) I.ok.mod.kin F.kp (thn (ha.run pos pins s σ H (fun vs H1 => vs = [v] ∧ H1 = H) I ⟨v, hv0, rfl, rfl⟩) fun us s1 ⟨vs, H1, I1, r, ev, eh⟩ => ⟨I1.kIn, ?_⟩) he hpl
  subst ev eh
  have z := I1.pin p (List.mem_append_left _ hp)
  have hpin : PinOk X.stack H1 s1 p := ⟨z.1, z.2.1, fun hm => (List.mem_cons.mp (I1.stkSub p.1 hm)).elim z.2.2.1 z.2.2.2.1, z.2.2.2.2⟩
  have hu : us.length = ps.length := by rw [← r.length, hl]; rfl
  have b := hb s1 us I1.kIn (by rw [List.append_nil]; exact hu)
  rw [List.append_nil] at b
  refine wpAny_call (codeAny_mono (run_hot (CX := C8.CX0) (E := C8.E0) (Q := Q) lk hcd' S hr hpin I1.env0 b r (by rw [hl]; rfl) fun hr' => body cdv X.A X.stack s1 H1 Q v hr' hot hG) fun r s' hq => ?_)
  cases r with
  | error e => exact (show False from hq).elim
  | ok fl =>
    cases fl with
    | ret u => exact I1.after hq
    | next => exact False.elim hq
    | brk => exact False.elim hq
    | cont => exact False.elim hq
end DD

namespace DD
variable [Nu]
open PySem PySem.Spec PyProof.Rows L2 L2H HotX LamX
/-! ## the exceptions by name -/
def xnm : List Str := ["InvalidBase", "InvalidRow", "InvalidLength", "InvalidNumber", "InvalidSteps", "InvalidPlace", "InvalidDigit", "InvalidText", "TooLarge", "TooGreat", "NothingToUndo"]
structure Exs (K : PySem.W.Frag) (mg : Str → Option Value) : Prop where
  g : ∀ x ∈ xnm, mg x = some (.ref (He.ga K x))
  c : ∀ x ∈ xnm, ExcC K (He.ga K x)
  k : ∀ x ∈ xnm, ∀ y ∈ xnm, PySem.W.kitOne K (.ref (He.ga K x)) (.ref (He.ga K y)) = some (decide (x = y))
  v : ∀ x ∈ xnm, PySem.W.kitOne K (.ref (He.ga K x)) (.type "ValueError") = some true
  m : ∀ x ∈ xnm, PySem.W.exmOne K (.ref (He.ga K x)) (.ref (He.ga K "DigitError")) = some true
def excB (K : PySem.W.Frag) (D : Addr) : Bool :=
  He.eqO (PySem.W.findIn K (.ref D) "__getattribute__") (some (some (.builtin "BaseException.__getattribute__"))) && (He.eqO (PySem.W.findIn K (.ref D) "__getattr__") (some none) && (decide (PySem.W.subIn K (.ref D) (.type "BaseException") = some true) && (PySem.W.hasDictIn K D &&
    (He.eqO (PySem.W.findIn K (.ref D) "__class__") (some (some (.builtin "object.__class__"))) && (He.eqO (PySem.W.specialIn K (.builtin "object.__class__") "__get__") (some (some (.builtin "getset_descriptor.__get__"))) && (decide (PySem.W.takesIn K (.builtin "object.__class__") = some true) && decide (PySem.W.mroIn K D (.type "object") = some true)))))))
theorem excB_ok {K : PySem.W.Frag} {D : Addr} (h : excB K D = true) : ExcC K D := by
  unfold excB at h
  obtain ⟨h1, h⟩ := He.ba h
  obtain ⟨h2, h⟩ := He.ba h
  obtain ⟨h3, h⟩ := He.ba h
  obtain ⟨h4, h⟩ := He.ba h
  obtain ⟨h5, h⟩ := He.ba h
  obtain ⟨h6, h⟩ := He.ba h
  obtain ⟨h7, h8⟩ := He.ba h
  exact ⟨He.eqO_ok h1, He.eqO_ok h2, of_decide_eq_true h3, h4, He.eqO_ok h5, He.eqO_ok h6, of_decide_eq_true h7, of_decide_eq_true h8⟩
def exB (K : PySem.W.Frag) : Bool := xnm.all fun x => excB K (He.ga K x) && (decide (PySem.W.kitOne K (.ref (He.ga K x)) (.type "ValueError") = some true) && xnm.all fun y => decide (PySem.W.kitOne K (.ref (He.ga K x)) (.ref (He.ga K y)) = some (decide (x = y))))
theorem exs_of {K : PySem.W.Frag} {mg : Str → Option Value} (h : exB K = true) (g : ∀ x ∈ xnm, mg x = some (.ref (He.ga K x))) (m : ∀ x ∈ xnm, PySem.W.exmOne K (.ref (He.ga K x)) (.ref (He.ga K "DigitError")) = some true) : Exs K mg := by
  have q : ∀ x ∈ xnm, _ := fun x hx => List.all_eq_true.mp h x hx
  exact ⟨g, fun x hx => excB_ok (He.ba (q x hx)).1, fun x hx y hy => of_decide_eq_true (List.all_eq_true.mp (He.ba (He.ba (q x hx)).2).2 y hy), fun x hx => of_decide_eq_true (He.ba (He.ba (q x hx)).2).1, m⟩
theorem xnm_ix : ∀ x ∈ xnm, ∃ j ∈ List.range 11, xnm[j]? = some x ∧ atI xnm (j : Int) = some x ∧ ∀ m ∈ List.range j, xnm[m]? ≠ some x := by decide +kernel
def flg (x : Str) : List Bool := xnm.map fun y => decide (x = y)
theorem flg_sum : ∀ x ∈ xnm, ((flg x).map bI).sum = 1 := by decide +kernel
theorem atI_map {α β : Type} {f : α → β} {l : List α} {i : Int} {a : α} (h : atI l i = some a) : atI (l.map f) i = some (f a) := by
  unfold atI at h ⊢
  rw [List.length_map]
  cases e : ixN l.length i with
  | none => rw [e] at h; cases h
  | some j =>
    rw [e] at h
    have h : l[j]? = some a := h
    show (l.map f)[j]? = _
    rw [List.getElem?_map, h]
    rfl
/-- what _law_term makes of it -/
abbrev errD (x : Str) : PyData := .tuple [.str "error", .str x]
/-- data at a new place -/
def NewAt (H H' : Hp) (v : V) (d : PyData) : Prop := At H' v d ∧ ∃ a, v = .ref a ∧ H a = none
def tTold (K : PySem.W.Frag) (P : Addr) (q : Str) (te : Hp → XK → TE) : TE := fun σ H Q => TabS H P q ∧ ∀ H1, Laid P q H H1 → te H1 (fun cls d H' => ∃ x, x ∈ xnm ∧ cls = .ref (He.ga K x) ∧ d = none ∧ ∀ v H'', Same H' H'' → NewAt H' H'' v (errD x) → Q v H'') σ H1 Q
end DD

namespace DD
variable [Nu]
open PySem L2
/-! ## dices -/
theorem cell_eq {H H' : Hp} {a b : Addr} {k : Option Str} (hd : Cell none H a) (ne : b ≠ a) (kp : ∀ c o, c ≠ a → H c = some o → H' c = some o) (h : Cell k H b) : Cell k H' b := by
  obtain ⟨x0, y0, hd⟩ := hd
  cases k with
  | none => obtain ⟨x, y, h⟩ := h; exact ⟨x, y, kp _ _ ne h⟩
  | some q =>
    obtain ⟨hq, ps, h1, h2, h3⟩ := h
    refine ⟨hq, ps, kp _ _ ne h1, h2, fun pos cv hc => ?_⟩
    obtain ⟨c, e1, e2⟩ := h3 pos cv hc
    exact ⟨c, e1, kp _ _ (fun z => by rw [z, hd] at e2; unfold LamX.CodeO at e2; cases e2) e2⟩
theorem gr_dice {U : Addr → Bool} {H H' : Hp} {a : Addr} (ha : U a = true) (hd : Cell none H a) (g : Gr (fun b => b == a) H H') : Gr U H H' := by
  have kp : ∀ c o, c ≠ a → H c = some o → H' c = some o := fun c o ne e => g.keep c o (beq_eq_false_iff_ne.mpr ne) e
  refine ⟨fun b o hu e => kp b o (fun z => by rw [z, ha] at hu; cases hu) e, fun b k hu h => ?_⟩
  by_cases z : b = a
  · subst z
    exact g.cell b k (beq_self_eq_true b) h
  · exact cell_eq hd z kp h
/-- a def that gets a dice and data -/
def spC {α : Type} (enc : α → List PyData) (Dom : α → Prop) (R : α → PyData → Prop) : Sp := fun vs H Q E => ∃ (O : Addr → Bool) (a : Addr) (x : α) (us : List V), vs = .ref a :: us ∧ O a = true ∧ (∀ b, O b = true → H b ≠ none) ∧ Cell none H a ∧ AtAll (hid O H) us (enc x) ∧ Dom x ∧
  ∀ d v H', R x d → Gr (fun b => b == a) H H' → At (hid O H') v d → Q v H'
def dicC (P : Program) (w : World) (K : PySem.W.Frag) (mg : Str → Option Value) (base : Heap) (N : List Str) (qual : Str) (scope : Scope) (f : Addr) (cdv : Value) (A : Around) (outer : List PySem.Env) (s : Shared) (H : Hp) (E : XK) (k : Nat) (hr : Room k (A.deeper (PyProof.Rows.envOfC qual scope s.heap.objs.size f cdv))) (O : Addr → Bool) (a : Addr) : Ct where
  X := cxOf (L2N.CX P w) P w K mg base N qual scope f cdv A outer s H E
  W := fun _ _ _ _ => False
  tk := takes0N
  O := fun b => O b || b == a
  U := fun b => b == a
  le := fun b h => by rw [h, Bool.or_true]
  base := H
  lv := k
  room := L2H.roomH_of hr
  hd := fun _ => hr.hd
theorem env_dice {C : Ct} {N : List Str} {a : Addr} {ds : List PyData} {us : List V} (hU : ∀ b, C.U b = true → b = a) (hd : Cell none C.base a) (h : AtAll (hid C.O C.base) us ds) (hl : ds.length + 1 ≤ N.length) (ho : ∀ b, C.O b = true → C.base b ≠ none) :
    Env C (.raw (.ref a) :: rho (N.length - 1) ds) (L2.start N (.ref a :: us)) C.base := by
  have e := h.len
  have own0 : ∀ b, owns (.raw (.ref a) :: rho (N.length - 1) ds) b = false := fun b => by
    show (((SV.raw (.ref a)).addr == some b) || owns (rho (N.length - 1) ds) b) = false
    rw [owns_rho]; rfl
  have hv : vis C (.raw (.ref a) :: rho (N.length - 1) ds) C.base = hid C.O C.base := by
    unfold vis inn
    congr 1
    funext b
    rw [own0, Bool.or_false]
  have hst : L2.start N (.ref a :: us) = some (.ref a) :: (us.map some ++ List.replicate (N.length - 1 - us.length) none) := by
    unfold L2.start
    rw [List.map_cons, List.cons_append, List.length_cons, show N.length - (us.length + 1) = N.length - 1 - us.length by omega]
  rw [hst]
  refine ⟨?_, fun i => ?_, fun b q => ?_, ho, Gr.refl _ _, fun i j p hi => ?_⟩
  · unfold rho
    simp only [List.length_cons, List.length_append, List.length_map, List.length_replicate]
    omega
  · cases i with
    | zero => rfl
    | succ i =>
      unfold gt rho
      rw [List.getD_cons_succ, List.getD_cons_succ, List.getD_eq_getElem?_getD, List.getD_eq_getElem?_getD, List.getElem?_append, List.getElem?_append]
      by_cases hi : i < ds.length
      · rw [if_pos (by rw [List.length_map]; exact hi), if_pos (by rw [List.length_map]; omega), List.getElem?_map, List.getElem?_map, List.getElem?_eq_getElem hi]
        obtain ⟨v, h1, h2⟩ := h.get (List.getElem?_eq_getElem hi)
        rw [h1]
        refine ⟨v, rfl, ?_⟩
        have h3 := h2
        rw [← hv] at h3
        exact h3
      · rw [if_neg (by rw [List.length_map]; exact hi), if_neg (by rw [List.length_map]; omega)]
        rw [List.getElem?_replicate]
        split <;> exact True.intro
  · rw [hU b q]
    exact ⟨none, hd⟩
  · exfalso
    have : owns (.raw (.ref a) :: rho (N.length - 1) ds) p = true := owns_iff.mpr ⟨i, hi⟩
    rw [own0] at this
    cases this
theorem fc_C {α : Type} {enc : α → List PyData} {P : Program} {w : World} {K : PySem.W.Frag} {mg : Str → Option Value} {base : Heap} {x : Str} {st : Stmt} {N ps : List Str} {k : Nat} {Dom : α → Prop} {R : α → PyData → Prop}
    (D : ∃ fd, FunD K x x (defArgs st) (defBody st) (defScope st) [] [] (He.ga K x) fd) (g : mg x = some (.ref (He.ga K x))) (S : FnScope N ps (defScope st)) (hn : ∀ y, (enc y).length + 1 = ps.length) (hN : ps.length ≤ N.length)
    (hb : ∀ (kV doc pm : Value) (an : Option Addr) (cdv ct : Value) (us : List Value), us.length = ps.length → bindArgs (PySem.W.fnOf x x (defArgs st) (defBody st) (defScope st) .none kV doc pm an cdv ct) ⟨us, []⟩ = pure (ps.zip us))
    (body : ∀ cdv A outer s H E hr O y a, Dom y → Cell none H a → DSs (dicC P w K mg base N x (defScope st) (He.ga K x) cdv A outer s H E k hr O a) (fun o => ∃ d, o = .rt d ∧ R y d) (.raw (.ref a) :: rho (N.length - 1) (enc y)) (defBody st)) : Fc P w K mg base x ps (k + 1) (spC enc Dom R) := by
  obtain ⟨fd, F⟩ := D
  refine ⟨_, fd, g, F.kp, FunD.bindsN F hb, F.ok (CX := L2N.CX P w) S (fun vs H Q E h => ?_) (fun cdv A outer s H vs Q E hr h => ?_)⟩
  · obtain ⟨O, a, y, us, rfl, _, _, _, ha, _⟩ := h
    rw [List.length_cons, ha.len, hn]
  · obtain ⟨O, a, y, us, rfl, hOa, ho, hc, ha, hd, hq⟩ := h
    have eO : (fun b => O b || b == a) = O := by
      funext b
      by_cases z : b = a
      · rw [z, hOa]; rfl
      · rw [beq_eq_false_iff_ne.mpr z, Bool.or_false]
    refine ⟨_, pSs, body cdv A outer s H E hr O y a hd hc _ _ H (env_dice (C := dicC P w K mg base N x (defScope st) (He.ga K x) cdv A outer s H E k hr O a) (fun b h => eq_of_beq h) hc (by rw [show (dicC P w K mg base N x (defScope st) (He.ga K x) cdv A outer s H E k hr O a).O = O from eO]; exact ha) (by rw [hn]; exact hN) (by rw [show (dicC P w K mg base N x (defScope st) (He.ga K x) cdv A outer s H E k hr O a).O = O from eO]; exact ho))
      ⟨fun ρ' σ' H' ⟨d, e, _⟩ => (by cases e), fun d v H' ⟨d', e, r⟩ gg at' => ?_, fun c σ' H' ⟨d, e, _⟩ => (by cases e), fun _ _ _ ⟨d, e, _⟩ => (by cases e), fun _ _ _ ⟨d, e, _⟩ => (by cases e)⟩⟩
    injection e with e
    subst e
    refine hq d v H' r gg ?_
    have at2 : At (hid (fun b => O b || b == a) H') v d := at'
    rw [eO] at at2
    exact at2
section
variable {α : Type} {enc : α → List PyData} {C : Ct} {Ξ : Addr → Prop} {ρ : Rho} {e e1 e2 : Expr} {es : List Expr} {pos p p1 : Pos} {P : PyData → Prop}
/-- x(dice, ..) -/
theorem de_dice (i : Nat) {x y : Str} {ps : List Str} {k : Nat} {Dom : α → Prop} {R : α → PyData → Prop} {a : Addr} (z : α) (G : Fc C.X.prog C.X.w C.X.K C.X.mg C.X.base x ps k (spC enc Dom R)) (hs0 : gt ρ i = .raw (.ref a)) (hU : C.U a = true) (hc : Cell none C.base a) (hg : Gl C.X x) (hN : C.X.N[i]? = some y) (hv : Vis C.X.env.scope y) (ha : DAd C Ξ ρ es (enc z)) (hd : Dom z) (hP : ∀ d, R z d → P d)
    (hk : k ≤ C.lv := by exact Nat.le_of_ble_eq_true rfl) (hcalm : C.X.calm = true := by rfl) (hdb : (x == ("__debug__" : Str)) = false := by decide) (hyd : (y == ("__debug__" : Str)) = false := by decide) (hyc : (y == ("__classdict__" : Str)) = false := by decide) (he : starEach (.Name y p1 :: es) C.X.env = (false, eval (.Name y p1) C.X.env) :: starEach es C.X.env := by rfl) (hpl : (backTo pos (starEach es C.X.env)).any (·.1) = false := by rfl) :
    DE C Ξ ρ (.Call (.Name x p) (.Name y p1 :: es) [] pos) P := fun σ H E Q q zz => by
  obtain ⟨f, fd, hm, kp, hb, F⟩ := G.ex
  refine ⟨_, pe_callS F ((C.room' hcalm).mono hk) hg hm kp hb (fun σ => L2N.passAt C.tk σ) (pa_cons (pe_var hN hv hyd hyc) pA he) hdb he hpl, _, raw_at E hs0, ha σ H E _ (fun l vs H2 pl g r => ?_) zz⟩
  subst pl
  have E2 := E.grow g
  have hc2 : Cell none H2 a := E2.gr.cell a none hU hc
  refine ⟨inn C ρ, a, z, vs, rfl, by unfold inn; rw [C.le a hU]; rfl, E2.out, hc2, r.ats, hd, fun d v H' hr gg ra => q d v H' (hP d hr) (g.trans (gr_dice hU hc2 gg)) ra⟩
end
end DD

namespace DD
variable [Nu]
open PySem L2
/-! ## shapes and equality of rows -/
theorem lay_iv : ∀ ns : List Int, PyData.canLayAll0 (iv ns) = true ∧ PyData.depthAll (iv ns) = 0
  | [] => ⟨by simp [iv, PyData.canLayAll0], by simp [iv, PyData.depthAll]⟩
  | n :: ns => by
    obtain ⟨h1, h2⟩ := lay_iv ns
    have e : iv (n :: ns) = .int n :: iv ns := rfl
    rw [e]
    simp [PyData.canLayAll0, PyData.depthAll, PyData.canLay0, PyData.depth, h1, h2]
theorem shT (ns : List Int) : SeqAt.shaped (tI ns) = true := by
  unfold SeqAt.shaped
  simp [PyData.canLay0, PyData.depth, (lay_iv ns).1, (lay_iv ns).2]
theorem shL (ns : List Int) : SeqAt.shaped (lI ns) = true := by
  unfold SeqAt.shaped
  simp [PyData.canLay0, PyData.depth, (lay_iv ns).1, (lay_iv ns).2]
theorem shI (n : Int) : SeqAt.shaped (.int n) = true := rfl
theorem eqv_iv : ∀ a b : List Int, PyData.eqvAll (iv a) (iv b) = decide (a = b)
  | [], [] => by simp [iv, PyData.eqvAll]
  | [], y :: b => by simp [iv, PyData.eqvAll]
  | x :: a, [] => by simp [iv, PyData.eqvAll]
  | x :: a, y :: b => by
    have h := eqv_iv a b
    have e : PyData.eqvAll (iv (x :: a)) (iv (y :: b)) = (PyData.eqv (.int x) (.int y) && PyData.eqvAll (iv a) (iv b)) := by
      show PyData.eqvAll (.int x :: iv a) (.int y :: iv b) = _
      rw [PyData.eqvAll]
    rw [e, h]
    have e2 : PyData.eqv (.int x) (.int y) = decide (x = y) := by rw [PyData.eqv]; rfl
    rw [e2]
    by_cases h1 : x = y <;> by_cases h2 : a = b <;> simp [h1, h2]
theorem eqvT (a b : List Int) : PyData.eqv (tI a) (tI b) = decide (a = b) := by rw [PyData.eqv]; exact eqv_iv a b
theorem eqvL (a b : List Int) : PyData.eqv (lI a) (lI b) = decide (a = b) := by rw [PyData.eqv]; exact eqv_iv a b
theorem eqvI (a b : Int) : PyData.eqv (.int a) (.int b) = decide (a = b) := by rw [PyData.eqv]; rfl
section
variable {C : Ct} {Ξ : Addr → Prop} {ρ : Rho} {a b e : Expr} {pos p : Pos}
theorem dt_neT {x y : List Int} (ha : DEd C Ξ ρ a (tI x)) (hb : DEd C Ξ ρ b (tI y)) (hm : behindInMarks .NotEq b = false := by rfl) : DTd C Ξ ρ (.Compare a [.NotEq] [b] pos) (!decide (x = y)) :=
  DT.to (dt_cmp (op_neD (by have := C.un; omega)) hm ha hb (rb_ne (shT x) (shT y))) (by rw [eqvT])
theorem dt_eqT {x y : List Int} (ha : DEd C Ξ ρ a (tI x)) (hb : DEd C Ξ ρ b (tI y)) (hm : behindInMarks .Eq b = false := by rfl) : DTd C Ξ ρ (.Compare a [.Eq] [b] pos) (decide (x = y)) :=
  DT.to (dt_cmp (op_eqD (by have := C.un; omega)) hm ha hb (rb_eq (shT x) (shT y))) (by rw [eqvT])
theorem de_eqT {x y : List Int} (ha : DEd C Ξ ρ a (tI x)) (hb : DEd C Ξ ρ b (tI y)) (hm : behindInMarks .Eq b = false := by rfl) : DEd C Ξ ρ (.Compare a [.Eq] [b] pos) (.bool (decide (x = y))) :=
  DE.to (de_cmp (op_eqD (by have := C.un; omega)) hm ha hb (rb_eq (shT x) (shT y))) (by rw [eqvT])
theorem dt_neI {x y : Int} (ha : DEd C Ξ ρ a (.int x)) (hb : DEd C Ξ ρ b (.int y)) (hm : behindInMarks .NotEq b = false := by rfl) : DTd C Ξ ρ (.Compare a [.NotEq] [b] pos) (!decide (x = y)) :=
  DT.to (dt_cmp (op_neD (by have := C.un; omega)) hm ha hb (rb_ne (shI x) (shI y))) (by rw [eqvI])
theorem dt_eqI {x y : Int} (ha : DEd C Ξ ρ a (.int x)) (hb : DEd C Ξ ρ b (.int y)) (hm : behindInMarks .Eq b = false := by rfl) : DTd C Ξ ρ (.Compare a [.Eq] [b] pos) (decide (x = y)) :=
  DT.to (dt_cmp (op_eqD (by have := C.un; omega)) hm ha hb (rb_eq (shI x) (shI y))) (by rw [eqvI])
theorem de_eqI {x y : Int} (ha : DEd C Ξ ρ a (.int x)) (hb : DEd C Ξ ρ b (.int y)) (hm : behindInMarks .Eq b = false := by rfl) : DEd C Ξ ρ (.Compare a [.Eq] [b] pos) (.bool (decide (x = y))) :=
  DE.to (de_cmp (op_eqD (by have := C.un; omega)) hm ha hb (rb_eq (shI x) (shI y))) (by rw [eqvI])
theorem dt_neD {x y : PyData} (hx : SeqAt.shaped x = true) (hy : SeqAt.shaped y = true) (ha : DEd C Ξ ρ a x) (hb : DEd C Ξ ρ b y) (hm : behindInMarks .NotEq b = false := by rfl) : DTd C Ξ ρ (.Compare a [.NotEq] [b] pos) (!PyData.eqv x y) :=
  dt_cmp (op_neD (by have := C.un; omega)) hm ha hb (rb_ne hx hy)
theorem dt_eqD {x y : PyData} (hx : SeqAt.shaped x = true) (hy : SeqAt.shaped y = true) (ha : DEd C Ξ ρ a x) (hb : DEd C Ξ ρ b y) (hm : behindInMarks .Eq b = false := by rfl) : DTd C Ξ ρ (.Compare a [.Eq] [b] pos) (PyData.eqv x y) :=
  dt_cmp (op_eqD (by have := C.un; omega)) hm ha hb (rb_eq hx hy)
/-! ## the dice's two numbers -/
theorem di_cell (i : Nat) {y : Str} {j : Int} {q : Addr} (h0 : 0 ≤ j) (h1 : j ≤ 1) (hs0 : gt ρ i = .raw (.ref q)) (hU : C.U q = true) (hc : Cell none C.base q) (hN : C.X.N[i]? = some y) (hv : Vis C.X.env.scope y) (hb : DEd C Ξ ρ b (.int j)) (hd : (y == ("__debug__" : Str)) = false := by decide) (hcd : (y == ("__classdict__" : Str)) = false := by decide) (hs : PlainIx b := by intro _ _; rfl) : DI C Ξ ρ (.Subscript (.Name y p) b pos) (fun _ => True) := fun σ H E Q k z =>
  ⟨_, pe_ix ix_seq (pe_var hN hv hd hcd) pE hs, _, raw_at E hs0, hb σ H E _ (fun d u H2 pd g r => by
    subst pd
    rw [r.int_inv]
    obtain ⟨x, y', hq⟩ := (E.grow g).gr.cell q none hU hc
    refine .inl ⟨q, [.int x, .int y'], j, .int (if j = 0 then x else y'), rfl, rfl, SqL.of hq, ?_, k _ _ H2 ⟨_, rfl, trivial⟩ g (.int _)⟩
    by_cases hj : j = 0
    · subst hj; rfl
    · have : j = 1 := by omega
      subst this; rfl) z⟩
theorem ds_cell (i : Nat) {F : Out → Prop} {y : Str} {j : Int} {q : Addr} {k : Nat} {ip sp : Pos} (h0 : 0 ≤ j) (h1 : j ≤ 1) (hs0 : gt ρ i = .raw (.ref q)) (hU : C.U q = true) (hc : Cell none C.base q) (hN : C.X.N[i]? = some y) (hv : Vis C.X.env.scope y) (he : DI C (xi F) ρ e fun _ => True) (kk : F (.nx ρ)) (hd : (y == ("__debug__" : Str)) = false := by decide) (hcd : (y == ("__classdict__" : Str)) = false := by decide)
    (ha : ∀ v, assign (.Subscript (.Name y p) (.Constant (.int j) k ip) sp) C.X.env v = (do
      let ov ← holding [v] (eval (.Name y p) C.X.env)
      let iv ← holding [v, ov] (eval (.Constant (.int j) k ip) C.X.env)
      standAt sp
      holding [v, ov, iv] (setItem ov iv v)
      release [v, ov, iv] []) := by intro _; rfl) (hs : swapsWithSole [.Subscript (.Name y p) (.Constant (.int j) k ip) sp] e pos.line C.X.env = pure false := by rfl) (hw : swappedStores [.Subscript (.Name y p) (.Constant (.int j) k ip) sp] e C.X.env = pure none := by rfl)
    (hx1 : (assignEach [.Subscript (.Name y p) (.Constant (.int j) k ip) sp] C.X.env).map (·.2) = [assign (.Subscript (.Name y p) (.Constant (.int j) k ip) sp) C.X.env] := by rfl) : DS C F ρ (.Assign [.Subscript (.Name y p) (.Constant (.int j) k ip) sp] e pos) := fun D σ H E q0 =>
  ⟨_, ps_asg pE (pg_sub (pe_var hN hv hd hcd) pe_int set_list ha) hs hw hx1, he σ H E _ (fun d v H2 pd g r => by
    obtain ⟨m, rfl, _⟩ := pd
    rw [r.int_inv]
    have E2 := E.grow g
    have hc2 := E2.gr.cell q none hU hc
    obtain ⟨x, y', hq⟩ := id hc2
    have gg : Gr C.U H2 (upd H2 q (.lst ([.int x, .int y'].set j.toNat (.int m)))) := gr_dice hU hc2 ⟨fun b o hb eb => by
      have ne : b ≠ q := beq_eq_false_iff_ne.mp hb
      rw [upd_ne ne]; exact eb, fun b kk hb hk => by
      obtain rfl := eq_of_beq hb
      cases kk with
      | none =>
        by_cases hj : j = 0
        · subst hj; exact ⟨m, y', upd_same⟩
        · have : j = 1 := by omega
          subst this; exact ⟨x, m, upd_same⟩
      | some s =>
        obtain ⟨_, ps, h, _⟩ := hk
        rw [hq] at h
        cases h⟩
    refine ⟨_, raw_at E hs0, q, [.int x, .int y'], j, j.toNat, rfl, rfl, hq, ?_, q0.nx ρ σ _ kk (E2.grow gg) (vis_gr (g.trans gg))⟩
    by_cases hj : j = 0
    · subst hj; rfl
    · have : j = 1 := by omega
      subst this; rfl) (q0.exE E)⟩
/-! ## the script -/
theorem sql_keep {K : PySem.W.Frag} {U : Addr → Bool} {H H' : Hp} {q : Addr} {xs : List V} (g : Gr U H H') (hu : U q = false) (h : SqL K H q xs) : SqL K H' q xs := by
  rcases h with (h | ⟨o, h⟩) | h
  · exact .inl (.inl (g.keep _ _ hu h))
  · exact .inl (.inr ⟨o, g.keep _ _ hu h⟩)
  · exact .inr h
theorem dpAll_iv {K : PySem.W.Frag} {H : Hp} (ns : List Int) : DpAll K H (ns.map V.int) (iv ns) := AtAll.dp' K _ _ (nods_lay _ (lay_iv ns).1) (atAll_ints ns)
theorem de_nilS (i : Nat) {y : Str} {q : Addr} {ns : List Int} {p2 : Pos} (hs0 : gt ρ i = .raw (.ref q)) (hU : C.U q = false) (hq : SqL C.X.K C.base q (ns.map V.int)) (hN : C.X.N[i]? = some y) (hv : Vis C.X.env.scope y) (hd : (y == ("__debug__" : Str)) = false := by decide) (hcd : (y == ("__classdict__" : Str)) = false := by decide) : DTd C Ξ ρ (.Compare (.Name y p) [.Eq] [.List [] p2] pos) (decide (ns = [])) := fun σ H E Q k z =>
  ⟨_, pt_cmpR (op_eqD (by have := C.un; omega)) (pe_var hN hv hd hcd) pE rfl, _, raw_at E hs0, de_lst (Ξ := none') da_nil (by decide) σ H E _ (fun d u H2 pd g r => by
    subst pd
    refine ⟨lI ns, .list [], .lst (sql_keep (E.gr.trans g) hU hq) (dpAll_iv ns), Ct.dpv (shL []) r, shL ns, shL [], decide (ns = []), ?_, k _ H2 rfl g⟩
    rw [show PyData.list [] = lI [] from rfl, eqvL]) (fun _ _ f _ => f.elim)⟩
theorem de_lenScr (i : Nat) {y : Str} {q : Addr} {ns : List Int} {p2 : Pos} (hs0 : gt ρ i = .raw (.ref q)) (hU : C.U q = false) (hq : SqL C.X.K C.base q (ns.map V.int)) (hN : C.X.N[i]? = some y) (hv : Vis C.X.env.scope y) (hg : Gl C.X "len") (hm : C.X.mg "len" = none) (hd : (y == ("__debug__" : Str)) = false := by decide) (hcd : (y == ("__classdict__" : Str)) = false := by decide)
    (he : starEach [.Name y p2] C.X.env = (false, eval (.Name y p2) C.X.env) :: starEach [] C.X.env := by rfl) (hpl : (backTo pos (starEach [] C.X.env)).any (·.1) = false := by rfl) : DEd C Ξ ρ (.Call (.Name "len" p) [.Name y p2] [] pos) (.int ns.length) := fun σ H E Q k z =>
  ⟨_, pe_callB call_len hg hm b_len (pa_cons (pe_var hN hv hd hcd) pa_nil he) (by decide) (by decide) he hpl, _, raw_at E hs0, .ref q, (ns.map V.int).length, rfl, .inl ⟨_, sql_keep E.gr hU hq, rfl⟩, by rw [List.length_map]; exact k _ _ H rfl (Gr.refl _ _) (.int _)⟩
theorem de_ixScr (i : Nat) {y : Str} {q : Addr} {ns : List Int} {j n : Int} (hj : atI ns j = some n) (hs0 : gt ρ i = .raw (.ref q)) (hU : C.U q = false) (hq : SqL C.X.K C.base q (ns.map V.int)) (hN : C.X.N[i]? = some y) (hv : Vis C.X.env.scope y) (hb : DEd C Ξ ρ b (.int j)) (hd : (y == ("__debug__" : Str)) = false := by decide) (hcd : (y == ("__classdict__" : Str)) = false := by decide) (hs : PlainIx b := by intro _ _; rfl) : DEd C Ξ ρ (.Subscript (.Name y p) b pos) (.int n) := fun σ H E Q k z =>
  ⟨_, pe_ix ix_seq (pe_var hN hv hd hcd) pE hs, _, raw_at E hs0, hb σ H E _ (fun d u H2 pd g r => by
    subst pd
    rw [r.int_inv]
    exact .inl ⟨q, ns.map V.int, j, .int n, rfl, rfl, sql_keep (E.gr.trans g) hU hq, atI_map hj, k _ _ H2 rfl g (.int n)⟩) z⟩
end
/-- a def that gets the script and data -/
def spS {α : Type} (enc : α → List PyData) (Dom : List Int → α → Prop) (R : α → PyData → Prop) (K : PySem.W.Frag) : Sp := fun vs H Q E => ∃ (O : Addr → Bool) (a : Addr) (ns : List Int) (x : α) (us : List V), vs = .ref a :: us ∧ SqL K H a (ns.map V.int) ∧ (∀ b, O b = true → H b ≠ none) ∧ AtAll (hid O H) us (enc x) ∧ Dom ns x ∧
  ∀ d v H', R x d → Same H H' → At (hid O H') v d → Q v H'
def scrC (P : Program) (w : World) (K : PySem.W.Frag) (mg : Str → Option Value) (base : Heap) (N : List Str) (qual : Str) (scope : Scope) (f : Addr) (cdv : Value) (A : Around) (outer : List PySem.Env) (s : Shared) (H : Hp) (E : XK) (k : Nat) (hr : Room k (A.deeper (PyProof.Rows.envOfC qual scope s.heap.objs.size f cdv))) (O : Addr → Bool) : Ct where
  X := cxOf (L2N.CX P w) P w K mg base N qual scope f cdv A outer s H E
  W := fun _ _ _ _ => False
  tk := takes0N
  O := O
  U := fun _ => false
  le := fun b h => by cases h
  base := H
  lv := k
  room := L2H.roomH_of hr
  hd := fun _ => hr.hd
theorem env_scr {C : Ct} {N : List Str} {a : Addr} {ds : List PyData} {us : List V} (hU : ∀ b, C.U b = false) (h : AtAll (hid C.O C.base) us ds) (hl : ds.length + 1 ≤ N.length) (ho : ∀ b, C.O b = true → C.base b ≠ none) :
    Env C (.raw (.ref a) :: rho (N.length - 1) ds) (L2.start N (.ref a :: us)) C.base := by
  have e := h.len
  have own0 : ∀ b, owns (.raw (.ref a) :: rho (N.length - 1) ds) b = false := fun b => by
    show (((SV.raw (.ref a)).addr == some b) || owns (rho (N.length - 1) ds) b) = false
    rw [owns_rho]; rfl
  have hv : vis C (.raw (.ref a) :: rho (N.length - 1) ds) C.base = hid C.O C.base := by
    unfold vis inn
    congr 1
    funext b
    rw [own0, Bool.or_false]
  have hst : L2.start N (.ref a :: us) = some (.ref a) :: (us.map some ++ List.replicate (N.length - 1 - us.length) none) := by
    unfold L2.start
    rw [List.map_cons, List.cons_append, List.length_cons, show N.length - (us.length + 1) = N.length - 1 - us.length by omega]
  rw [hst]
  refine ⟨?_, fun i => ?_, fun b q => (by rw [hU] at q; cases q), ho, Gr.refl _ _, fun i j p hi => ?_⟩
  · unfold rho
    simp only [List.length_cons, List.length_append, List.length_map, List.length_replicate]
    omega
  · cases i with
    | zero => rfl
    | succ i =>
      unfold gt rho
      rw [List.getD_cons_succ, List.getD_cons_succ, List.getD_eq_getElem?_getD, List.getD_eq_getElem?_getD, List.getElem?_append, List.getElem?_append]
      by_cases hi : i < ds.length
      · rw [if_pos (by rw [List.length_map]; exact hi), if_pos (by rw [List.length_map]; omega), List.getElem?_map, List.getElem?_map, List.getElem?_eq_getElem hi]
        obtain ⟨v, h1, h2⟩ := h.get (List.getElem?_eq_getElem hi)
        rw [h1]
        refine ⟨v, rfl, ?_⟩
        have h3 := h2
        rw [← hv] at h3
        exact h3
      · rw [if_neg (by rw [List.length_map]; exact hi), if_neg (by rw [List.length_map]; omega)]
        rw [List.getElem?_replicate]
        split <;> exact True.intro
  · exfalso
    have : owns (.raw (.ref a) :: rho (N.length - 1) ds) p = true := owns_iff.mpr ⟨i, hi⟩
    rw [own0] at this
    cases this
theorem fc_S {α : Type} {enc : α → List PyData} {P : Program} {w : World} {K : PySem.W.Frag} {mg : Str → Option Value} {base : Heap} {x : Str} {st : Stmt} {N ps : List Str} {k : Nat} {Dom : List Int → α → Prop} {R : α → PyData → Prop}
    (D : ∃ fd, FunD K x x (defArgs st) (defBody st) (defScope st) [] [] (He.ga K x) fd) (g : mg x = some (.ref (He.ga K x))) (S : FnScope N ps (defScope st)) (hn : ∀ y, (enc y).length + 1 = ps.length) (hN : ps.length ≤ N.length)
    (hb : ∀ (kV doc pm : Value) (an : Option Addr) (cdv ct : Value) (us : List Value), us.length = ps.length → bindArgs (PySem.W.fnOf x x (defArgs st) (defBody st) (defScope st) .none kV doc pm an cdv ct) ⟨us, []⟩ = pure (ps.zip us))
    (body : ∀ cdv A outer s H E hr O y a ns, Dom ns y → SqL K H a (ns.map V.int) → DSs (scrC P w K mg base N x (defScope st) (He.ga K x) cdv A outer s H E k hr O) (fun o => ∃ d, o = .rt d ∧ R y d) (.raw (.ref a) :: rho (N.length - 1) (enc y)) (defBody st)) : Fc P w K mg base x ps (k + 1) (spS enc Dom R K) := by
  obtain ⟨fd, F⟩ := D
  refine ⟨_, fd, g, F.kp, FunD.bindsN F hb, F.ok (CX := L2N.CX P w) S (fun vs H Q E h => ?_) (fun cdv A outer s H vs Q E hr h => ?_)⟩
  · obtain ⟨O, a, ns, y, us, rfl, _, _, ha, _⟩ := h
    rw [List.length_cons, ha.len, hn]
  · obtain ⟨O, a, ns, y, us, rfl, hs, ho, ha, hd, hq⟩ := h
    refine ⟨_, pSs, body cdv A outer s H E hr O y a ns hd hs _ _ H (env_scr (C := scrC P w K mg base N x (defScope st) (He.ga K x) cdv A outer s H E k hr O) (fun b => rfl) ha (by rw [hn]; exact hN) ho)
      ⟨fun ρ' σ' H' ⟨d, e, _⟩ => (by cases e), fun d v H' ⟨d', e, r⟩ gg at' => ?_, fun c σ' H' ⟨d, e, _⟩ => (by cases e), fun _ _ _ ⟨d, e, _⟩ => (by cases e), fun _ _ _ ⟨d, e, _⟩ => (by cases e)⟩⟩
    injection e with e
    subst e
    exact hq d v H' r gg.same at'
section
variable {α : Type} {enc : α → List PyData} {C : Ct} {Ξ : Addr → Prop} {ρ : Rho} {es : List Expr} {pos p p1 : Pos} {P : PyData → Prop}
theorem de_scr (i : Nat) {x y : Str} {ps : List Str} {k : Nat} {Dom : List Int → α → Prop} {R : α → PyData → Prop} {a : Addr} {ns : List Int} (z : α) (G : Fc C.X.prog C.X.w C.X.K C.X.mg C.X.base x ps k (spS enc Dom R C.X.K)) (hs0 : gt ρ i = .raw (.ref a)) (hU : C.U a = false) (hq : SqL C.X.K C.base a (ns.map V.int)) (hg : Gl C.X x) (hN : C.X.N[i]? = some y) (hv : Vis C.X.env.scope y) (ha : DAd C Ξ ρ es (enc z)) (hd : Dom ns z) (hP : ∀ d, R z d → P d)
    (hk : k ≤ C.lv := by exact Nat.le_of_ble_eq_true rfl) (hcalm : C.X.calm = true := by rfl) (hdb : (x == ("__debug__" : Str)) = false := by decide) (hyd : (y == ("__debug__" : Str)) = false := by decide) (hyc : (y == ("__classdict__" : Str)) = false := by decide) (he : starEach (.Name y p1 :: es) C.X.env = (false, eval (.Name y p1) C.X.env) :: starEach es C.X.env := by rfl) (hpl : (backTo pos (starEach es C.X.env)).any (·.1) = false := by rfl) :
    DE C Ξ ρ (.Call (.Name x p) (.Name y p1 :: es) [] pos) P := fun σ H E Q q zz => by
  obtain ⟨f, fd, hm, kp, hb, F⟩ := G.ex
  refine ⟨_, pe_callS F ((C.room' hcalm).mono hk) hg hm kp hb (fun σ => L2N.passAt C.tk σ) (pa_cons (pe_var hN hv hyd hyc) pA he) hdb he hpl, _, raw_at E hs0, ha σ H E _ (fun l vs H2 pl g r => ?_) zz⟩
  subst pl
  exact ⟨inn C ρ, a, ns, z, vs, rfl, sql_keep (E.gr.trans g) hU hq, (E.grow g).out, r.ats, hd, fun d v H' hr ss ra => q d v H' (hP d hr) (g.trans (Gr.of ss)) ra⟩
end
end DD
namespace DD
variable [Nu]
open PySem L2
section
variable {C : Ct} {Ξ : Addr → Prop} {ρ : Rho} {a b e e2 : Expr} {pos p : Pos}
theorem di_div {A : Int → Prop} {j : Int} (ha : DI C Ξ ρ a A) (hb : DEd C Ξ ρ b (.int j)) (h : CDivW 0 j) : DI C Ξ ρ (.BinOp a .FloorDiv b pos) (fun _ => True) :=
  (de_op2 (P := fun d => ∃ i, d = .int i) op_fdivW ha hb fun x y ⟨i, e, _⟩ e' => by
    subst e; subst e'
    intro A' ρ' σ H v u Q E r1 r2 k
    exact rd_int (C' := fun i j => CDivW i j) (g := fun i j => i / j) (i := i) (j := j) h A' ρ' σ H v u Q E r1 r2 fun d w H2 pd => k d w H2 ⟨_, pd⟩).imp fun d ⟨i, e⟩ => ⟨i, e, trivial⟩
/-- x(a, b) of two numbers that are not wholly known, its result a number -/
theorem di_call2 {x : Str} {ps : List Str} {k : Nat} {Dom : Int × Int → Prop} (G : Fc C.X.prog C.X.w C.X.K C.X.mg C.X.base x ps k (spX (fun z : Int × Int => [.int z.1, .int z.2]) Dom (fun _ o => ∃ i : Int, o = .rt (.int i)))) (hk : k ≤ C.lv) (hg : Gl C.X x) {A B : Int → Prop} (ha : DI C Ξ ρ a A) (hb : DI C Ξ ρ b B) (hd : ∀ i j, Dom (i, j))
    (hcalm : C.X.calm = true := by rfl) (hdb : (x == ("__debug__" : Str)) = false := by decide) (he : starEach [a, b] C.X.env = (false, eval a C.X.env) :: starEach [b] C.X.env := by rfl) (he2 : starEach [b] C.X.env = (false, eval b C.X.env) :: starEach [] C.X.env := by rfl) (hpl : (backTo pos (starEach [b] C.X.env)).any (·.1) = false := by rfl) :
    DI C Ξ ρ (.Call (.Name x p) [a, b] [] pos) (fun _ => True) := fun σ H E Q q z => by
  obtain ⟨f, fd, hm, kp, hbn, F⟩ := G.ex
  refine ⟨_, pe_callS F ((C.room' hcalm).mono hk) hg hm kp hbn (fun σ => L2N.passAt C.tk σ) (pa_cons pE (pa_cons pE pa_nil he2) he) hdb he hpl, ha σ H E _ (fun d1 v1 H1 ⟨i, e1, _⟩ g1 r1 => hb σ H1 (E.grow g1) _ (fun d2 v2 H2 ⟨j, e3, _⟩ g2 r2 => ?_) fun c H' x g => z c H' x (g1.trans g)) z⟩
  subst e1; subst e3
  exact ⟨inn C ρ, (i, j), ((E.grow g1).grow g2).out, .cons (r1.up (vis_gr g2)) (.cons r2 .nil), hd i j, fun d v H' ⟨n, e⟩ ss ra => (by injection e with e; exact q d v H' ⟨n, e, trivial⟩ ((g1.trans g2).trans (Gr.of ss)) ra), fun c H' ⟨n, e⟩ _ => (by cases e)⟩
end
end DD
namespace DD
variable [Nu]
open PySem L2
/-- tuple(xs) of a list that is not wholly known -/
theorem de_tupleLG {C : Ct} {Ξ : Addr → Prop} {ρ : Rho} {e : Expr} {pos p : Pos} {P : List PyData → Prop} (hg : Gl C.X "tuple") (hm : C.X.mg "tuple" = none) (ha : DE C Ξ ρ e (fun d => ∃ ds, d = .list ds ∧ P ds)) (he : starEach [e] C.X.env = (false, eval e C.X.env) :: starEach [] C.X.env := by rfl) (hpl : (backTo pos (starEach [] C.X.env)).any (·.1) = false := by rfl) :
    DE C Ξ ρ (.Call (.Name "tuple" p) [e] [] pos) (fun d => ∃ ds, d = .tuple ds ∧ P ds) := fun σ H E Q q z =>
  ⟨_, pe_callTy call_tuple_of hg hm b_tuple (pa_cons pE pa_nil he) (by decide) (by decide) he hpl, ha σ H E _ (fun d v H2 ⟨ds, ed, pd⟩ g r => by
    subst ed
    exact rc_tupleL C ρ σ H2 [v] Q (E.grow g) (.cons r .nil) fun d w H3 e s rw' => q d w H3 ⟨ds, e, pd⟩ (g.trans (Gr.of s)) rw') z⟩
end DD

namespace DD
variable [Nu]
open PySem L2
def forBody : List Stmt → List Stmt
  | [.For _ _ body _ _, _] => body
  | _ => []
def dcD (c : Int) : PyData := .list [.int c, .int 0]
def lawC (P : Program) (w : World) (K : PySem.W.Frag) (mg : Str → Option Value) (base : Heap) (N : List Str) (scope : Scope) (f : Addr) (cdv : Value) (A : Around) (outer : List PySem.Env) (s : Shared) (H : Hp) (E : XK) (k : Nat) (hr : Room k (A.deeper (PyProof.Rows.envOfC "law" scope s.heap.objs.size f cdv))) (U : Addr → Bool) (H1 : Hp) : Ct where
  X := cxOf (L2N.CX P w) P w K mg base N "law" scope f cdv A outer s H E
  W := fun _ _ _ _ => False
  tk := takes0N
  O := U
  U := U
  le := fun b h => h
  base := H1
  lv := k
  room := L2H.roomH_of hr
  hd := fun _ => hr.hd
theorem env_turn {C : Ct} {n : Nat} {σ : L2.St} {x : V} {H : Hp} (hl : σ.length = n + 2) (hO : C.O = C.U) (hc : ∀ b, C.U b = true → ∃ k, Cell k H b) (g : Gr C.U C.base H) : Env C (.no :: .raw x :: List.replicate n .no) (σ.set 1 (some x)) H := by
  have hg : ∀ i, gt (.no :: .raw x :: List.replicate n .no) i = .raw x ∧ i = 1 ∨ gt (.no :: .raw x :: List.replicate n .no) i = .no := fun i => by
    rcases i with _ | _ | i
    · exact .inr rfl
    · exact .inl ⟨rfl, rfl⟩
    · right
      unfold gt
      rw [List.getD_cons_succ, List.getD_cons_succ, List.getD_eq_getElem?_getD, List.getElem?_replicate]
      split <;> rfl
  refine ⟨by rw [List.length_set, hl]; simp, fun i => ?_, hc, fun b hb => ?_, g, fun i j p h1 h2 => ?_⟩
  · rcases hg i with ⟨e, rfl⟩ | e
    · rw [e]
      show (σ.set 1 (some x)).getD 1 none = some x
      rw [List.getD_eq_getElem?_getD, List.getElem?_set_self (by omega)]
      rfl
    · rw [e]; trivial
  · rw [hO] at hb
    obtain ⟨k, hk⟩ := hc b hb
    exact hk.there
  · rcases hg i with ⟨e, _⟩ | e <;> rw [e] at h1 <;> cases h1
def lamQ2 : Str := "_law_done.<locals>." ++ "<lambda>"
def lawSp (K : PySem.W.Frag) (Pt Pt2 : Addr) : Sp := fun vs H Q _ => ∃ (a : Addr) (ns : List Int), vs = [.ref a] ∧ SqL K H a (ns.map V.int) ∧ ns.length ≤ 100 ∧ H Pt = some (.tbl #[]) ∧ H Pt2 = some (.tbl #[]) ∧ ∀ H', Q (.bl true) H'
theorem law_run {P : Program} {w : World} {K : PySem.W.Frag} {mg : Str → Option Value} {base : Heap} {st : Stmt} {N : List Str} {k n : Nat} {f Pt Pt2 : Addr} {body : List Stmt} {m : Int} {pd pr ps pm pc pf pt pe : Pos} {jm jt : Nat}
    {dV kV doc pm' cdv ct oc : Value} {an od : Option Addr} {osl : Array (Option Value)}
    (lk : K.lookup f = some ⟨oc, od, .func (PySem.W.fnOf "law" "law" (defArgs st) (defBody st) (defScope st) dV kV doc pm' an cdv ct), osl⟩) (hcd : PySem.W.codeIn K cdv "law" = true) (S : FnScope N ["_law_script"] (defScope st))
    (hbd : defBody st = [.For (.Name "_law_dice" pd) (.Call (.Name "_law_rounds" pr) [.Name "_law_script" ps, .Constant (.int m) jm pm] [] pc) body [] pf, .Return (some (.Constant (.bool true) jt pt)) pe])
    (hN0 : N[0]? = some ("_law_script" : Str)) (hN1 : N[1]? = some ("_law_dice" : Str)) (hn : N.length = n + 2) (hs : (defScope st).names.lookup ("_law_script" : Str) = some .local) (hdl : Loc (defScope st) "_law_dice") (hrg : (defScope st).names.lookup ("_law_rounds" : Str) = some .globalImplicit) (hm : 1 ≤ m ∧ m ≤ 100) (hk : 2 ≤ k)
    (G : Fc P w K mg base "_law_rounds" ["_law_script", "_law_most"] 2 (spS (α := Int) (fun m => [.int m]) (fun ns m => ns.length ≤ 100 ∧ 1 ≤ m ∧ m ≤ 100) (fun _ d => ∃ cs : List Int, d = .list (cs.map dcD)) K))
    (hν : Nu.nu Pt = lamQ) (hν2 : Nu.nu Pt2 = lamQ2)
    (turn : ∀ A outer s H E hr U H1 a, U a = true → Cell none H1 a → U Pt = true → Cell (some lamQ) H1 Pt → U Pt2 = true → Cell (some lamQ2) H1 Pt2 →
      DSs (lawC P w K mg base N (defScope st) f cdv A outer s H E k hr U H1) (turnF (fun ρ => ρ.length = N.length) fun _ => False) (.no :: .raw (.ref a) :: List.replicate n .no) body) :
    FnOk P w K mg base (L2N.CX P w) (k + 1) f (PySem.W.fnOf "law" "law" (defArgs st) (defBody st) (defScope st) dV kV doc pm' an cdv ct) ["_law_script"] (lawSp K Pt Pt2) := by
  refine fn_of lk hcd S (fun vs H Q E ⟨a, ns, e, _⟩ => by rw [e]; rfl) fun A outer s H vs Q E hr ⟨a, ns, ev, hq, hlen, hP, hP2, hQ⟩ => ?_
  subst ev
  rw [hbd]
  refine ⟨_, pss_cons (ps_for (passes_of rfl) rfl (pi_list pE) (pg_name S.nd hN1 hdl (.inl rfl)) pSs (fun _ => rfl)) (pss_one (ps_ret pe_bl)), ?_⟩
  have E0 : Env (scrC P w K mg base N "law" (defScope st) f cdv A outer s H E k hr fun _ => false) (.raw (.ref a) :: rho (N.length - 1) []) (L2.start N [.ref a]) H :=
    env_scr (C := scrC P w K mg base N "law" (defScope st) f cdv A outer s H E k hr fun _ => false) (ds := []) (us := []) (fun _ => rfl) .nil (by rw [hn]; show 1 ≤ _; omega) (fun b h => by cases h)
  have call := de_scr (C := scrC P w K mg base N "law" (defScope st) f cdv A outer s H E k hr fun _ => false) (Ξ := none') (ρ := .raw (.ref a) :: rho (N.length - 1) []) (pos := pc) (p := pr) (p1 := ps) (es := [.Constant (.int m) jm pm]) (P := fun d => ∃ cs : List Int, d = .list (cs.map dcD)) 0 (y := "_law_script") m G rfl rfl hq hrg hN0 (.inl hs) (da_cons de_int da_nil) ⟨hlen, hm⟩ (fun d h => h) hk
  refine call _ H E0 _ (fun d v H1 ⟨cs, ed⟩ g r => ?_) (fun _ _ f _ => f.elim)
  subst ed
  obtain ⟨l, xs, rfl, h1, h2⟩ := (r.up hid_le).ref_list
  have hs1 : Same H H1 := g.same
  refine ⟨l, rfl, ⟨xs, SqL.of h1⟩, ?_⟩
  have hdice : ∀ x, x ∈ xs → ∃ b, x = .ref b ∧ Cell none H1 b := fun x hx => by
    obtain ⟨i, hi⟩ := List.mem_iff_getElem?.mp hx
    obtain ⟨d, e1, e2⟩ := h2.get' hi
    rw [List.getElem?_map] at e1
    cases q : cs[i]? with
    | none => rw [q] at e1; cases e1
    | some c =>
      rw [q] at e1
      have e1 : some (dcD c) = some d := e1
      injection e1 with e1
      subst e1
      obtain ⟨b, ys, rfl, h3, h4⟩ := e2.ref_list
      obtain ⟨v1, v2, rfl, r1, r2⟩ := h4.two
      rw [r1.int_inv, r2.int_inv] at h3
      exact ⟨b, rfl, c, 0, h3⟩
  have hP1 : H1 Pt = some (.tbl #[]) := hs1 _ _ hP
  have hP3 : H1 Pt2 = some (.tbl #[]) := hs1 _ _ hP2
  let U : Addr → Bool := fun b => @decide ((b = Pt ∨ b = Pt2) ∨ V.ref b ∈ xs) (Classical.propDecidable _)
  have hU : ∀ b, U b = true ↔ ((b = Pt ∨ b = Pt2) ∨ V.ref b ∈ xs) := fun b => by
    show @decide _ (Classical.propDecidable _) = true ↔ _
    exact @decide_eq_true_iff _ (Classical.propDecidable _)
  have hcell : ∀ b, U b = true → ∃ k, Cell k H1 b := fun b hb => by
    rcases (hU b).mp hb with (e | e) | hm
    · rw [e]; exact ⟨some lamQ, hν.symm, LamX.TabS.nil hP1⟩
    · rw [e]; exact ⟨some lamQ2, hν2.symm, LamX.TabS.nil hP3⟩
    · obtain ⟨b', e, hc⟩ := hdice _ hm
      cases e
      exact ⟨none, hc⟩
  have hlU : U l = false := by
    cases e : U l with
    | false => rfl
    | true =>
      exfalso
      rcases (hU l).mp e with (z | z) | hm
      · rw [z, hP1] at h1; cases h1
      · rw [z, hP3] at h1; cases h1
      · obtain ⟨b', e', x, y, hc⟩ := hdice _ hm
        cases e'
        rw [h1] at hc
        injection hc with hc
        injection hc with hc
        rw [hc] at hm
        simp at hm
  refine ⟨fun i mm σ' H' => mm = xs.length - i ∧ i ≤ xs.length ∧ σ'.length = N.length ∧ Gr U H1 H', ⟨xs.length, rfl, Nat.zero_le _, start_len N [.ref a] (by rw [hn]; show 1 ≤ _; omega), Gr.refl _ _⟩, ?_⟩
  rintro i mm σ' H' ⟨rfl, hi, hσ, gg⟩
  have hl' : H' l = some (.lst xs) := gg.keep _ _ hlU h1
  by_cases hlt : i < xs.length
  · have hx : xs[i]? = some xs[i] := List.getElem?_eq_getElem hlt
    refine .inr ⟨⟨xs, xs[i], SqL.of hl', hx⟩, fun σ2 H2 => i + 1 ≤ xs.length ∧ σ2.length = N.length ∧ Gr U H1 H2, fun σ2 H2 ⟨a1, a2⟩ => ⟨xs.length - (i + 1), by omega, rfl, a1, a2⟩, fun x H2 ⟨e1, e2⟩ => ?_⟩
    subst e1
    have ex := e2 xs (SqL.of hl')
    rw [hx] at ex
    injection ex with ex
    subst ex
    obtain ⟨b, eb, hcb⟩ := hdice _ (List.getElem_mem hlt)
    rw [eb]
    have hb : U b = true := (hU b).mpr (.inr (by rw [← eb]; exact List.getElem_mem hlt))
    refine turn A outer s H E hr U H1 b hb hcb ((hU Pt).mpr (.inl (.inl rfl))) ⟨hν.symm, LamX.TabS.nil hP1⟩ ((hU Pt2).mpr (.inl (.inr rfl))) ⟨hν2.symm, LamX.TabS.nil hP3⟩ _ _ _ (env_turn (C := lawC P w K mg base N (defScope st) f cdv A outer s H E k hr U H1) (by rw [hσ, hn]) rfl (fun b hb => by
      obtain ⟨kk, hk⟩ := hcell b hb
      exact ⟨kk, gg.cell b kk hb hk⟩) gg) ⟨fun ρ' σ3 H3 f E' s' => ⟨hlt, by rw [E'.len]; exact f, E'.gr⟩, fun _ _ _ f => f.elim, fun _ _ _ f => f.elim, fun _ _ _ f => f.elim, fun ρ' σ3 H3 f E' s' => ⟨hlt, by rw [E'.len]; exact f, E'.gr⟩⟩
  · exact .inl ⟨⟨xs, SqL.of hl', by omega⟩, hQ H'⟩
end DD

namespace DD
variable [Nu]
open PySem L2
variable {K : PySem.W.Frag}
def fNB (K : PySem.W.Frag) (b : PyData) : Out := if isW b 2 12 = true then .rt .none else .ex (He.ga K "InvalidBase")
def fNR (K : PySem.W.Frag) (b v : PyData) : Out := if isW b 2 12 = true then (if rowOk (match b with | .int i => i | _ => 0) v = true then .rt .none else .ex (He.ga K "InvalidRow")) else .ex (He.ga K "InvalidBase")
def fIR (K : PySem.W.Frag) (b v : PyData) : Out := if isW b 2 12 = true then .rt (.bool (rowOk (match b with | .int i => i | _ => 0) v)) else .ex (He.ga K "InvalidBase")
theorem fNR_ok {b : Int} {ns : List Int} (hb : Base b) (h : Row b ns) : fNR K (.int b) (tI ns) = .rt .none := by
  unfold fNR
  rw [hb.ok, if_pos rfl, h.ok, if_pos rfl]

def fNL (K : PySem.W.Frag) (b v : PyData) : Out := if isW b 2 12 = true then (if isW v 1 8 = true then .rt .none else .ex (He.ga K "InvalidLength")) else .ex (He.ga K "InvalidBase")
def fNS (K : PySem.W.Frag) (b : Int) (n : Nat) : Out := if 10000 < b ^ n then .ex (He.ga K "TooLarge") else .rt .none
def sq (t : Bool) (ns : List Int) : PyData := if t then tI ns else lI ns
theorem take_snoc {ns : List Int} {k : Nat} {n : Int} (h : ns[k]? = some n) : ns.take (k + 1) = ns.take k ++ [n] := by
  rw [List.take_succ, h]; rfl
theorem iv_rev (ns : List Int) : (iv ns).reverse = iv ns.reverse := List.map_reverse.symm
end DD
namespace DD
variable [Nu]
open PySem PySem.Spec PyProof.Rows L2
/-! ## min, max of data -/
def rMM (K : PySem.W.Frag) (m : PyData → List PyData → PyData) : List V → Hp → VK → Prop := fun vs H Q => ∃ (a : Addr) (xs : List V) (x : PyData) (ds : List PyData), vs = [.ref a] ∧ (SqL K H a xs ∨ SqT K H a xs) ∧ DpAll K H xs (x :: ds) ∧ PySem.W.AlikeAll (x :: ds) ∧ PyData.canLayAll0 (x :: ds) = true ∧ PyData.depthAll (x :: ds) ≤ 60 ∧
  ∀ (i : Nat) (v : V), xs[i]? = some v → (x :: ds)[i]? = some (m x ds) → Q v H
theorem canLay_at : ∀ {ds : List PyData} {i : Nat} {d : PyData}, PyData.canLayAll0 ds = true → ds[i]? = some d → d.canLay0 = true
  | [], _, _, _, h => by simp at h
  | x :: xs, 0, d, h, e => by
    rw [PyData.canLayAll0, Bool.and_eq_true] at h
    simp at e; subst e; exact h.1
  | x :: xs, i + 1, d, h, e => by
    rw [PyData.canLayAll0, Bool.and_eq_true] at h
    exact canLay_at h.2 (by simpa using e)
theorem mm_core {X : Cx} {pins : List (Addr × Obj)} {σ : L2.St} {H : Hp} {s : Shared} {xs : List V} {its : List Value} {ds : List PyData} {as : List Addr} {i : Nat} {v : Value} {h' : Heap} {m : PyData} {bs : List Addr} (rv : Vals xs its) (hr : ReadsAll s.heap its ds as) (hc : PyData.canLayAll0 ds = true) (hv : its.toArray[i]? = some v) (r : Reads h' v m bs) (k : ∀ b o, s.heap.get? b = some o → h'.get? b = some o) :
    ∃ x, xs[i]? = some x ∧ L2.RelV x v ∧ ds[i]? = some m := by
  have hv' : its[i]? = some v := by simpa using hv
  obtain ⟨cs, r1, hi, _, _⟩ := PySem.W.readsAll_at hr i v hv'
  have e1 : ds[i]? = some (ds.getD i .none) := by rw [List.getD_eq_getElem?_getD, List.getElem?_eq_getElem hi]; rfl
  have e2 : ds.getD i .none = m := SeqAt.Reads.unique _ _ v _ _ (canLay_at hc e1) (PySem.W.reads_keeps k r1) r
  have hl := rv.length
  have hi2 : i < xs.length := by rw [hl]; exact (List.getElem?_eq_some_iff.mp hv').1
  obtain ⟨u, hu, ru⟩ := rv.get (List.getElem?_eq_getElem hi2)
  rw [hv'] at hu
  injection hu with hu
  subst hu
  exact ⟨_, List.getElem?_eq_getElem hi2, ru, by rw [e1, e2]⟩
theorem cr_minD {X : Cx} (hc : X.calm = true) (hu : X.A.units + 100 < cLine) : CallR X (.builtin "min") (rMM X.K PySem.W.minD) := by
  rintro pins s σ H vs us Q I r ⟨a, xs, x, ds, rfl, hs, hd, ha, hcl, hdp, q⟩
  rw [Vals.ref1 r]
  rcases hs with hs | hs
  · obtain ⟨its, rv, pl, _⟩ := I.list hs
    obtain ⟨as, hr⟩ := Dp.readsAll I (x :: ds) xs its hd rv
    refine PySem.W.min_list_data (I.ok.hd hc) pl.isList (by simpa using hr) ha (by omega) fun i v h' tk bs hv rr k => ?_
    obtain ⟨z, e1, e2, e3⟩ := mm_core (X := X) (pins := pins) (σ := σ) (H := H) rv hr hcl hv rr k
    exact ⟨z, H, I.kept k, e2, q i z e1 e3⟩
  · obtain ⟨its, rv, pl, _⟩ := I.tuple hs
    obtain ⟨as, hr⟩ := Dp.readsAll I (x :: ds) xs its hd rv
    refine PySem.W.min_tuple_data (I.ok.hd hc) pl (by simpa using hr) ha (by omega) fun i v h' tk bs hv rr k => ?_
    obtain ⟨z, e1, e2, e3⟩ := mm_core (X := X) (pins := pins) (σ := σ) (H := H) rv hr hcl hv rr k
    exact ⟨z, H, I.kept k, e2, q i z e1 e3⟩
theorem cr_maxD {X : Cx} (hc : X.calm = true) (hu : X.A.units + 100 < cLine) : CallR X (.builtin "max") (rMM X.K PySem.W.maxD) := by
  rintro pins s σ H vs us Q I r ⟨a, xs, x, ds, rfl, hs, hd, ha, hcl, hdp, q⟩
  rw [Vals.ref1 r]
  rcases hs with hs | hs
  · obtain ⟨its, rv, pl, _⟩ := I.list hs
    obtain ⟨as, hr⟩ := Dp.readsAll I (x :: ds) xs its hd rv
    refine PySem.W.max_list_data (I.ok.hd hc) pl.isList (by simpa using hr) ha (by omega) fun i v h' tk bs hv rr k => ?_
    obtain ⟨z, e1, e2, e3⟩ := mm_core (X := X) (pins := pins) (σ := σ) (H := H) rv hr hcl hv rr k
    exact ⟨z, H, I.kept k, e2, q i z e1 e3⟩
  · obtain ⟨its, rv, pl, _⟩ := I.tuple hs
    obtain ⟨as, hr⟩ := Dp.readsAll I (x :: ds) xs its hd rv
    refine PySem.W.max_tuple_data (I.ok.hd hc) pl (by simpa using hr) ha (by omega) fun i v h' tk bs hv rr k => ?_
    obtain ⟨z, e1, e2, e3⟩ := mm_core (X := X) (pins := pins) (σ := σ) (H := H) rv hr hcl hv rr k
    exact ⟨z, H, I.kept k, e2, q i z e1 e3⟩
section
variable {C : Ct} {Ξ : Addr → Prop} {ρ : Rho} {e : Expr} {pos p : Pos}
theorem rc_mm {K : PySem.W.Frag} {m : PyData → List PyData → PyData} {x : PyData} {ds : List PyData} {t : Bool} (ha : PySem.W.AlikeAll (x :: ds)) (hc : PyData.canLayAll0 (x :: ds) = true) (hd : PyData.depthAll (x :: ds) ≤ 60) : RCd (rMM K m) [if t then .tuple (x :: ds) else .list (x :: ds)] (fun d => d = m x ds) := fun A ρ σ H vs Q E r k => by
  obtain ⟨v, rfl, r1⟩ := r.one
  cases t with
  | true =>
    obtain ⟨a, xs, rfl, h1, h2⟩ := At.ref_tup r1
    exact ⟨a, xs, x, ds, rfl, .inr (SqT.of (hid_le _ _ h1)), AtAll.dp' _ _ _ (nods_lay _ hc) (h2.up hid_le), ha, hc, hd, fun i v e1 e2 => by
      obtain ⟨d, e3, r3⟩ := h2.get' e1
      rw [e2] at e3
      injection e3 with e3
      exact k _ _ H rfl (Same.refl _) (by rw [e3]; exact r3)⟩
  | false =>
    obtain ⟨a, xs, rfl, h1, h2⟩ := At.ref_list r1
    exact ⟨a, xs, x, ds, rfl, .inl (SqL.of (hid_le _ _ h1)), AtAll.dp' _ _ _ (nods_lay _ hc) (h2.up hid_le), ha, hc, hd, fun i v e1 e2 => by
      obtain ⟨d, e3, r3⟩ := h2.get' e1
      rw [e2] at e3
      injection e3 with e3
      exact k _ _ H rfl (Same.refl _) (by rw [e3]; exact r3)⟩
theorem alike_iv (n : Int) (ns : List Int) : PySem.W.AlikeAll (.int n :: iv ns) := by
  have h : ∀ x ∈ (PyData.int n :: iv ns), ∃ i, x = .int i := fun x hx => by
    rcases List.mem_cons.mp hx with e | hx
    · exact ⟨n, e⟩
    · obtain ⟨i, _, e⟩ := List.mem_map.mp hx; exact ⟨i, e.symm⟩
  refine ⟨fun x hx y hy => ?_, fun x hx => ?_⟩
  · obtain ⟨i, rfl⟩ := h x hx
    obtain ⟨j, rfl⟩ := h y hy
    rfl
  · obtain ⟨i, rfl⟩ := h x hx
    simp
def minI : List Int → Int
  | [] => 0
  | n :: ns => ns.foldl min n
def maxI : List Int → Int
  | [] => 0
  | n :: ns => ns.foldl max n
theorem de_minI {ns : List Int} {t : Bool} (hne : ns ≠ []) (hg : Gl C.X "min") (hm : C.X.mg "min" = none) (ha : DEd C Ξ ρ e (sq t ns)) (hcalm : C.X.calm = true := by rfl) (he : starEach [e] C.X.env = (false, eval e C.X.env) :: starEach [] C.X.env := by rfl) (hpl : (backTo pos (starEach [] C.X.env)).any (·.1) = false := by rfl) : DEd C Ξ ρ (.Call (.Name "min" p) [e] [] pos) (.int (minI ns)) := by
  cases ns with
  | nil => exact absurd rfl hne
  | cons n ns =>
    have := lay_iv (n :: ns)
    exact DE.to (de_cb (cr_minD hcalm C.un) hg hm b_min (da_cons ha da_nil he) (rc_mm (t := t) (x := .int n) (ds := iv ns) (alike_iv n ns) this.1 (by rw [show PyData.int n :: iv ns = iv (n :: ns) from rfl, this.2]; decide)) (he := he) (hpl := hpl)) (PySem.W.minD_ints n ns)
theorem de_maxI {ns : List Int} {t : Bool} (hne : ns ≠ []) (hg : Gl C.X "max") (hm : C.X.mg "max" = none) (ha : DEd C Ξ ρ e (sq t ns)) (hcalm : C.X.calm = true := by rfl) (he : starEach [e] C.X.env = (false, eval e C.X.env) :: starEach [] C.X.env := by rfl) (hpl : (backTo pos (starEach [] C.X.env)).any (·.1) = false := by rfl) : DEd C Ξ ρ (.Call (.Name "max" p) [e] [] pos) (.int (maxI ns)) := by
  cases ns with
  | nil => exact absurd rfl hne
  | cons n ns =>
    have := lay_iv (n :: ns)
    exact DE.to (de_cb (cr_maxD hcalm C.un) hg hm b_max (da_cons ha da_nil he) (rc_mm (t := t) (x := .int n) (ds := iv ns) (alike_iv n ns) this.1 (by rw [show PyData.int n :: iv ns = iv (n :: ns) from rfl, this.2]; decide)) (he := he) (hpl := hpl)) (PySem.W.maxD_ints n ns)
end
end DD

namespace DD
variable [Nu]
open PySem L2
variable {K : PySem.W.Frag}
def unI : PyData → Int
  | .int i => i
  | _ => 0
def unT : PyData → List Int
  | .tuple ds => ds.map unI
  | .list ds => ds.map unI
  | _ => []
theorem unT_iv (ns : List Int) : (iv ns).map unI = ns := by
  unfold iv
  rw [List.map_map]
  exact List.map_id ns
theorem unT_tI (ns : List Int) : unT (tI ns) = ns := unT_iv ns
theorem fNR_cases (b v : PyData) : (∃ bi ns, b = .int bi ∧ v = tI ns ∧ Base bi ∧ Row bi ns ∧ fNR K b v = .rt .none) ∨ (∃ c, fNR K b v = .ex c) := by
  unfold fNR
  cases h : isW b 2 12 with
  | false => rw [if_neg (by decide)]; exact .inr ⟨_, rfl⟩
  | true =>
    obtain ⟨bi, rfl, hb⟩ := base_iff.mp h
    rw [if_pos rfl]
    show (∃ _, _) ∨ (∃ c, (if rowOk bi v = true then Out.rt .none else _) = _)
    cases h2 : rowOk bi v with
    | false => rw [if_neg (by decide)]; exact .inr ⟨_, rfl⟩
    | true =>
      obtain ⟨ns, rfl, hr⟩ := rowOk_iff.mp h2
      exact .inl ⟨bi, ns, rfl, rfl, hb, hr, by rw [if_pos rfl]⟩
/-- a def of a base and a row -/
def fRow (K : PySem.W.Frag) (r : Int → List Int → Out) (b v : PyData) : Out := match fNR K b v with
  | .rt _ => r (unI b) (unT v)
  | o => o
theorem fRow_ok {r : Int → List Int → Out} {b : Int} {ns : List Int} (hb : Base b) (h : Row b ns) : fRow K r (.int b) (tI ns) = r b ns := by
  unfold fRow
  rw [fNR_ok hb h]
  show r b (unT (tI ns)) = _
  rw [unT_tI]
theorem rowF {r : Int → List Int → Out} {b : Int} {ns : List Int} {d : PyData} (hb : Base b) (h : Row b ns) (e : r b ns = .rt d) : Out.rt d = fRow K r (.int b) (tI ns) := by rw [fRow_ok hb h, e]
theorem fRow_ex {r : Int → List Int → Out} {b v : PyData} {c : Addr} (h : fNR K b v = .ex c) : fRow K r b v = .ex c := by
  unfold fRow
  rw [h]
theorem fNR_base {b v : PyData} (h : isW b 2 12 = false) : fNR K b v = .ex (He.ga K "InvalidBase") := by
  unfold fNR
  rw [h, if_neg (by decide)]
theorem fNR_row {b : Int} {v : PyData} (hb : Base b) (h : rowOk b v = false) : fNR K (.int b) v = .ex (He.ga K "InvalidRow") := by
  unfold fNR
  rw [hb.ok, if_pos rfl]
  show (if rowOk b v = true then _ else _) = _
  rw [h, if_neg (by decide)]
theorem thenR {F : Out → Prop} {ρ : Rho} {b v : PyData} (h1 : ∀ c, fNR K b v = .ex c → F (.ex c)) (h2 : ∀ bi ns, b = .int bi → v = tI ns → Base bi → Row bi ns → F (.nx ρ)) : thenO (fNR K b v) F ρ := by
  rcases fNR_cases (K := K) b v with ⟨bi, ns, e1, e2, hb, hr, e⟩ | ⟨c, e⟩
  · rw [e]; exact h2 bi ns e1 e2 hb hr
  · rw [e]; exact h1 c e
/-! ## lengths -/
theorem fNL_cases (b v : PyData) : (∃ bi n, b = .int bi ∧ v = .int n ∧ Base bi ∧ (1 ≤ n ∧ n ≤ 8) ∧ fNL K b v = .rt .none) ∨ (∃ c, fNL K b v = .ex c) := by
  unfold fNL
  cases h : isW b 2 12 with
  | false => rw [if_neg (by decide)]; exact .inr ⟨_, rfl⟩
  | true =>
    obtain ⟨bi, rfl, hb⟩ := base_iff.mp h
    rw [if_pos rfl]
    cases h2 : isW v 1 8 with
    | false => rw [if_neg (by decide)]; exact .inr ⟨_, rfl⟩
    | true =>
      cases v with
      | int n =>
        unfold isW at h2
        rw [Bool.and_eq_true, decide_eq_true_iff, decide_eq_true_iff] at h2
        exact .inl ⟨bi, n, rfl, rfl, hb, h2, by rw [if_pos rfl]⟩
      | _ => cases h2
def fNB2 (K : PySem.W.Frag) (b v : PyData) : Out := match fNL K b v with
  | .rt _ => fNS K (unI b) (unI v).toNat
  | o => o
theorem fNL_base {b v : PyData} (h : isW b 2 12 = false) : fNL K b v = .ex (He.ga K "InvalidBase") := by
  unfold fNL
  rw [h, if_neg (by decide)]
theorem fNL_len {b : Int} {v : PyData} (hb : Base b) (h : isW v 1 8 = false) : fNL K (.int b) v = .ex (He.ga K "InvalidLength") := by
  unfold fNL
  rw [hb.ok, if_pos rfl, h, if_neg (by decide)]
theorem fNL_ok {b n : Int} (hb : Base b) (h : 1 ≤ n ∧ n ≤ 8) : fNL K (.int b) (.int n) = .rt .none := by
  unfold fNL
  rw [hb.ok, if_pos rfl, show isW (.int n) 1 8 = true by unfold isW; rw [Bool.and_eq_true, decide_eq_true_iff, decide_eq_true_iff]; exact h, if_pos rfl]
theorem fNB2_ex {b v : PyData} {c : Addr} (h : fNL K b v = .ex c) : fNB2 K b v = .ex c := by
  unfold fNB2
  rw [h]
/-! ## gaps -/
def gapAt (s : List Int) (i : Nat) : Int := s.getD (s.length - 1 - i) 0 - s.getD i 0
def gapI (ns : List Int) : List Int := (List.range (ns.length / 2)).map fun i => gapAt (srtI ns) i
def cplI (b : Int) (ns : List Int) : List Int := ns.map fun d => b - 1 - d
theorem atI_pos {α : Type} {l : List α} {k : Nat} {d : α} (h : l[k]? = some d) : atI l (k : Int) = some d := by
  have := (List.getElem?_eq_some_iff.mp h).1
  unfold atI ixN
  rw [if_pos (by omega), if_pos (by omega)]
  exact h
theorem atI_neg {α : Type} {l : List α} {k : Nat} {d : α} (hk : k < l.length) (h : l[l.length - 1 - k]? = some d) : atI l (-1 - (k : Int)) = some d := by
  unfold atI ixN
  rw [if_neg (by omega), if_pos (by omega)]
  show l[(-1 - (k : Int) + l.length).toNat]? = _
  rw [show (-1 - (k : Int) + l.length).toNat = l.length - 1 - k by omega]
  exact h
theorem iv_getD {ns : List Int} {k : Nat} (h : k < ns.length) : (iv ns)[k]? = some (.int (ns.getD k 0)) := by
  unfold iv
  rw [List.getElem?_map, List.getElem?_eq_getElem h, List.getD_eq_getElem?_getD, List.getElem?_eq_getElem h]
  rfl
theorem rangeD_map (n : Nat) (f : Int → Int) : (rangeD 0 n).map (fun d => PyData.int (f (unI d))) = iv ((List.range n).map fun (i : Nat) => f (i : Int)) := by
  unfold rangeD iv
  rw [List.map_map, List.map_map]
  refine List.map_congr_left fun i _ => ?_
  show PyData.int (f (0 + (i : Nat))) = PyData.int (f i)
  rw [Int.zero_add]
end DD

namespace DD
variable [Nu]
open PySem L2
/-! ## least and greatest -/
theorem foldl_min_le (n : Int) : ∀ ns : List Int, ns.foldl min n ≤ n ∧ ∀ d ∈ ns, ns.foldl min n ≤ d
  | [] => ⟨Int.le_refl _, fun _ h => nomatch h⟩
  | k :: ns => by
    obtain ⟨h1, h2⟩ := foldl_min_le (min n k) ns
    refine ⟨Int.le_trans h1 (Int.min_le_left _ _), fun d hd => ?_⟩
    rcases List.mem_cons.mp hd with rfl | hd
    · exact Int.le_trans h1 (Int.min_le_right _ _)
    · exact h2 d hd
theorem foldl_min_mem (n : Int) : ∀ ns : List Int, ns.foldl min n = n ∨ ns.foldl min n ∈ ns
  | [] => .inl rfl
  | k :: ns => by
    rcases foldl_min_mem (min n k) ns with h | h
    · show (ns.foldl min (min n k) = n) ∨ ns.foldl min (min n k) ∈ k :: ns
      rw [h]
      by_cases e : n ≤ k
      · left; omega
      · right; rw [show min n k = k by omega]; exact List.mem_cons_self
    · exact .inr (List.mem_cons_of_mem _ h)
theorem foldl_max_le (n : Int) : ∀ ns : List Int, n ≤ ns.foldl max n ∧ ∀ d ∈ ns, d ≤ ns.foldl max n
  | [] => ⟨Int.le_refl _, fun _ h => nomatch h⟩
  | k :: ns => by
    obtain ⟨h1, h2⟩ := foldl_max_le (max n k) ns
    refine ⟨Int.le_trans (Int.le_max_left _ _) h1, fun d hd => ?_⟩
    rcases List.mem_cons.mp hd with rfl | hd
    · exact Int.le_trans (Int.le_max_right _ _) h1
    · exact h2 d hd
theorem foldl_max_mem (n : Int) : ∀ ns : List Int, ns.foldl max n = n ∨ ns.foldl max n ∈ ns
  | [] => .inl rfl
  | k :: ns => by
    rcases foldl_max_mem (max n k) ns with h | h
    · show (ns.foldl max (max n k) = n) ∨ ns.foldl max (max n k) ∈ k :: ns
      rw [h]
      by_cases e : n ≤ k
      · right; rw [show max n k = k by omega]; exact List.mem_cons_self
      · left; omega
    · exact .inr (List.mem_cons_of_mem _ h)
theorem minI_le {ns : List Int} {d : Int} (h : d ∈ ns) : minI ns ≤ d := by
  cases ns with
  | nil => cases h
  | cons n ns =>
    rcases List.mem_cons.mp h with rfl | h
    · exact (foldl_min_le _ ns).1
    · exact (foldl_min_le n ns).2 d h
theorem minI_mem {ns : List Int} (h : ns ≠ []) : minI ns ∈ ns := by
  cases ns with
  | nil => exact absurd rfl h
  | cons n ns =>
    rcases foldl_min_mem n ns with e | e
    · show ns.foldl min n ∈ _; rw [e]; exact List.mem_cons_self
    · exact List.mem_cons_of_mem _ e
theorem maxI_le {ns : List Int} {d : Int} (h : d ∈ ns) : d ≤ maxI ns := by
  cases ns with
  | nil => cases h
  | cons n ns =>
    rcases List.mem_cons.mp h with rfl | h
    · exact (foldl_max_le _ ns).1
    · exact (foldl_max_le n ns).2 d h
theorem maxI_mem {ns : List Int} (h : ns ≠ []) : maxI ns ∈ ns := by
  cases ns with
  | nil => exact absurd rfl h
  | cons n ns =>
    rcases foldl_max_mem n ns with e | e
    · show ns.foldl max n ∈ _; rw [e]; exact List.mem_cons_self
    · exact List.mem_cons_of_mem _ e
theorem Row.ne {b : Int} {ns : List Int} (h : Row b ns) : ns ≠ [] := fun e => by have := h.1.1; rw [e] at this; simp at this
/-! ## a number added to each digit -/
def repI (b : Int) : Nat → Int
  | 0 => 0
  | k + 1 => repI b k * b + 1
theorem numI_add (b c : Int) (ns : List Int) : numI b (ns.map fun d => d + c) = numI b ns + c * repI b ns.length := by
  refine snoc_ind (p := fun ns => numI b (ns.map fun d => d + c) = numI b ns + c * repI b ns.length) (by simp [numI, repI]) (fun xs x ih => ?_) ns
  rw [List.map_append, List.map_cons, List.map_nil, numI_app, ih, numI_app, List.length_append, List.length_cons, List.length_nil]
  show _ = _ + c * (repI b xs.length * b + 1)
  rw [Int.add_mul, Int.mul_add, Int.mul_one, Int.mul_assoc]
  omega
theorem srt_add (ns : List Int) (c : Int) : srtI (ns.map fun d => d + c) = (srtI ns).map fun d => d + c := by
  unfold srtI
  refine (List.map_mergeSort (r := fun a b => decide (a ≤ b)) (s := fun a b => decide (a ≤ b)) (f := fun d : Int => d + c) (l := ns) fun a _ b _ => ?_).symm
  by_cases h : a ≤ b
  · rw [decide_eq_true h, decide_eq_true (by omega)]
  · rw [decide_eq_false h, decide_eq_false (by omega)]
theorem fal_add (ns : List Int) (c : Int) : falI (ns.map fun d => d + c) = (falI ns).map fun d => d + c := by
  unfold falI
  rw [srt_add, List.map_reverse]
theorem step_add (b : Int) (ns : List Int) (c : Int) : stepI b (ns.map fun d => d + c) = stepI b ns := by
  unfold stepI
  rw [fal_add, srt_add, numI_add, numI_add, List.length_map, falI_len, srtI_len]
  congr 1
  omega
theorem getD_map {ns : List Int} {c : Int} {i : Nat} (h : i < ns.length) : (ns.map fun d => d + c).getD i 0 = ns.getD i 0 + c := by
  rw [List.getD_eq_getElem?_getD, List.getD_eq_getElem?_getD, List.getElem?_map, List.getElem?_eq_getElem h]
  rfl
theorem gap_add (ns : List Int) (c : Int) : gapI (ns.map fun d => d + c) = gapI ns := by
  unfold gapI
  rw [List.length_map]
  refine List.map_congr_left fun i hi => ?_
  have hi := List.mem_range.mp hi
  have hl := srtI_len ns
  unfold gapAt
  rw [srt_add, List.length_map, getD_map (by omega), getD_map (by omega)]
  omega
end DD
namespace DD
variable [Nu]
open PySem L2
/-- an if without else that only looks, then the rest -/
theorem dss_if {C : Ct} {F : Out → Prop} {ρ : Rho} {e : Expr} {s1 rest : List Stmt} {pos : Pos} {k : Bool} (hc : DTd C (xi F) ρ e k) (h1 : k = true → ∀ F' : Out → Prop, F' (.nx ρ) → DSs C F' ρ s1) (hr : DSs C F ρ rest) : DSs C F ρ (.If e s1 [] pos :: rest) :=
  dss_cons (ds_ifd hc (fun h => h1 h _ hr) fun _ => dss_nil hr)
/-- an if whose test is false -/
theorem dss_no {C : Ct} {F : Out → Prop} {ρ : Rho} {e : Expr} {s1 rest : List Stmt} {pos : Pos} {k : Bool} (hk : k = false) (hc : DTd C (xi F) ρ e k) (hr : DSs C F ρ rest) : DSs C F ρ (.If e s1 [] pos :: rest) :=
  dss_cons (ds_ifd hc (fun h => by rw [hk] at h; cases h) fun _ => dss_nil hr)
end DD

namespace DD
variable [Nu]
open PySem PySem.Spec PyProof.Rows L2
/-! ## a tuple times 1 -/
theorem tuple_mul1 (l : Addr) (items : Array Value) (n : Nat) (dd : Option Addr) (sl : Array (Option Value)) (u : Tok) :
    Meets (Builtin.«tuple.__mul__» ⟨[.ref l, .int 1 u], []⟩) (fun _ R s => s.heap.get? l = some { cls := .type "tuple", dict := dd, data := .seq items n, slots := sl } ∧ R (.ok (.ret (.ref l))) s) :=
  .of_wp fun prog w A R s h => by
    obtain ⟨hp, g, d, tk, os⟩ := s
    obtain ⟨hl, h⟩ := h
    have f1 := AutoSeq1.idx_int
    wp_walk using wpAny_loadPart' hl
    have c0 : (decide ((1 : Int) < -(2 ^ 63)) || decide ((1 : Int) ≥ 2 ^ 63)) = false := by decide
    have c1 : (items.isEmpty || (1 : Int) == 1) = true := by rw [show ((1 : Int) == 1) = true from rfl, Bool.or_true]
    repeat (first
      | (refine wpAny_ite_false (decide_eq_false (by rw [c0]; exact Bool.false_ne_true)) ?_; wp_walk using wpAny_loadPart' hl)
      | (refine wpAny_ite_true (decide_eq_true c1) ?_; wp_walk using wpAny_loadPart' hl))
    first | exact ⟨_, rfl, h⟩ | exact h
def rRep1 (K : PySem.W.Frag) : R2 := fun x y H Q => ∃ l xs, x = .ref l ∧ y = .int 1 ∧ SqT K H l xs ∧ Q (.ref l) H
theorem op_rep1 {X : Cx} : OpR X (binaryOp .Mult) (rRep1 X.K) := by
  rintro pins s σ H x y v u Q I rx ry ⟨l, xs, rfl, rfl, hT, q⟩
  cases rx
  obtain ⟨t, rfl⟩ := ry
  obtain ⟨its, r, ⟨⟨cls, dd, data, sl⟩, ho, hc, n, hd⟩, hs⟩ := I.tuple hT
  simp only at hc hd
  subst hc hd
  exact wpAny_binaryOp_repeat_ref (T := "tuple") (U := "int") (by decide) ⟨_, ho, rfl⟩ (fun s' => typeIs_int s' 1 t) noFill_tuple_mul F.fills_int_mul F.slot_int_rmul repeat_tuple F.slot_int_index.lookup (call_meets F.slot_int_rmul (typeIs_int s 1 t) F.entry_int_rmul (F.args_int_rmul_2 _ _) (int_rmul_tuple 1 t l its.toArray n dd sl) ⟨ho, rfl, ⟨_, ho, rfl⟩, call_meets F.slot_tuple_mul ⟨_, ho, rfl⟩ F.entry_tuple_mul (F.args_tuple_mul_2 _ _) (tuple_mul1 l its.toArray n dd sl t) ⟨ho, .ref l, H, I, rfl, q⟩⟩)
theorem de_rep {C : Ct} {Ξ : Addr → Prop} {ρ : Rho} {a b : Expr} {pos : Pos} {xs : List PyData} {k : Int} (ha : DEd C Ξ ρ a (.tuple xs)) (hb : DEd C Ξ ρ b (.int k)) (hne : xs ≠ []) (h1 : 1 ≤ k) (h3 : k ≤ 1000) (hz : xs.length ≤ 1000) : DEd C Ξ ρ (.BinOp a .Mult b pos) (.tuple (List.replicate k.toNat xs).flatten) := by
  by_cases e : k = 1
  · subst e
    refine de_op2 op_rep1 ha hb fun x y ex ey => ?_
    subst ex; subst ey
    intro A ρ' σ H v u Q E r1 r2 q
    obtain ⟨l, us, rfl, g1, g2⟩ := r1.ref_tup
    rw [r2.int_inv]
    refine ⟨l, us, rfl, rfl, SqT.of (hid_le _ _ g1), q _ _ H rfl (Same.refl _) ?_⟩
    rw [show (List.replicate (1 : Int).toNat xs).flatten = xs by simp]
    exact r1
  · exact de_repT ha hb hne (by omega) h3 hz
theorem rep_iv (k : Nat) (d : Int) : (List.replicate k [PyData.int d]).flatten = iv (List.replicate k d) := by
  induction k with
  | zero => rfl
  | succ k ih => rw [List.replicate_succ, List.flatten_cons, ih, List.replicate_succ]; rfl
/-! ## written, read -/
theorem numI_wr {b : Int} (hb : 1 ≤ b) : ∀ (k : Nat) (n : Int), 0 ≤ n → n < b ^ k → numI b (wrI b k n []) = n
  | 0, n, h0, h1 => by
    have : n = 0 := by simp at h1; omega
    subst this; rfl
  | k + 1, n, h0, h1 => by
    rw [wrI_succ, numI_app, numI_wr hb k (n / b) (Int.ediv_nonneg h0 (by omega)) (Int.ediv_lt_of_lt_mul (by omega) (by rw [Int.pow_succ] at h1; exact h1))]
    have := Int.mul_ediv_add_emod n b
    rw [Int.mul_comm] at this
    exact this
theorem wr_num {b : Int} : ∀ (ns : List Int), Dg b ns → wrI b ns.length (numI b ns) [] = ns := by
  refine snoc_ind (p := fun ns => Dg b ns → wrI b ns.length (numI b ns) [] = ns) (fun _ => rfl) fun xs x ih h => ?_
  have hx := h x (List.mem_append_right _ List.mem_cons_self)
  rw [List.length_append, List.length_cons, List.length_nil, wrI_succ, numI_app]
  have hb0 : b ≠ 0 := by omega
  rw [show (numI b xs * b + x) / b = numI b xs by
    rw [Int.add_comm, Int.add_mul_ediv_right _ _ hb0, Int.ediv_eq_zero_of_lt hx.1 hx.2, Int.zero_add], show (numI b xs * b + x) % b = x by
    rw [Int.add_comm, Int.add_mul_emod_self_right]; exact Int.emod_eq_of_lt hx.1 hx.2, ih (h.sub fun n hn => List.mem_append_left _ hn)]
theorem num_rep (b : Int) (k : Nat) : numI b (List.replicate k (b - 1)) = b ^ k - 1 := by
  induction k with
  | zero => simp [numI]
  | succ k ih =>
    rw [List.replicate_succ', numI_app, ih, Int.pow_succ, Int.sub_mul]
    omega
theorem num_zero (b : Int) (k : Nat) : numI b (List.replicate k 0) = 0 := by
  induction k with
  | zero => rfl
  | succ k ih => rw [List.replicate_succ', numI_app, ih]; simp
end DD

namespace DD
variable [Nu]
open PySem L2
/-! ## sorted digits -/
theorem srt_pw (ns : List Int) : (srtI ns).Pairwise fun a b => a ≤ b := by
  have h := List.pairwise_mergeSort (le := fun a b : Int => decide (a ≤ b)) (fun a b c h1 h2 => by
    have := of_decide_eq_true h1
    have := of_decide_eq_true h2
    exact decide_eq_true (by omega)) (fun a b => by
    by_cases h : a ≤ b
    · rw [decide_eq_true h]; rfl
    · rw [decide_eq_true (show b ≤ a by omega), Bool.or_true]) ns
  exact h.imp fun h => of_decide_eq_true h
theorem pw_eq {xs ys : List Int} (h : xs.Perm ys) (hx : xs.Pairwise fun a b => a ≤ b) (hy : ys.Pairwise fun a b => a ≤ b) : xs = ys :=
  List.Perm.eq_of_pairwise (le := fun a b : Int => a ≤ b) (fun a b _ _ h1 h2 => Int.le_antisymm h1 h2) hx hy h
theorem srt_perm {xs ys : List Int} (h : xs.Perm ys) : srtI xs = srtI ys := pw_eq (((srtI_perm xs).trans h).trans (srtI_perm ys).symm) (srt_pw xs) (srt_pw ys)
theorem srt_id {xs : List Int} (h : xs.Pairwise fun a b => a ≤ b) : srtI xs = xs := pw_eq (srtI_perm xs) (srt_pw xs) h
theorem fal_perm {xs ys : List Int} (h : xs.Perm ys) : falI xs = falI ys := by unfold falI; rw [srt_perm h]
theorem step_perm {b : Int} {xs ys : List Int} (h : xs.Perm ys) : stepI b xs = stepI b ys := by unfold stepI; rw [fal_perm h, srt_perm h, h.length_eq]
theorem gap_perm {xs ys : List Int} (h : xs.Perm ys) : gapI xs = gapI ys := by unfold gapI; rw [srt_perm h, h.length_eq]
theorem fal_of_perm (ns : List Int) : (falI ns).Perm ns := (List.reverse_perm _).trans (srtI_perm ns)
theorem pw_getD {s : List Int} (h : s.Pairwise fun a b => a ≤ b) {i j : Nat} (hij : i ≤ j) (hj : j < s.length) : s.getD i 0 ≤ s.getD j 0 := by
  rw [List.getD_eq_getElem?_getD, List.getD_eq_getElem?_getD, List.getElem?_eq_getElem hj, List.getElem?_eq_getElem (by omega)]
  show s[i] ≤ s[j]
  rcases Nat.lt_or_eq_of_le hij with h1 | h1
  · exact List.pairwise_iff_getElem.mp h i j (by omega) hj h1
  · subst h1; exact Int.le_refl _
theorem getD_mem {s : List Int} {i : Nat} (h : i < s.length) : s.getD i 0 ∈ s := by
  rw [List.getD_eq_getElem?_getD, List.getElem?_eq_getElem h]
  exact List.getElem_mem h
/-! ## the differences -/
def difI (s : List Int) : List Int := (List.range s.length).map fun i => gapAt s i
theorem num_sub (b : Int) : ∀ (xs ys : List Int) (f g : Int), xs.length = ys.length → (List.zipWith (fun x y => x - y) xs ys).foldl (fun f d => f * b + d) (f - g) = xs.foldl (fun f d => f * b + d) f - ys.foldl (fun f d => f * b + d) g
  | [], [], _, _, _ => rfl
  | [], _ :: _, _, _, h => by simp at h
  | _ :: _, [], _, _, h => by simp at h
  | x :: xs, y :: ys, f, g, h => by
    have ih := num_sub b xs ys (f * b + x) (g * b + y) (by simpa using h)
    show (List.zipWith (fun x y => x - y) xs ys).foldl (fun f d => f * b + d) ((f - g) * b + (x - y)) = _
    rw [show (f - g) * b + (x - y) = f * b + x - (g * b + y) by rw [Int.sub_mul]; omega]
    exact ih
theorem dif_zip (s : List Int) : difI s = List.zipWith (fun x y => x - y) s.reverse s := by
  apply List.ext_getElem
  · unfold difI
    rw [List.length_map, List.length_range, List.length_zipWith, List.length_reverse, Nat.min_self]
  · intro i h1 h2
    unfold difI at h1 ⊢
    rw [List.length_map, List.length_range] at h1
    rw [List.getElem_map, List.getElem_range, List.getElem_zipWith, List.getElem_reverse]
    unfold gapAt
    rw [List.getD_eq_getElem?_getD, List.getD_eq_getElem?_getD, List.getElem?_eq_getElem (by omega), List.getElem?_eq_getElem h1]
    rfl
theorem num_dif (b : Int) (s : List Int) : numI b (difI s) = numI b s.reverse - numI b s := by
  rw [dif_zip]
  have := num_sub b s.reverse s 0 0 (List.length_reverse)
  rw [Int.sub_zero] at this
  exact this
theorem step_dif (b : Int) (ns : List Int) : stepI b ns = wrI b ns.length (numI b (difI (srtI ns))) [] := by
  rw [num_dif]
  rfl
theorem gapAt_anti {s : List Int} {i : Nat} (h : i < s.length) : gapAt s (s.length - 1 - i) = -gapAt s i := by
  unfold gapAt
  rw [show s.length - 1 - (s.length - 1 - i) = i by omega]
  omega
theorem gap_dif {xs ys : List Int} (hl : xs.length = ys.length) (h : gapI xs = gapI ys) : difI (srtI xs) = difI (srtI ys) := by
  have sx := srtI_len xs
  have sy := srtI_len ys
  have low : ∀ i, i < xs.length / 2 → gapAt (srtI xs) i = gapAt (srtI ys) i := fun i hi => by
    have := congrArg (fun l => l[i]?) h
    unfold gapI at this
    simp only [List.getElem?_map] at this
    rw [List.getElem?_range hi, List.getElem?_range (by rw [← hl]; exact hi)] at this
    exact Option.some.inj this
  unfold difI
  rw [sx, sy, hl]
  refine List.map_congr_left fun i hi => ?_
  have hi := List.mem_range.mp hi
  by_cases h1 : i < xs.length / 2
  · exact low i h1
  · by_cases h2 : xs.length - 1 - i < xs.length / 2
    · have e1 := gapAt_anti (s := srtI xs) (i := xs.length - 1 - i) (by omega)
      have e2 := gapAt_anti (s := srtI ys) (i := xs.length - 1 - i) (by omega)
      rw [sx, show xs.length - 1 - (xs.length - 1 - i) = i by omega] at e1
      rw [sy, ← hl, show xs.length - 1 - (xs.length - 1 - i) = i by omega] at e2
      rw [e1, e2, low _ h2]
    · unfold gapAt
      rw [sx, sy, ← hl, show xs.length - 1 - i = i by omega]
      omega
theorem gap_step {b : Int} {xs ys : List Int} (hl : xs.length = ys.length) (h : gapI xs = gapI ys) : stepI b xs = stepI b ys := by
  rw [step_dif, step_dif, gap_dif hl h, hl]
/-! ## no arrangement is less -/
theorem numI_foldl (b : Int) : ∀ (ns : List Int) (f : Int), ns.foldl (fun f d => f * b + d) f = f * b ^ ns.length + numI b ns
  | [], f => by simp [numI]
  | n :: ns, f => by
    have h1 := numI_foldl b ns (f * b + n)
    have h2 := numI_foldl b ns (0 * b + n)
    show ns.foldl (fun f d => f * b + d) (f * b + n) = _
    have h3 : numI b (n :: ns) = ns.foldl (fun f d => f * b + d) (0 * b + n) := rfl
    rw [h1, h3, h2, List.length_cons, Int.pow_succ, Int.add_mul, Int.zero_mul, Int.zero_add, Int.mul_assoc, Int.mul_comm b (b ^ ns.length)]
    omega
theorem numI_cons (b n : Int) (ns : List Int) : numI b (n :: ns) = n * b ^ ns.length + numI b ns := by
  have h3 : numI b (n :: ns) = ns.foldl (fun f d => f * b + d) (0 * b + n) := rfl
  rw [h3, numI_foldl, Int.zero_mul, Int.zero_add]
def insI (x : Int) : List Int → List Int
  | [] => [x]
  | y :: s => if x ≤ y then x :: y :: s else y :: insI x s
def isrt : List Int → List Int
  | [] => []
  | x :: s => insI x (isrt s)
theorem ins_perm (x : Int) : ∀ s : List Int, (insI x s).Perm (x :: s)
  | [] => List.Perm.refl _
  | y :: s => by
    unfold insI
    split
    · exact List.Perm.refl _
    · exact ((ins_perm x s).cons y).trans (List.Perm.swap x y s)
theorem isrt_perm : ∀ s : List Int, (isrt s).Perm s
  | [] => List.Perm.refl _
  | x :: s => (ins_perm x (isrt s)).trans ((isrt_perm s).cons x)
theorem ins_pw (x : Int) : ∀ s : List Int, s.Pairwise (fun a b => a ≤ b) → (insI x s).Pairwise fun a b => a ≤ b
  | [], _ => by unfold insI; exact List.pairwise_singleton _ _
  | y :: s, h => by
    obtain ⟨h1, h2⟩ := List.pairwise_cons.mp h
    unfold insI
    split
    · rename_i hxy
      refine List.pairwise_cons.mpr ⟨fun z hz => ?_, h⟩
      rcases List.mem_cons.mp hz with rfl | hz
      · exact hxy
      · have := h1 z hz; omega
    · rename_i hxy
      refine List.pairwise_cons.mpr ⟨fun z hz => ?_, ins_pw x s h2⟩
      rcases List.mem_cons.mp ((ins_perm x s).mem_iff.mp hz) with rfl | hz
      · omega
      · exact h1 z hz
theorem isrt_pw : ∀ s : List Int, (isrt s).Pairwise fun a b => a ≤ b
  | [] => .nil
  | x :: s => ins_pw x _ (isrt_pw s)
theorem srt_isrt (ns : List Int) : srtI ns = isrt ns := pw_eq ((srtI_perm ns).trans (isrt_perm ns).symm) (srt_pw ns) (isrt_pw ns)
theorem ins_num {b : Int} (hb : 1 ≤ b) (x : Int) : ∀ s : List Int, numI b (insI x s) ≤ numI b (x :: s)
  | [] => Int.le_refl _
  | y :: s => by
    unfold insI
    split
    · exact Int.le_refl _
    · rename_i hxy
      have ih := ins_num hb x s
      have hp : ∀ k : Nat, 1 ≤ b ^ k := fun k => by
        induction k with
        | zero => simp
        | succ k ih => rw [Int.pow_succ]; have := Int.mul_le_mul ih hb (by decide) (by omega); omega
      have hlen : (insI x s).length = s.length + 1 := by rw [(ins_perm x s).length_eq, List.length_cons]
      rw [numI_cons, numI_cons b x (y :: s), numI_cons b y s, hlen, List.length_cons]
      rw [numI_cons b x s] at ih
      have h1 : b ^ s.length ≤ b ^ (s.length + 1) := by
        rw [Int.pow_succ]
        have := Int.mul_le_mul_of_nonneg_left hb (show 0 ≤ b ^ s.length by have := hp s.length; omega)
        omega
      have h2 : 0 ≤ (x - y) * (b ^ (s.length + 1) - b ^ s.length) := Int.mul_nonneg (by omega) (by omega)
      rw [Int.sub_mul, Int.mul_sub, Int.mul_sub] at h2
      omega
theorem isrt_num {b : Int} (hb : 1 ≤ b) : ∀ s : List Int, numI b (isrt s) ≤ numI b s
  | [] => Int.le_refl _
  | x :: s => by
    have h := isrt_num hb s
    have h2 := ins_num hb x (isrt s)
    show numI b (insI x (isrt s)) ≤ _
    rw [numI_cons, (isrt_perm s).length_eq] at h2
    rw [numI_cons]
    omega
theorem srt_num {b : Int} (hb : 1 ≤ b) (ns : List Int) : numI b (srtI ns) ≤ numI b ns := by rw [srt_isrt]; exact isrt_num hb ns
/-! ## the other digits -/
theorem num_cpl (b : Int) (ns : List Int) : numI b (cplI b ns) = b ^ ns.length - 1 - numI b ns := by
  refine snoc_ind (p := fun ns => numI b (cplI b ns) = b ^ ns.length - 1 - numI b ns) (by simp [numI, cplI]) (fun xs x ih => ?_) ns
  have e : cplI b (xs ++ [x]) = cplI b xs ++ [b - 1 - x] := by unfold cplI; rw [List.map_append]; rfl
  rw [e, numI_app, ih, numI_app, List.length_append, List.length_cons, List.length_nil, Int.pow_succ, Int.sub_mul, Int.sub_mul]
  omega
theorem cpl_perm {b : Int} {xs ys : List Int} (h : xs.Perm ys) : (cplI b xs).Perm (cplI b ys) := h.map _
theorem srt_cpl (b : Int) (ns : List Int) : srtI (cplI b ns) = cplI b (falI ns) := by
  refine pw_eq (((srtI_perm _).trans (cpl_perm (fal_of_perm ns).symm))) (srt_pw _) ?_
  unfold cplI falI
  rw [List.pairwise_map, List.pairwise_reverse]
  exact (srt_pw ns).imp fun h => by omega
theorem num_fal {b : Int} (hb : 1 ≤ b) (ns : List Int) : numI b ns ≤ numI b (falI ns) := by
  have h := srt_num hb (cplI b ns)
  rw [srt_cpl, num_cpl, num_cpl, falI_len] at h
  omega
/-! ## gaps go down, the first is the spread -/
theorem gapAt_mono {s : List Int} (h : s.Pairwise fun a b => a ≤ b) {i j : Nat} (hij : i ≤ j) (hj : j < s.length) : gapAt s j ≤ gapAt s i := by
  unfold gapAt
  have h1 := pw_getD h hij hj
  have h2 := pw_getD h (show s.length - 1 - j ≤ s.length - 1 - i by omega) (by omega)
  omega
theorem gap_down (ns : List Int) : (srtI (gapI ns)).reverse = gapI ns := by
  have h : srtI (gapI ns) = (gapI ns).reverse := by
    refine pw_eq ((srtI_perm _).trans (List.reverse_perm _).symm) (srt_pw _) ?_
    rw [List.pairwise_reverse]
    unfold gapI
    rw [List.pairwise_map]
    have : (List.range (ns.length / 2)).Pairwise (fun a b => a < b) := List.pairwise_lt_range
    refine List.Pairwise.imp_of_mem (fun {a b} ha hb hab => ?_) this
    have hb := List.mem_range.mp hb
    have hl := srtI_len ns
    exact gapAt_mono (srt_pw ns) (Nat.le_of_lt hab) (by omega)
  rw [h, List.reverse_reverse]
theorem srt_first {ns : List Int} (h : ns ≠ []) : (srtI ns).getD 0 0 = minI ns := by
  have hl := srtI_len ns
  have hp := List.length_pos_iff.mpr h
  have h1 : (srtI ns).getD 0 0 ∈ ns := (srtI_perm ns).mem_iff.mp (getD_mem (by omega))
  have h2 := minI_le h1
  obtain ⟨i, hi, e⟩ := List.mem_iff_getElem.mp ((srtI_perm ns).mem_iff.mpr (minI_mem h))
  have h3 := pw_getD (srt_pw ns) (Nat.zero_le i) hi
  rw [List.getD_eq_getElem?_getD (l := srtI ns) (i := i), List.getElem?_eq_getElem hi, e] at h3
  have h3 : (srtI ns).getD 0 0 ≤ minI ns := h3
  omega
theorem srt_last {ns : List Int} (h : ns ≠ []) : (srtI ns).getD (ns.length - 1) 0 = maxI ns := by
  have hl := srtI_len ns
  have hp := List.length_pos_iff.mpr h
  have h1 : (srtI ns).getD (ns.length - 1) 0 ∈ ns := (srtI_perm ns).mem_iff.mp (getD_mem (by omega))
  have h2 := maxI_le h1
  obtain ⟨i, hi, e⟩ := List.mem_iff_getElem.mp ((srtI_perm ns).mem_iff.mpr (maxI_mem h))
  have h3 := pw_getD (srt_pw ns) (show i ≤ ns.length - 1 by omega) (by omega)
  rw [List.getD_eq_getElem?_getD (l := srtI ns) (i := i), List.getElem?_eq_getElem hi, e] at h3
  have h3 : maxI ns ≤ (srtI ns).getD (ns.length - 1) 0 := h3
  omega
theorem gap_first {ns : List Int} (h : ns ≠ []) : gapAt (srtI ns) 0 = maxI ns - minI ns := by
  unfold gapAt
  rw [srtI_len, Nat.sub_zero, srt_first h, srt_last h]
end DD
namespace DD
variable [Nu]
open PySem L2
theorem cut_to {xs : List PyData} {r : Int} (h0 : 0 ≤ r) (h1 : r ≤ xs.length) : cutD xs none (some r) = xs.take r.toNat := by
  unfold cutD
  have e : HT.sIx xs.length xs.length (some r) = r.toNat := by
    unfold HT.sIx
    simp only
    first | omega | (split <;> omega) | (split <;> split <;> omega) | (simp; omega)
  rw [e]
  show ((xs.drop 0).take (r.toNat - 0)) = _
  rw [List.drop_zero, Nat.sub_zero]
theorem cut_from {xs : List PyData} {r : Int} (h0 : 0 ≤ r) (h1 : r ≤ xs.length) : cutD xs (some r) none = xs.drop r.toNat := by
  unfold cutD
  have e : HT.sIx xs.length 0 (some r) = r.toNat := by
    unfold HT.sIx
    simp only
    first | omega | (split <;> omega) | (split <;> split <;> omega) | (simp; omega)
  rw [e]
  show ((xs.drop r.toNat).take (xs.length - r.toNat)) = _
  exact List.take_of_length_le (by rw [List.length_drop]; exact Nat.le_refl _)
theorem iv_take (ns : List Int) (k : Nat) : (iv ns).take k = iv (ns.take k) := (List.map_take ..).symm
theorem iv_drop (ns : List Int) (k : Nat) : (iv ns).drop k = iv (ns.drop k) := (List.map_drop ..).symm
end DD
namespace DD
variable [Nu]
open PySem L2
/-- an if without else that sets some names, then the rest -/
theorem dss_ifS {C : Ct} {F : Out → Prop} {ρ : Rho} {e : Expr} {s1 rest : List Stmt} {pos : Pos} {k : Bool} (I : Rho → Prop) (hc : DTd C (xi F) ρ e k) (h1 : k = true → ∀ F' : Out → Prop, (∀ ρ', I ρ' → F' (.nx ρ')) → DSs C F' ρ s1) (h0 : I ρ) (hr : ∀ ρ', I ρ' → DSs C F ρ' rest) : DSs C F ρ (.If e s1 [] pos :: rest) :=
  dss_cons (ds_ifd hc (fun h => h1 h _ fun ρ' i => hr ρ' i) fun _ => dss_nil (hr ρ h0))
theorem set_getD {s : List Int} {m i : Nat} {d : Int} (h : i ≠ m) : (s.set m d).getD i 0 = s.getD i 0 := by
  rw [List.getD_eq_getElem?_getD, List.getD_eq_getElem?_getD, List.getElem?_set_ne (Ne.symm h)]
theorem set_pw {s : List Int} (h : s.Pairwise fun a b => a ≤ b) {m : Nat} {d : Int} (h0 : 1 ≤ m) (hm : m + 1 < s.length) (h1 : s.getD (m - 1) 0 ≤ d) (h2 : d ≤ s.getD (m + 1) 0) : (s.set m d).Pairwise fun a b => a ≤ b := by
  rw [List.pairwise_iff_getElem]
  intro i j hi hj hij
  rw [List.length_set] at hi hj
  have gd : ∀ k (hk : k < s.length), s[k] = s.getD k 0 := fun k hk => by rw [List.getD_eq_getElem?_getD, List.getElem?_eq_getElem hk]; rfl
  rw [List.getElem_set, List.getElem_set]
  split
  · rename_i e
    rw [if_neg (by omega), gd j hj]
    have := pw_getD h (show m + 1 ≤ j by omega) hj
    omega
  · split
    · rw [gd i hi]
      have := pw_getD h (show i ≤ m - 1 by omega) (by omega)
      omega
    · rw [gd i hi, gd j hj]
      exact pw_getD h (by omega) hj
theorem gap_set {ns : List Int} {d : Int} (hodd : ns.length % 2 = 1) (hpw : ((srtI ns).set (ns.length / 2) d).Pairwise fun a b => a ≤ b) : gapI ((srtI ns).set (ns.length / 2) d) = gapI ns := by
  have hl := srtI_len ns
  unfold gapI
  rw [srt_id hpw, List.length_set, hl]
  refine List.map_congr_left fun i hi => ?_
  have hi := List.mem_range.mp hi
  unfold gapAt
  rw [List.length_set, hl, set_getD (by omega), set_getD (by omega)]
def addI (ns : List Int) (n : Int) : List Int := ns.map fun d => d + n
theorem eqv_bool (a : Bool) : PyData.eqv (.bool a) (.bool a) = true := by rw [PyData.eqv]; simp
end DD

namespace DD
variable [Nu]
open PySem PySem.Spec PyProof.Rows L2 HT
section
variable {prog : Program} {w : World} {A : Around} {E : Value → Shared → Prop} {s : Shared}
theorem adjust_rev (n : Nat) : Builtin.Slice.sliceAdjust none none (-1) (n : Int) = ((n : Int) - 1, -1) := by
  unfold Builtin.Slice.sliceAdjust
  simp
theorem places_rev (n : Nat) : Builtin.Slice.slicePlaces ((n : Int) - 1) (-1) (-1) = n := by
  unfold Builtin.Slice.slicePlaces
  have h1 : ¬ ((-1 : Int) > 0) := by omega
  simp only [h1, if_false, Int.neg_neg, Int.ediv_one]
  split <;> omega
theorem fm_map {α β : Type} {f : α → Option β} {g : α → β} : ∀ {l : List α}, (∀ m ∈ l, f m = some (g m)) → l.filterMap f = l.map g
  | [], _ => rfl
  | x :: l, h => by
    rw [List.filterMap_cons_some (h x List.mem_cons_self), List.map_cons, fm_map fun m hm => h m (List.mem_cons_of_mem _ hm)]
theorem applied_rev {sl : Addr} {vl vu vs : Value} {n : Nat} {Q : Int × Int × Nat → Shared → Prop} (hs : s.heap.IsSliceOf sl vl vu vs) (pl : IsPart vl none) (pu : IsPart vu none) (ps : IsPart vs (some (-1)))
    (h : Q ((n : Int) - 1, -1, n) s) : wpAny (model prog w) A (Builtin.Slice.sliceApplied (.ref sl) (pure (n : Int))) Q E s := by
  obtain ⟨os, hos, _, hds⟩ := id hs
  unfold Builtin.Slice.sliceApplied Builtin.Slice.sliceFields
  refine wpAny_bind (wpAny_bind (wpAny_field hos hds (x := vl) rfl (wpAny_bind (wpAny_field hos hds (x := vu) rfl (wpAny_bind (wpAny_field hos hds (x := vs) rfl (wpAny_pure ?_)))))))
  refine wpAny_bind (slicePart_ ps ?_)
  show wpAny _ _ (if ((-1 : Int) == 0) = true then _ else _) _ _ s
  rw [if_neg (by decide)]
  refine wpAny_bind (slicePart_ pl (wpAny_bind (slicePart_ pu (wpAny_bind (wpAny_pure ?_)))))
  show wpAny _ _ (match Builtin.Slice.sliceAdjust none none (-1) (n : Int) with | (lo, hi) => pure (lo, (-1 : Int), Builtin.Slice.slicePlaces lo hi (-1))) _ _ s
  rw [adjust_rev]
  show wpAny _ _ (pure ((n : Int) - 1, (-1 : Int), Builtin.Slice.slicePlaces ((n : Int) - 1) (-1) (-1))) _ _ s
  rw [places_rev]
  exact wpAny_pure h
theorem pick_rev (xs : Array Value) : ((List.range xs.size).filterMap fun (m : Nat) => xs[(((xs.size : Nat) : Int) - 1 + (m : Int) * -1).toNat]?).toArray = xs.toList.reverse.toArray := by
  congr 1
  have e : ∀ m ∈ List.range xs.size, xs[(((xs.size : Nat) : Int) - 1 + (m : Int) * -1).toNat]? = some (xs.toList.reverse.getD m .none) := fun m hm => by
    have hm := List.mem_range.mp hm
    rw [show (((xs.size : Nat) : Int) - 1 + (m : Int) * -1).toNat = xs.size - 1 - m by omega, ← Array.getElem?_toList, List.getD_eq_getElem?_getD, List.getElem?_reverse (by simpa using hm), Array.length_toList]
    rw [List.getElem?_eq_getElem (by rw [Array.length_toList]; omega)]
    rfl
  rw [fm_map e]
  apply List.ext_getElem
  · simp
  · intro i h1 h2
    rw [List.getElem_map, List.getElem_range, List.getD_eq_getElem?_getD, List.getElem?_eq_getElem h2]
    rfl
theorem getItem_tuple_rev {t sl : Addr} {items : Array Value} {vl vu vs : Value} {Q : Value → Shared → Prop} (ht : IsTup s.heap t items) (hs : s.heap.IsSliceOf sl vl vu vs) (pl : IsPart vl none) (pu : IsPart vu none) (ps : IsPart vs (some (-1)))
    (h : Q (.ref s.heap.objs.size) { s with heap := s.heap.push { cls := .type "tuple", data := .seq items.toList.reverse.toArray } }) (hsz : items.size ≤ sizeLine) : wpAny (model prog w) A (getItem (.ref t) (.ref sl)) Q E s := by
  have hok : sizeOk (.seq items.toList.reverse.toArray) := by
    show items.toList.reverse.toArray.size ≤ sizeLine
    rw [List.size_toArray, List.length_reverse, Array.length_toList]
    exact hsz
  obtain ⟨os, hos, hcs, hds⟩ := id hs
  have isS : s.TypeIs (.ref sl) "slice" := ⟨os, hos, hcs⟩
  unfold getItem
  try with_reducible refine wpAny_holding ?_
  first | refine wpAny_bind (wpAny_pure ?_) | skip
  refine wpAny_bind (wpAny_sequenceKey ht.typeIs (by decide) ?_)
  refine wpAny_bind (wpAny_callSpecial?_slot (name := Str.ofString "__getitem__") ht.typeIs PyProof.Rows.slot_tuple_getitem (wpAny_call_entry PyProof.Rows.slot_tuple_getitem ht.typeIs entry_tuple_getitem ?_ (args_tuple_getitem _ _)))
  show wpAny _ _ (Builtin.Tuple.tupleItemsOf (.ref t) >>= _) _ _ s
  refine wpAny_bind (tupleItemsOf_ ht (wpAny_bind (wpAny_typeOf isS ?_)))
  rw [if_pos (by decide)]
  refine wpAny_bind (applied_rev hs pl pu ps ?_)
  have no : ¬ ((((items.size : Nat) : Int) - 1 == 0 && (-1 : Int) == 1 && items.size == items.size) = true) := by simp
  show wpAny _ _ (if (((items.size : Nat) : Int) - 1 == 0 && (-1 : Int) == 1 && items.size == items.size) = true then _ else _) _ _ s
  rw [if_neg no, pick_rev]
  first
    | exact wpAny_bind (m := Builtin.Tuple.tupleExact _) (wpAny_newObj_type (wpAny_pure ⟨_, rfl, wpAny_pure h⟩) hok)
    | exact wpAny_bind (m := Builtin.Tuple.tupleExact _) (wpAny_newObj_type (wpAny_bind (wpAny_pure (wpAny_pure ⟨_, rfl, wpAny_pure h⟩))) hok)
    | exact wpAny_bind (wpAny_bind (m := Builtin.Tuple.tupleExact _) (wpAny_newObj_type (wpAny_pure (wpAny_pure ⟨_, rfl, wpAny_pure h⟩)) hok))
    | exact wpAny_bind (wpAny_bind (m := Builtin.Tuple.tupleExact _) (wpAny_newObj_type (wpAny_pure ⟨_, rfl, wpAny_pure h⟩) hok))
end
/-- t[::-1] -/
def tRevT (K : PySem.W.Frag) (te : TE) : TE := fun σ H Q => te σ H fun x H1 => ∃ a xs, x = .ref a ∧ SqT K H1 a xs ∧ ∀ p, H1 p = none → Q (.ref p) (upd H1 p (.tup xs.reverse))
theorem pe_revT {X : Cx} {e : Expr} {te : TE} {k : Nat} {p1 p2 p3 pos : Pos} (he : PE X e te) : PE X (.Subscript e (.Slice none none (some (.UnaryOp .USub (.Constant (.int 1) k p1) p2)) p3) pos) (tRevT X.K te) := by
  refine ⟨fun pins s σ H Q I h => ?_⟩
  refine Subscript_ (thn (he.run pins s σ H _ I h) fun v s1 ⟨x, H1, I1, r1, a, xs, ex, hx, q⟩ => ?_)
  subst ex
  cases r1
  have part : PO X (some (.UnaryOp .USub (.Constant (.int 1) k p1) p2)) (tPart (tUn (rU fun i => .int (-i)) (tC (.int 1)))) := po_some (pe_un un_neg pe_int)
  refine wpAny_Slice (thn (po_none.run pins s1 σ H1 (fun o H2 => o = none ∧ H2 = H1) I1 ⟨rfl, rfl⟩) fun vl s2 ⟨l, H2, I2, pl, el, e2⟩ => ?_)
  subst el e2
  refine thn (po_none.run pins s2 σ H2 (fun o H3 => o = none ∧ H3 = H2) I2 ⟨rfl, rfl⟩) fun vu s3 ⟨u, H3, I3, pu, eu, e3⟩ => ?_
  subst eu e3
  refine thn (part.run pins s3 σ H3 (fun o H4 => o = some (-1) ∧ H4 = H3) I3 ⟨1, rfl, -1, rfl, rfl, rfl⟩) fun vs s4 ⟨o, H4, I4, ps, eo, e4⟩ => ?_
  subst eo e4
  have I5 : Inv X pins σ H4 { s4 with heap := s4.heap.push { cls := .type "slice", data := .fields #[vl, vu, vs] } } := I4.kept (t' := s4.toks) fun b ob q => Heap.get?_push_of_some _ q
  obtain ⟨its, r, ht, hz⟩ := I5.tuple hx
  have hlen := r.length
  show wpAny (model X.prog X.w) X.A (subscriptTail e (.Slice none none (some (.UnaryOp .USub (.Constant (.int 1) k p1) p2)) p3) (.ref a) (.ref s4.heap.objs.size)) (EP X pins σ Q) X.xe { s4 with heap := s4.heap.push { cls := .type "slice", data := .fields #[vl, vu, vs] } }
  refine tail_any (ops := [.ref a, .ref s4.heap.objs.size]) ht.typeIs (PyProof.Rows.slot_tuple_getitem.lookup) ?_ (by with_unfolding_all rfl)
  refine getItem_tuple_rev ht (Heap.IsSliceOf.new _ vl vu vs) pl pu ps ?_ (by rw [List.size_toArray]; omega)
  refine ⟨.ref _, _, I5.laid (t' := s4.toks) (o := .tup xs.reverse) (fun b ob q => Heap.get?_push_of_some _ q) (Nat.le_refl _) ?_, rfl, q _ (I5.hok.fresh (Nat.le_refl _))⟩
  exact ⟨by rw [List.length_reverse]; exact hz, _, r.reverse, IsTup.new _ _⟩
theorem de_revT {C : Ct} {Ξ : Addr → Prop} {ρ : Rho} {e : Expr} {ds : List PyData} {k : Nat} {p1 p2 p3 pos : Pos} (ha : DEd C Ξ ρ e (.tuple ds)) : DEd C Ξ ρ (.Subscript e (.Slice none none (some (.UnaryOp .USub (.Constant (.int 1) k p1) p2)) p3) pos) (.tuple ds.reverse) := fun σ H E Q q z =>
  ⟨_, pe_revT pE, ha σ H E _ (fun d v H2 pd g r => by
    subst pd
    obtain ⟨a, vs, rfl, h1, h2⟩ := r.ref_tup
    exact ⟨a, vs, rfl, SqT.of (hid_le _ _ h1), fun p hp => q _ _ _ rfl (g.trans (Gr.of (same_new hp))) (.tup ((E.grow g).newV hp) (h2.rev.up (vis_gr (Gr.of (same_new hp)))))⟩) z⟩
/-! ## len(set(t)) -/
def tLenSetT (K : PySem.W.Frag) (ta : TE) : TE := fun σ H Q => ta σ H fun x H1 => ∃ (l : Addr) (ns : List Int), x = V.ref l ∧ SqT K H1 l (ns.map V.int) ∧ ns.length < 64 ∧ ∀ ks : List Int, ks.Nodup → (∀ k, k ∈ ks ↔ k ∈ ns) → Q (.int ks.length) H1
theorem pe_lenSetT {X : Cx} {a : Expr} {ta : TE} {p p2 q pos : Pos} (hc : X.calm = true) (hg : Gl X "len") (hm : X.mg "len" = none) (hg2 : Gl X "set") (hm2 : X.mg "set" = none) (ha : PE X a ta)
    (na : starEach [a] X.env = (false, eval a X.env) :: starEach [] X.env := by rfl) : PE X (.Call (.Name "len" p) [.Call (.Name "set" p2) [a] [] q] [] pos) (tLenSetT X.K ta) := by
  refine ⟨fun pins s σ H Q I h => ?_⟩
  refine Call_ (ld_blt I hg hm PySem.boot_len (PyProof.Rows.callWith_builtin1 (PyProof.Rows.args_cons ?_ rfl) rfl rfl))
  refine Call_ (ld_blt I hg2 hm2 PyProof.Rows.boot_set ?_)
  refine PyProof.Rows.callWith_type1 (PyProof.Rows.args_cons (thn (ha.run pins s σ H _ I h) fun v s1 ⟨x, H1, I1, r1, l, ns, ex, hq, h1, q1⟩ => PyProof.Rows.args_nil ?_) na) na rfl
  subst ex
  cases r1
  obtain ⟨its, r, pl, hz⟩ := I1.tuple hq
  refine call_set_tupI ns (I1.ok.hd hc) pl (by simpa using r.ints) (by unfold scanBound; omega) fun h' tk c hS hcn hk => PyProof.Rows.args_nil ?_
  obtain ⟨o, es, ep, t, ho, hex, hd, _, hnd, hmem, hsz, hf, hn, _⟩ := hS
  have I2 : Inv X pins σ H1 { s1 with heap := h', toks := tk } := I1.kept hk
  have z := q1 _ hnd fun k => by rw [← hmem k, decide_eq_true_iff]
  rw [List.length_map, Array.length_toList] at z
  exact call_len_set ho hex hd hf (by rw [hn]; omega) ⟨.int es.size, H1, I2.tok _, ⟨_, rfl⟩, z⟩
theorem de_lenSet {C : Ct} {Ξ : Addr → Prop} {ρ : Rho} {a : Expr} {ns : List Int} {p p2 q pos : Pos} (hg : Gl C.X "len") (hm : C.X.mg "len" = none) (hg2 : Gl C.X "set") (hm2 : C.X.mg "set" = none) (hl : ns.length < 64) (ha : DEd C Ξ ρ a (tI ns)) (hc : C.X.calm = true := by rfl)
    (na : starEach [a] C.X.env = (false, eval a C.X.env) :: starEach [] C.X.env := by rfl) : DE C Ξ ρ (.Call (.Name "len" p) [.Call (.Name "set" p2) [a] [] q] [] pos) (fun d => ∃ ks : List Int, ks.Nodup ∧ (∀ k, k ∈ ks ↔ k ∈ ns) ∧ d = .int ks.length) := fun σ H E Q qq z =>
  ⟨_, pe_lenSetT hc hg hm hg2 hm2 pE na, ha σ H E _ (fun d v H2 pd g r => by
    subst pd
    obtain ⟨l, xs, rfl, h1, h2⟩ := r.ref_tup
    obtain rfl := h2.ints
    exact ⟨l, ns, rfl, SqT.of (hid_le _ _ h1), hl, fun ks k1 k2 => qq _ _ H2 ⟨ks, k1, k2, rfl⟩ g (.int _)⟩) z⟩
end DD
namespace DD
variable [Nu]
open PySem L2
theorem de_cmpI {C : Ct} {Ξ : Addr → Prop} {ρ : Rho} {a b : Expr} {pos : Pos} {op : CmpOp} {r : R2} {A : Int → Prop} {y : PyData} {k : Int → Bool} (ho : OpR C.X (compareOp op) r) (hm : behindInMarks op b = false) (ha : DI C Ξ ρ a A) (hb : DEd C Ξ ρ b y) (hr : ∀ i, A i → RB r (.int i) y (k i)) : DE C Ξ ρ (.Compare a [op] [b] pos) (fun d => ∃ i, A i ∧ d = .bool (k i)) := fun σ H E Q q z =>
  ⟨_, pe_cmpR ho pE pE hm, ha σ H E _ (fun d v H2 p g r1 => hb σ H2 (E.grow g) _ (fun d' u H3 p' g' r2 => by
    obtain ⟨i, e1, e2⟩ := p
    subst e1; subst p'
    exact hr i e2 C ρ σ H3 v u Q ((E.grow g).grow g') (r1.up (vis_gr g')) r2 (q _ _ H3 ⟨i, e2, rfl⟩ (g.trans g') (.bl _))) fun c H3 xc g' => z c H3 xc (g.trans g')) z⟩
/-! ## the value of a step -/
theorem num_sum (b : Int) (ns : List Int) : ∃ q, numI b ns = ns.sum + (b - 1) * q := by
  refine snoc_ind (p := fun ns => ∃ q, numI b ns = ns.sum + (b - 1) * q) ⟨0, by simp [numI]⟩ (fun xs x ⟨q, ih⟩ => ?_) ns
  refine ⟨xs.sum + b * q, ?_⟩
  rw [numI_app, ih, List.sum_append, List.sum_cons, List.sum_nil, Int.add_zero]
  have e : (b - 1) * (xs.sum + b * q) = (b - 1) * xs.sum + (b - 1) * (b * q) := Int.mul_add _ _ _
  rw [e, Int.add_mul, Int.mul_assoc (b - 1) q b, Int.mul_comm q b, Int.sub_mul b 1 xs.sum, Int.one_mul, Int.mul_comm xs.sum b]
  omega
theorem step_val {b : Int} {ns : List Int} (hb : Base b) (h : Row b ns) : numI b (stepI b ns) = numI b (falI ns) - numI b (srtI ns) := by
  have b2 := hb.1
  have h1 := srt_num (b := b) (by omega) ns
  have h2 := num_fal (b := b) (by omega) ns
  have h3 := numI_bd (b := b) (by omega) h.2.fal
  have h4 := numI_bd (b := b) (by omega) h.2.srt
  rw [falI_len] at h3
  unfold stepI
  exact numI_wr (by omega) _ _ (by omega) (by omega)
theorem sum_rev (l : List Int) : l.reverse.sum = l.sum := by
  induction l with
  | nil => rfl
  | cons x l ih => rw [List.reverse_cons, List.sum_append, ih, List.sum_cons, List.sum_cons, List.sum_nil]; omega
theorem step_mod {b : Int} {ns : List Int} (hb : Base b) (h : Row b ns) : numI b (stepI b ns) % (b - 1) = 0 := by
  rw [step_val hb h]
  obtain ⟨q1, e1⟩ := num_sum b (falI ns)
  obtain ⟨q2, e2⟩ := num_sum b (srtI ns)
  have e3 : (falI ns).sum = (srtI ns).sum := by
    unfold falI
    exact sum_rev _
  rw [e1, e2, e3, show (srtI ns).sum + (b - 1) * q1 - ((srtI ns).sum + (b - 1) * q2) = (b - 1) * (q1 - q2) by rw [Int.mul_sub]; omega]
  exact Int.mul_emod_right _ _
theorem step_nil {b : Int} {ns : List Int} (hb : Base b) (h : Row b ns) : numI b (stepI b ns) = 0 ↔ minI ns = maxI ns := by
  rw [step_val hb h]
  have hne := h.ne
  constructor
  · intro e
    have e2 : numI b (falI ns) = numI b (srtI ns) := by omega
    have f1 := wr_num (falI ns) h.2.fal
    have f2 := wr_num (srtI ns) h.2.srt
    rw [falI_len, e2] at f1
    rw [srtI_len] at f2
    have e3 : falI ns = srtI ns := f1.symm.trans f2
    have g1 := srt_first hne
    have g2 := srt_last hne
    rw [← e3] at g1
    unfold falI at g1
    have hl := srtI_len ns
    have hp := List.length_pos_iff.mpr hne
    rw [List.getD_eq_getElem?_getD, List.getElem?_reverse (by omega), hl, Nat.sub_zero, ← List.getD_eq_getElem?_getD] at g1
    omega
  · intro e
    have all : ∀ n ∈ ns, n = minI ns := fun n hn => by
      have := minI_le hn
      have := maxI_le hn
      omega
    have f1 : falI ns = List.replicate ns.length (minI ns) := List.eq_replicate_iff.mpr ⟨falI_len ns, fun n hn => all n ((fal_of_perm ns).mem_iff.mp hn)⟩
    have f2 : srtI ns = List.replicate ns.length (minI ns) := List.eq_replicate_iff.mpr ⟨srtI_len ns, fun n hn => all n ((srtI_perm ns).mem_iff.mp hn)⟩
    rw [f1, f2]
    omega
theorem keys_one {ns ks : List Int} (hne : ns ≠ []) (hd : ks.Nodup) (hk : ∀ k, k ∈ ks ↔ k ∈ ns) : ks.length = 1 ↔ minI ns = maxI ns := by
  constructor
  · intro e
    obtain ⟨x, rfl⟩ := List.length_eq_one_iff.mp e
    have h1 := List.mem_singleton.mp ((hk _).mpr (minI_mem hne))
    have h2 := List.mem_singleton.mp ((hk _).mpr (maxI_mem hne))
    omega
  · intro e
    have all : ∀ k ∈ ks, k = minI ns := fun k h => by
      have h := (hk k).mp h
      have := minI_le h
      have := maxI_le h
      omega
    cases ks with
    | nil => exact absurd ((hk _).mpr (minI_mem hne)) (by simp)
    | cons x t =>
      cases t with
      | nil => rfl
      | cons y t =>
        exfalso
        have h1 := all x List.mem_cons_self
        have h2 := all y (by simp)
        have := (List.nodup_cons.mp hd).1
        apply this
        rw [h1, ← h2]
        exact List.mem_cons_self
end DD

namespace DD
variable [Nu]
open PySem L2
/-! ## own lists and dicts -/
theorem owns_put {ρ : Rho} {i : Nat} {sv : SV} {b : Addr} (h : owns (ρ.set i sv) b = true) : owns ρ b = true ∨ sv.addr = some b := by
  obtain ⟨j, hj⟩ := owns_iff.mp h
  rw [gt_set] at hj
  split at hj
  · exact .inr hj
  · exact .inl (owns_iff.mpr ⟨j, hj⟩)
theorem Cell.mutG {k : Option Str} {H : Hp} {a D : Addr} {o : HO} (hx : ∀ φ, H D ≠ some (.ext φ)) (ne : a ≠ D) (h : Cell k H a) : Cell k (upd H D o) a := by
  cases k with
  | none => obtain ⟨x, y, h⟩ := h; exact ⟨x, y, by rw [upd_ne ne]; exact h⟩
  | some q =>
    obtain ⟨hq, ps, h1, h2, h3⟩ := h
    refine ⟨hq, ps, by rw [upd_ne ne]; exact h1, h2, fun pos cv hc => ?_⟩
    obtain ⟨c, e1, e2⟩ := h3 pos cv hc
    refine ⟨c, e1, ?_⟩
    rw [upd_ne fun z => by rw [z] at e2; unfold LamX.CodeO at e2; exact hx _ e2]
    exact e2
/-- a new object, owned by a slot -/
theorem Env.fresh {C : Ct} {ρ : Rho} {σ : L2.St} {H : Hp} {p : Addr} {o : HO} {sv : SV} {i : Nat} (E : Env C ρ σ H) (hp : H p = none) (ha : sv.addr = some p) (hi : i < ρ.length)
    (hs : C.O p = false → C.base p = none → SlotOk C (ρ.set i sv) (upd H p o) sv (some (.ref p))) : Env C (ρ.set i sv) (σ.set i (some (.ref p))) (upd H p o) ∧ Same (vis C ρ H) (vis C (ρ.set i sv) (upd H p o)) := by
  have hO := E.new hp
  have up : ∀ a u, H a = some u → upd H p o a = some u := fun a u e => by rw [upd_ne (ne_of_none e hp)]; exact e
  have s : Same (vis C ρ H) (vis C (ρ.set i sv) (upd H p o)) := hid_mono fun a u e1 e2 => by
    refine ⟨?_, up a u e2⟩
    unfold inn at e1 ⊢
    rw [Bool.or_eq_false_iff] at e1 ⊢
    refine ⟨e1.1, ?_⟩
    cases q : owns (ρ.set i sv) a with
    | false => rfl
    | true =>
      exfalso
      rcases owns_put q with z | z
      · rw [z] at e1; cases e1.2
      · rw [ha] at z
        injection z with z
        rw [← z, hp] at e2
        cases e2
  have hb : C.base p = none := by
    cases e : C.base p with
    | none => rfl
    | some u => rw [E.gr.keep p u (O_U hO) e] at hp; cases hp
  refine ⟨⟨by rw [List.length_set, List.length_set]; exact E.len, fun j => ?_, fun a h => ?_, fun a h => ?_, E.gr.trans (Gr.of (same_new hp)), fun j k q h1 h2 => ?_⟩, s⟩
  · rw [gt_set, sg_set]
    by_cases z : i = j
    · rw [if_pos ⟨z, hi⟩, if_pos ⟨z, by rw [E.len]; exact hi⟩]
      exact hs hO hb
    · rw [if_neg fun q => z q.1, if_neg fun q => z q.1]
      exact (E.slot j).see s fun a u _ e => up a u e
  · obtain ⟨k, e⟩ := E.cell a h
    exact ⟨k, e.up up⟩
  · cases q : H a with
    | none => exact absurd q (E.alloc a h)
    | some u => rw [up _ _ q]; simp
  · have old : ∀ m, (gt ρ m).addr = some p → False := fun m h => E.own_at (owns_iff.mpr ⟨m, h⟩) hp
    rw [gt_set] at h1 h2
    split at h1
    · split at h2
      · rename_i a b; rw [← a.1, ← b.1]
      · rw [ha] at h1; injection h1 with h1; rw [← h1] at h2; exact (old k h2).elim
    · split at h2
      · rw [ha] at h2; injection h2 with h2; rw [← h2] at h1; exact (old j h1).elim
      · exact E.dis j k q h1 h2
/-- what is owned changes -/
theorem Env.mutO {C : Ct} {ρ : Rho} {σ : L2.St} {H : Hp} {p : Addr} {o : HO} {sv : SV} {i : Nat} (E : Env C ρ σ H) (hi : (gt ρ i).addr = some p) (ha : sv.addr = some p) (hO : C.O p = false) (hb : C.base p = none) (hx : ∀ φ, H p ≠ some (.ext φ))
    (hs : vis C (ρ.set i sv) (upd H p o) = vis C ρ H → SlotOk C (ρ.set i sv) (upd H p o) sv (some (.ref p))) : Env C (ρ.set i sv) σ (upd H p o) ∧ vis C (ρ.set i sv) (upd H p o) = vis C ρ H := by
  have hlen : i < ρ.length := by
    rcases Nat.lt_or_ge i ρ.length with h | h
    · exact h
    · exfalso
      unfold gt at hi
      rw [List.getD_eq_getElem?_getD, List.getElem?_eq_none h] at hi
      cases hi
  have own : ∀ b, owns (ρ.set i sv) b = owns ρ b := fun b => by
    rw [Bool.eq_iff_iff, owns_iff, owns_iff]
    constructor
    · rintro ⟨j, h⟩
      rw [gt_set] at h
      split at h
      · rw [ha] at h; exact ⟨i, by rw [hi]; exact h⟩
      · exact ⟨j, h⟩
    · rintro ⟨j, h⟩
      refine ⟨j, ?_⟩
      rw [gt_set]
      split
      · rename_i z
        rw [ha, ← hi, z.1]
        exact h
      · exact h
  have hp : owns ρ p = true := owns_iff.mpr ⟨i, hi⟩
  have ev : vis C (ρ.set i sv) (upd H p o) = vis C ρ H := by
    funext a
    show hid _ _ a = hid _ _ a
    unfold hid
    have e : inn C (ρ.set i sv) a = inn C ρ a := by unfold inn; rw [own]
    rw [e]
    split
    · rfl
    · rename_i z
      refine upd_ne fun y => z ?_
      rw [y]
      unfold inn
      rw [hp, Bool.or_true]
  have ne : ∀ j q, (gt ρ j).addr = some q → j ≠ i → q ≠ p := fun j q h hj y => hj (E.dis j i p (by rw [h, y]) hi)
  have hU := O_U hO
  refine ⟨⟨by rw [List.length_set]; exact E.len, fun j => ?_, fun a h => ?_, fun a h => ?_, ⟨fun a u hu q => ?_, fun a k hu q => ?_⟩, fun j k q h1 h2 => ?_⟩, ev⟩
  · rw [gt_set]
    by_cases z : i = j
    · rw [if_pos ⟨z, hlen⟩, ← z]
      have e : σ.getD i none = some (.ref p) := by
        have q := E.slot i
        cases h : gt ρ i with
        | own p' ds => rw [h] at q hi; injection hi with hi; rw [← hi]; exact q.1
        | dic p' ds => rw [h] at q hi; injection hi with hi; rw [← hi]; exact q.1
        | thg p' th => rw [h] at q hi; injection hi with hi; rw [← hi]; exact q.1
        | _ => rw [h] at hi; cases hi
      rw [e]
      exact hs ev
    · rw [if_neg fun q => z q.1]
      have q := E.slot j
      cases h : gt ρ j with
      | no => trivial
      | dat d => rw [h] at q; obtain ⟨v, e, r⟩ := q; exact ⟨v, e, by rw [ev]; exact r⟩
      | raw v => rw [h] at q; exact q
      | own p' ds => rw [h] at q; obtain ⟨e', h1, h2, xs, h3, h4⟩ := q; exact ⟨e', h1, h2, xs, by rw [upd_ne (ne j p' (by rw [h]; rfl) (Ne.symm z))]; exact h3, by rw [ev]; exact h4⟩
      | dic p' ds => rw [h] at q; obtain ⟨e', h1, h2, xs, h3, h4⟩ := q; exact ⟨e', h1, h2, xs, by rw [upd_ne (ne j p' (by rw [h]; rfl) (Ne.symm z))]; exact h3, by rw [ev]; exact h4⟩
      | thg p' th => rw [h] at q; obtain ⟨e', h1, h2, xs, h3, h4⟩ := q; exact ⟨e', h1, h2, xs, by rw [upd_ne (ne j p' (by rw [h]; rfl) (Ne.symm z))]; exact h3, by rw [ev]; exact h4⟩
  · obtain ⟨k, e⟩ := E.cell a h
    exact ⟨k, e.mutG hx fun z => by rw [z, hU] at h; cases h⟩
  · by_cases z : a = p
    · rw [z, upd_same]; simp
    · rw [upd_ne z]; exact E.alloc a h
  · rw [upd_ne (fun z => by rw [z, hb] at q; cases q)]
    exact E.gr.keep a u hu q
  · exact (E.gr.cell a k hu q).mutG hx fun z => by rw [z, hU] at hu; cases hu
  · rw [gt_set] at h1 h2
    split at h1
    · split at h2
      · rename_i a b; rw [← a.1, ← b.1]
      · rename_i a b
        rw [ha] at h1
        rw [← a.1]
        exact E.dis i k q (by rw [hi]; exact h1) h2
    · split at h2
      · rename_i a b
        rw [ha] at h2
        rw [← b.1]
        exact E.dis j i q h1 (by rw [hi]; exact h2)
      · exact E.dis j k q h1 h2
theorem Env.own_of {C : Ct} {ρ : Rho} {σ : L2.St} {H : Hp} {i : Nat} {p : Addr} {ds : List PyData} (E : Env C ρ σ H) (h : gt ρ i = .own p ds) : σ[i]? = some (some (.ref p)) ∧ C.O p = false ∧ C.base p = none ∧ ∃ xs, H p = some (.lst xs) ∧ AtAll (vis C ρ H) xs ds := by
  have s := E.slot i
  rw [h] at s
  obtain ⟨e, h1, h2, h3⟩ := s
  refine ⟨?_, h1, h2, h3⟩
  rw [List.getD_eq_getElem?_getD] at e
  cases q : σ[i]? with
  | none => rw [q] at e; cases e
  | some o => rw [q] at e; exact congrArg some e
theorem Env.dic_of {C : Ct} {ρ : Rho} {σ : L2.St} {H : Hp} {i : Nat} {p : Addr} {kvs : List (List Int × PyData)} (E : Env C ρ σ H) (h : gt ρ i = .dic p kvs) : σ[i]? = some (some (.ref p)) ∧ C.O p = false ∧ C.base p = none ∧ ∃ xs : List V, H p = some (.dT ((kvs.map fun z => keyOf z.1).zip xs)) ∧ AtAll (vis C ρ H) xs (kvs.map (·.2)) := by
  have s := E.slot i
  rw [h] at s
  obtain ⟨e, h1, h2, h3⟩ := s
  refine ⟨?_, h1, h2, h3⟩
  rw [List.getD_eq_getElem?_getD] at e
  cases q : σ[i]? with
  | none => rw [q] at e; cases e
  | some o => rw [q] at e; exact congrArg some e
theorem keyOf_kV (k : List Int) : (keyOf k).map kV = k.map V.int := by unfold keyOf; rw [List.map_map]; rfl
theorem keyOf_inj {a b : List Int} (h : keyOf a = keyOf b) : a = b := by
  induction a generalizing b with
  | nil => cases b with
    | nil => rfl
    | cons y ys => cases h
  | cons x xs ih => cases b with
    | nil => cases h
    | cons y ys =>
      injection h with h1 h2
      injection h1 with h1
      rw [h1, ih h2]
/-- a key looked up -/
theorem val_dic {Hv : Hp} {k : List Int} : ∀ {kvs : List (List Int × PyData)} {xs : List V}, AtAll Hv xs (kvs.map (·.2)) → (match kvs.find? fun z => decide (z.1 = k) with
    | none => valV ((kvs.map fun z => keyOf z.1).zip xs) (keyOf k) = none
    | some z => ∃ v, valV ((kvs.map fun z => keyOf z.1).zip xs) (keyOf k) = some v ∧ At Hv v z.2)
  | [], _, h => by cases h; rfl
  | z :: kvs, _, h => by
    cases h with
    | cons r t =>
      have ih := val_dic (k := k) t
      by_cases e : z.1 = k
      · rw [List.find?_cons_of_pos (by simpa using e)]
        exact ⟨_, by rw [List.map_cons, List.zip_cons_cons, valV_pos (by rw [e])], r⟩
      · rw [List.find?_cons_of_neg (by simpa using e)]
        rw [List.map_cons, List.zip_cons_cons, valV_neg fun y => e (keyOf_inj y)]
        exact ih
section
variable {C : Ct} {Ξ : Addr → Prop} {ρ : Rho} {e : Expr} {pos p px : Pos} {F : Out → Prop}
theorem iv_tup {H : Hp} {v : V} {k : List Int} (h : At H v (tI k)) : ∃ b, v = .ref b ∧ H b = some (.tup ((keyOf k).map kV)) := by
  obtain ⟨b, xs, rfl, h1, h2⟩ := h.ref_tup
  rw [h2.ints] at h1
  exact ⟨b, rfl, by rw [keyOf_kV]; exact h1⟩
/-- k not in d -/
theorem dt_notInO (i : Nat) {x : Str} {q : Addr} {kvs : List (List Int × PyData)} {k : List Int} (h : gt ρ i = .dic q kvs) (hN : C.X.N[i]? = some x) (hv : Vis C.X.env.scope x) (hk : DEd C Ξ ρ e (tI k)) (hd : (x == ("__debug__" : Str)) = false := by decide) (hcd : (x == ("__classdict__" : Str)) = false := by decide)
    (hm : behindInMarks .NotIn (.Name x px) = false := by rfl) : DTd C Ξ ρ (.Compare e [.NotIn] [.Name x px] pos) (!(kvs.find? fun z => decide (z.1 = k)).isSome) := fun σ H E Q qq z =>
  ⟨_, pt_cmp (pc_dnotin (by have := C.un; omega) pE (pe_var hN hv hd hcd)) hm, hk σ H E _ (fun d v H2 pd g r => by
    subst pd
    obtain ⟨b, rfl, hb⟩ := iv_tup r
    obtain ⟨h1, h2, h3, xs, h4, h5⟩ := (E.grow g).dic_of h
    have hv := val_dic (k := k) h5
    refine ⟨_, h1, q, _, rfl, DGet.t h4 (hid_le _ _ hb), _, rfl, qq _ H2 ?_ g⟩
    cases hf : kvs.find? fun z => decide (z.1 = k) with
    | none => rw [hf] at hv; rw [hv]; rfl
    | some z => rw [hf] at hv; obtain ⟨v, e1, _⟩ := hv; rw [e1]; rfl) z⟩
/-- d[k] -/
theorem de_dgetO (i : Nat) {x : Str} {q : Addr} {kvs : List (List Int × PyData)} {k : List Int} {z : List Int × PyData} (h : gt ρ i = .dic q kvs) (hN : C.X.N[i]? = some x) (hv : Vis C.X.env.scope x) (hk : DEd C Ξ ρ e (tI k)) (hz : (kvs.find? fun z => decide (z.1 = k)) = some z) (hd : (x == ("__debug__" : Str)) = false := by decide) (hcd : (x == ("__classdict__" : Str)) = false := by decide)
    (hs : NoSl e := by intro _ _; rfl) : DEd C Ξ ρ (.Subscript (.Name x px) e pos) z.2 := fun σ H E Q qq zz =>
  ⟨_, pe_dget (by have := C.un; omega) (pe_var hN hv hd hcd) pE hs, _, (E.dic_of h).1, hk σ H E _ (fun d v H2 pd g r => by
    subst pd
    obtain ⟨b, rfl, hb⟩ := iv_tup r
    obtain ⟨h1, h2, h3, xs, h4, h5⟩ := (E.grow g).dic_of h
    have hv := val_dic (k := k) h5
    rw [hz] at hv
    obtain ⟨v, e1, e2⟩ := hv
    refine ⟨q, v, rfl, ?_, qq _ _ H2 rfl g e2⟩
    have := DGet.t h4 (hid_le _ _ hb)
    rw [e1] at this
    exact this) zz⟩
/-- d[k] = v, k new -/
theorem ds_dputO (i : Nat) {x : Str} {q : Addr} {kvs : List (List Int × PyData)} {k : List Int} {d : PyData} {ve : Expr} {pos' : Pos} (h : gt ρ i = .dic q kvs) (hN : C.X.N[i]? = some x) (hv : Vis C.X.env.scope x) (hve : DEd C (xi F) ρ ve d) (hk : DEd C (xi F) ρ e (tI k)) (hz : (kvs.find? fun z => decide (z.1 = k)) = none) (hl : kvs.length < 16777216)
    (kk : F (.nx (ρ.set i (.dic q (kvs ++ [(k, d)]))))) (hd : (x == ("__debug__" : Str)) = false := by decide) (hcd : (x == ("__classdict__" : Str)) = false := by decide) (hs : swapsWith ve (some (.Subscript (.Name x px) e pos')) pos.line C.X.env = pure false := by rfl) : DS C F ρ (.Assign [.Subscript (.Name x px) e pos'] ve pos) := fun D σ H E q0 =>
  ⟨_, ps_dput (by have := C.un; omega) (pe_var hN hv hd hcd) pE pE hs, hve σ H E _ (fun d1 v1 H1 p1 g1 r1 => ⟨_, ((E.grow g1).dic_of h).1, hk σ H1 (E.grow g1) _ (fun d2 v2 H2 p2 g2 r2 => by
    subst p1; subst p2
    have E2 := (E.grow g1).grow g2
    obtain ⟨b, rfl, hb⟩ := iv_tup r2
    obtain ⟨h1, h2, h3, xs, h4, h5⟩ := E2.dic_of h
    have hv := val_dic (k := k) h5
    rw [hz] at hv
    have hlen := h5.len
    rw [List.length_map] at hlen
    have r1' := r1.up (vis_gr g2)
    have hput : putK ((kvs.map fun z => keyOf z.1).zip xs) (keyOf k) v1 = (((kvs ++ [(k, d1)]).map fun z => keyOf z.1).zip (xs ++ [v1])) := by
      unfold putK
      rw [valV_any, hv, if_neg (by simp), List.map_append, List.zip_append (by rw [List.length_map]; exact hlen.symm)]
      rfl
    obtain ⟨E3, ev⟩ := E2.mutO (o := .dT (((kvs ++ [(k, d1)]).map fun z => keyOf z.1).zip (xs ++ [v1]))) (sv := .dic q (kvs ++ [(k, d1)])) (i := i) (by rw [h]; rfl) rfl h2 h3 (fun φ y => by rw [h4] at y; cases y) fun ev => ⟨rfl, h2, h3, xs ++ [v1], upd_same, by rw [ev, List.map_append]; exact h5.app (.cons r1' .nil)⟩
    refine ⟨q, _, rfl, DPut.t h4 (hid_le _ _ hb) (by rw [List.length_zip, List.length_map, sizeLine_eq]; omega), ?_⟩
    rw [hput]
    exact q0.nx _ _ _ kk E3 (by rw [ev]; exact (vis_gr g1).trans (vis_gr g2))) (fun c H2 x g => q0.exE E c H2 x (g1.trans g))⟩) (q0.exE E)⟩
/-- l.append(e) -/
theorem ds_appendO (i : Nat) {x : Str} {q : Addr} {ds : List PyData} {d : PyData} {apos cpos : Pos} (h : gt ρ i = .own q ds) (hN : C.X.N[i]? = some x) (hv : Vis C.X.env.scope x) (he : DEd C (xi F) ρ e d) (hl : ds.length < 16777216) (kk : F (.nx (ρ.set i (.own q (ds ++ [d])))))
    (hd : (x == ("__debug__" : Str)) = false := by decide) (hcd : (x == ("__classdict__" : Str)) = false := by decide) (hbase : attributeBase (.Name x px) "append" C.X.env (eval (.Name x px) C.X.env) = eval (.Name x px) C.X.env := by rfl)
    (hfew : ((backTo cpos (starEach [e] C.X.env)).all (fun x => !x.1) && (backToKw cpos (keywordEach [] C.X.env)).all (fun x => x.1.isSome) && decide ([e].length + ([] : List Keyword).length + (if ([] : List Keyword).isEmpty then 0 else 1) < 30)) = true := by rfl)
    (hline : (apos.endLine == cpos.line) = true := by rfl) (hss : starEach [e] C.X.env = (false, eval e C.X.env) :: starEach [] C.X.env := by rfl) (hplain : (backTo cpos (starEach [] C.X.env)).any (·.1) = false := by rfl) (hs : swapsWith (.Call (.Attribute (.Name x px) "append" apos) [e] [] cpos) none pos.line C.X.env = pure false := by rfl) :
    DS C F ρ (.Expr (.Call (.Attribute (.Name x px) "append" apos) [e] [] cpos) pos) := fun D σ H E q0 =>
  ⟨_, ps_expr (pe_bm PySem.F.plainAttrs_list PySem.F.slot_list_append PySem.F.type_list_append mt_append (pe_var hN hv hd hcd) (pa_cons pE pa_nil hss) hbase hfew hline hss hplain) hs, by
    obtain ⟨h1, h2, h3, xs, h4, h5⟩ := E.own_of h
    refine ⟨_, h1, .inl ⟨rfl, xs, SqL.of h4⟩, he σ H E _ (fun d1 v1 H1 p1 g1 r1 => ?_) (q0.exE E)⟩
    subst p1
    have E1 := E.grow g1
    obtain ⟨_, _, _, ys, h6, h7⟩ := E1.own_of h
    have hlen := h7.len
    obtain ⟨E3, ev⟩ := E1.mutO (o := .lst (ys ++ [v1])) (sv := .own q (ds ++ [d1])) (i := i) (by rw [h]; rfl) rfl h2 h3 (fun φ y => by rw [h6] at y; cases y) fun ev => ⟨rfl, h2, h3, ys ++ [v1], upd_same, by rw [ev]; exact h7.app (.cons r1 .nil)⟩
    exact ⟨q, ys, v1, rfl, rfl, h6, by rw [sizeLine_eq]; omega, q0.nx _ _ _ kk E3 (by rw [ev]; exact vis_gr g1)⟩⟩
/-- len(l) -/
theorem de_lenO (i : Nat) {x : Str} {q : Addr} {ds : List PyData} (h : gt ρ i = .own q ds) (hN : C.X.N[i]? = some x) (hv : Vis C.X.env.scope x) (hg : Gl C.X "len") (hm : C.X.mg "len" = none) (hd : (x == ("__debug__" : Str)) = false := by decide) (hcd : (x == ("__classdict__" : Str)) = false := by decide)
    (he : starEach [.Name x px] C.X.env = (false, eval (.Name x px) C.X.env) :: starEach [] C.X.env := by rfl) (hpl : (backTo pos (starEach [] C.X.env)).any (·.1) = false := by rfl) : DEd C Ξ ρ (.Call (.Name "len" p) [.Name x px] [] pos) (.int ds.length) := fun σ H E Q k z => by
  obtain ⟨h1, h2, h3, xs, h4, h5⟩ := E.own_of h
  exact ⟨_, pe_callB call_len hg hm b_len (pa_cons (pe_var hN hv hd hcd) pa_nil he) (by decide) (by decide) he hpl, _, h1, .ref q, xs.length, rfl, .inl ⟨xs, SqL.of h4, rfl⟩, by rw [h5.len]; exact k _ _ H rfl (Gr.refl _ _) (.int _)⟩
/-- return l, e : the own list goes out -/
theorem ds_retO (i : Nat) {x : Str} {q : Addr} {ds : List PyData} {d : PyData} {k : Nat} {tp : Pos} (h : gt ρ i = .own q ds) (hN : C.X.N[i]? = some x) (hv : Vis C.X.env.scope x) (he : DEd C (xi F) ρ e d) (kk : F (.rt (.tuple [.list ds, d]))) (hd : (x == ("__debug__" : Str)) = false := by decide) (hcd : (x == ("__classdict__" : Str)) = false := by decide)
    (h1 : starEach [.Name x px, e] C.X.env = (false, eval (.Name x px) C.X.env) :: starEach [e] C.X.env := by rfl) (h2 : starEach [e] C.X.env = (false, eval e C.X.env) :: starEach [] C.X.env := by rfl) : DS C F ρ (.Return (some (.Tuple [.Name x px, e] k tp)) pos) := fun D σ H E q0 =>
  ⟨_, ps_ret (pe_tup (pa_cons (pe_var hN hv hd hcd) (pa_cons pE pa_nil h2) h1)), _, (E.own_of h).1, he σ H E _ (fun d1 v1 H1 p1 g1 r1 => by
    subst p1
    have E1 := E.grow g1
    obtain ⟨_, o2, o3, xs, o4, o5⟩ := E1.own_of h
    refine ⟨by rw [sizeLine_eq]; show 2 ≤ _; omega, fun t ht => ?_⟩
    have gg : Gr C.U C.base (upd H1 t (.tup [.ref q, v1])) := E1.gr.trans (Gr.of (same_new ht))
    have sO : Same (vis C ρ H1) (hid C.O (upd H1 t (.tup [.ref q, v1]))) := (see_O).trans (hid_mono fun a o e1 e2 => ⟨e1, same_new ht a o e2⟩)
    refine q0.rt _ _ _ kk gg (.tup ((hid_at (E1.new ht)).trans upd_same) (.cons (.lst (xs := xs) ?_ (o5.up sO)) (.cons (r1.up sO) .nil)))
    rw [hid_at o2, upd_ne (ne_of_none o4 ht)]
    exact o4) (q0.exE E)⟩
/-- d, l = {}, [] -/
theorem ds_newDL (i j : Nat) {x y : Str} {px py pt dp lp pt2 : Pos} {kt k2 : Nat} (k : ∀ a b, a ≠ b → F (.nx ((ρ.set i (.dic a [])).set j (.own b [])))) (hN : C.X.N.Nodup) (hi : C.X.N[i]? = some x) (hj : C.X.N[j]? = some y) (hij : i ≠ j) (hli : i < ρ.length) (hlj : j < ρ.length)
    (hx : C.X.env.scope.names.lookup x = some .local) (hy : C.X.env.scope.names.lookup y = some .local) (hw : swappedStores [.Tuple [.Name x px, .Name y py] kt pt] (.Tuple [.Dict [] [] dp, .List [] lp] k2 pt2) C.X.env = pure (some [x, y]))
    (h1 : starEach [.Dict [] [] dp, .List [] lp] C.X.env = (false, eval (.Dict [] [] dp) C.X.env) :: starEach [.List [] lp] C.X.env := by rfl) (h2 : starEach [.List [] lp] C.X.env = (false, eval (.List [] lp) C.X.env) :: starEach [] C.X.env := by rfl)
    (hc : C.X.calm = true := by rfl) (hs : swapsWithSole [.Tuple [.Name x px, .Name y py] kt pt] (.Tuple [.Dict [] [] dp, .List [] lp] k2 pt2) pos.line C.X.env = pure false := by rfl) : DS C F ρ (.Assign [.Tuple [.Name x px, .Name y py] kt pt] (.Tuple [.Dict [] [] dp, .List [] lp] k2 pt2) pos) := fun D σ H E q =>
  ⟨_, ps_par hc hN hi hj hij hx hy (pa_cons pe_dnewT (pa_cons (pe_lst pa_nil) pa_nil h2) h1) hw hs, fun a ha => ⟨by decide, fun b hb => by
    obtain ⟨E1, s1⟩ := E.fresh (o := .dT []) (sv := .dic a []) (i := i) ha rfl hli fun o1 o2 => ⟨rfl, o1, o2, [], upd_same, .nil⟩
    have hab : a ≠ b := fun z => by rw [← z, upd_same] at hb; cases hb
    obtain ⟨E2, s2⟩ := E1.fresh (o := .lst []) (sv := .own b []) (i := j) hb rfl (by rw [List.length_set]; exact hlj) fun o1 o2 => ⟨rfl, o1, o2, [], upd_same, .nil⟩
    exact ⟨.ref a, .ref b, rfl, q.nx _ _ _ (k a b hab) E2 (s1.trans s2)⟩⟩⟩
end
end DD

namespace DD
variable [Nu]
open PySem L2
/-! ## courses -/
def orb (b : Int) (r : List Int) : Nat → List Int
  | 0 => r
  | k + 1 => stepI b (orb b r k)
theorem orb_row {b : Int} {r : List Int} (hb : 1 ≤ b) (hr : Row b r) : ∀ k, Row b (orb b r k)
  | 0 => hr
  | k + 1 => (orb_row hb hr k).step hb
theorem orb_len {b : Int} {r : List Int} : ∀ k, (orb b r k).length = r.length
  | 0 => rfl
  | k + 1 => by show (stepI b (orb b r k)).length = _; rw [stepI_len, orb_len k]
theorem pigeon : ∀ (n : Nat) (l : List Nat), l.Nodup → (∀ x ∈ l, x < n) → l.length ≤ n
  | 0, l, _, h => by
    cases l with
    | nil => exact Nat.le_refl _
    | cons x l => exact absurd (h x List.mem_cons_self) (Nat.not_lt_zero _)
  | n + 1, l, hd, h => by
    have h1 := pigeon n (l.erase n) (hd.erase n) fun x hx => by
      have h2 := (List.Nodup.mem_erase_iff hd).mp hx
      have := h x h2.2
      have := h2.1
      omega
    rw [List.length_erase] at h1
    split at h1 <;> omega
theorem num_inj {b : Int} {xs ys : List Int} (hx : Dg b xs) (hy : Dg b ys) (hl : xs.length = ys.length) (h : numI b xs = numI b ys) : xs = ys := by
  rw [← wr_num xs hx, ← wr_num ys hy, hl, h]
theorem gap_dg {b : Int} {ns : List Int} (hb : Base b) (h : Row b ns) : Dg 12 (gapI ns) := fun g hg => by
  unfold gapI at hg
  obtain ⟨i, hi, rfl⟩ := List.mem_map.mp hg
  have hi := List.mem_range.mp hi
  have hl := srtI_len ns
  have b12 := hb.2
  have h0 := pw_getD (srt_pw ns) (show i ≤ (srtI ns).length - 1 - i by omega) (by omega)
  have h1 := h.2.srt _ (getD_mem (s := srtI ns) (i := i) (by omega))
  have h2 := h.2.srt _ (getD_mem (s := srtI ns) (i := (srtI ns).length - 1 - i) (by omega))
  unfold gapAt
  omega
theorem gap_len (ns : List Int) : (gapI ns).length = ns.length / 2 := by unfold gapI; rw [List.length_map, List.length_range]
theorem gap_num {b : Int} {ns : List Int} (hb : Base b) (h : Row b ns) : 0 ≤ numI 12 (gapI ns) ∧ numI 12 (gapI ns) < 20736 := by
  have h1 := numI_bd (b := 12) (by decide) (gap_dg hb h)
  have h2 : (12 : Int) ^ (gapI ns).length ≤ 12 ^ 4 := by
    have e := Nat.pow_le_pow_right (show 0 < 12 by decide) (show (gapI ns).length ≤ 4 by rw [gap_len]; have := h.1; omega)
    have := Int.ofNat_le.mpr e
    simpa using this
  have h3 : (12 : Int) ^ 4 = 20736 := by decide
  omega
/-- no two of the first k rows are the same -/
def Far (b : Int) (r : List Int) (k : Nat) : Prop := ∀ i j, i < j → j < k → orb b r i ≠ orb b r j
theorem far_bound {b : Int} {r : List Int} (hb : Base b) (hr : Row b r) {k : Nat} (h : Far b r k) : k ≤ 20737 := by
  have b1 : 1 ≤ b := by have := hb.1; omega
  let g : Nat → Nat := fun i => (numI 12 (gapI (orb b r i))).toNat
  have inj : ∀ i j, i < j → j < k - 1 → g i ≠ g j := fun i j hij hj e => by
    have h1 := gap_num hb (orb_row b1 hr i)
    have h2 := gap_num hb (orb_row b1 hr j)
    have e2 : numI 12 (gapI (orb b r i)) = numI 12 (gapI (orb b r j)) := by
      have e : (numI 12 (gapI (orb b r i))).toNat = (numI 12 (gapI (orb b r j))).toNat := e
      omega
    have e3 := num_inj (gap_dg hb (orb_row b1 hr i)) (gap_dg hb (orb_row b1 hr j)) (by rw [gap_len, gap_len, orb_len, orb_len]) e2
    exact h (i + 1) (j + 1) (by omega) (by omega) (gap_step (by rw [orb_len, orb_len]) e3)
  have nd : ((List.range (k - 1)).map g).Nodup := by
    unfold List.Nodup
    rw [List.pairwise_map]
    refine List.Pairwise.imp_of_mem (fun {a c} ha hc hac => ?_) (List.pairwise_lt_range (n := k - 1))
    exact inj a c hac (List.mem_range.mp hc)
  have hp := pigeon 20736 _ nd fun x hx => by
    obtain ⟨i, _, rfl⟩ := List.mem_map.mp hx
    have := gap_num hb (orb_row b1 hr i)
    show (numI 12 (gapI (orb b r i))).toNat < 20736
    omega
  rw [List.length_map, List.length_range] at hp
  omega
/-- the course: n rows, then the one at j again -/
structure Course (b : Int) (r : List Int) (n j : Nat) : Prop where
  far : Far b r n
  lt : j < n
  eq : orb b r n = orb b r j
theorem Course.uniq {b : Int} {r : List Int} {n j n' j' : Nat} (c : Course b r n j) (c' : Course b r n' j') : n = n' ∧ j = j' := by
  have hn : n = n' := by
    rcases Nat.lt_trichotomy n n' with h | h | h
    · exact absurd c.eq.symm (c'.far j n c.lt h)
    · exact h
    · exact absurd c'.eq.symm (c.far j' n' c'.lt h)
  subst hn
  refine ⟨rfl, ?_⟩
  rcases Nat.lt_trichotomy j j' with h | h | h
  · exact absurd (c.eq.symm.trans c'.eq) (c.far j j' h c'.lt)
  · exact h
  · exact absurd (c'.eq.symm.trans c.eq) (c.far j' j h c.lt)
def rowsD (b : Int) (r : List Int) (n : Nat) : List PyData := (List.range n).map fun i => tI (orb b r i)
def placesD (b : Int) (r : List Int) (n : Nat) : List (List Int × PyData) := (List.range n).map fun (i : Nat) => (orb b r i, .int (i : Int))
theorem rowsD_succ (b : Int) (r : List Int) (n : Nat) : rowsD b r (n + 1) = rowsD b r n ++ [tI (orb b r n)] := by unfold rowsD; rw [List.range_succ, List.map_append]; rfl
theorem placesD_succ (b : Int) (r : List Int) (n : Nat) : placesD b r (n + 1) = placesD b r n ++ [(orb b r n, .int (n : Int))] := by unfold placesD; rw [List.range_succ, List.map_append]; rfl
theorem rowsD_len (b : Int) (r : List Int) (n : Nat) : (rowsD b r n).length = n := by unfold rowsD; rw [List.length_map, List.length_range]
theorem placesD_len (b : Int) (r : List Int) (n : Nat) : (placesD b r n).length = n := by unfold placesD; rw [List.length_map, List.length_range]
theorem places_none {b : Int} {r : List Int} {n : Nat} {k : List Int} (h : ((placesD b r n).find? fun z => decide (z.1 = k)) = none) : ∀ j, j < n → orb b r j ≠ k := fun j hj e => by
  have := List.find?_eq_none.mp h (orb b r j, .int (j : Int)) (by unfold placesD; exact List.mem_map.mpr ⟨j, List.mem_range.mpr hj, rfl⟩)
  simp [e] at this
theorem places_some {b : Int} {r : List Int} {n : Nat} {k : List Int} {z : List Int × PyData} (h : ((placesD b r n).find? fun z => decide (z.1 = k)) = some z) : ∃ j, j < n ∧ orb b r j = k ∧ z.2 = .int (j : Int) := by
  have h1 := List.mem_of_find?_eq_some h
  have h2 := List.find?_some h
  unfold placesD at h1
  obtain ⟨j, hj, rfl⟩ := List.mem_map.mp h1
  exact ⟨j, List.mem_range.mp hj, of_decide_eq_true h2, rfl⟩
end DD

namespace DD
variable [Nu]
open PySem L2
/-! ## the course of a row, told by choice; its round -/
theorem orb_add (b : Int) (r : List Int) (s : Nat) : ∀ t, orb b (orb b r s) t = orb b r (s + t)
  | 0 => rfl
  | t + 1 => by show stepI b (orb b (orb b r s) t) = stepI b (orb b r (s + t)); rw [orb_add b r s t]
theorem course_ex {b : Int} {r : List Int} (hb : Base b) (hr : Row b r) : ∃ p : Nat × Nat, Course b r p.1 p.2 := by
  refine Classical.byContradiction fun hn => ?_
  have h : ∀ k, Far b r k := fun k => by
    induction k with
    | zero => exact fun i j _ hj => absurd hj (Nat.not_lt_zero _)
    | succ k ih =>
      intro i j hij hj e
      rcases Nat.lt_or_ge j k with h | h
      · exact ih i j hij h e
      · have : j = k := by omega
        subst this
        exact hn ⟨(j, i), ih, hij, e.symm⟩
  have := far_bound hb hr (h 20738)
  omega
noncomputable def crs (b : Int) (r : List Int) : Nat × Nat := open Classical in if h : ∃ p : Nat × Nat, Course b r p.1 p.2 then Classical.choose h else (0, 0)
theorem crs_ok {b : Int} {r : List Int} (hb : Base b) (hr : Row b r) : Course b r (crs b r).1 (crs b r).2 := by
  unfold crs
  have h := course_ex hb hr
  rw [dif_pos h]
  exact Classical.choose_spec h
theorem crs_le {b : Int} {r : List Int} (hb : Base b) (hr : Row b r) : (crs b r).1 ≤ 20737 := far_bound hb hr (crs_ok hb hr).far
theorem crs_uniq {b : Int} {r : List Int} (hb : Base b) (hr : Row b r) {n j : Nat} (h : Course b r n j) : n = (crs b r).1 ∧ j = (crs b r).2 := h.uniq (crs_ok hb hr)
/-- from j on, the course has the period n - j -/
theorem Course.per {b : Int} {r : List Int} {n j : Nat} (c : Course b r n j) : ∀ t, orb b r (n + t) = orb b r (j + t) := fun t => by
  rw [← orb_add, ← orb_add, c.eq]
theorem Course.pers {b : Int} {r : List Int} {n j : Nat} (c : Course b r n j) {i : Nat} (h : j ≤ i) : ∀ k, orb b r (i + k * (n - j)) = orb b r i
  | 0 => by rw [Nat.zero_mul]; rfl
  | k + 1 => by
    have hl := c.lt
    have e : i + (k + 1) * (n - j) = n + (i - j + k * (n - j)) := by rw [Nat.succ_mul]; omega
    rw [e, c.per, show j + (i - j + k * (n - j)) = i + k * (n - j) by omega, c.pers h k]
/-- every row of the course at i ≥ j is one of those from j to n -/
theorem Course.back {b : Int} {r : List Int} {n j : Nat} (c : Course b r n j) (i : Nat) : j ≤ i → ∃ i', j ≤ i' ∧ i' < n ∧ orb b r i' = orb b r i := fun h => by
  have hl := c.lt
  refine ⟨j + (i - j) % (n - j), by omega, by have := Nat.mod_lt (i - j) (show n - j > 0 by omega); omega, ?_⟩
  have e : i = j + (i - j) % (n - j) + (i - j) / (n - j) * (n - j) := by
    have := Nat.div_add_mod (i - j) (n - j)
    rw [Nat.mul_comm] at this
    omega
  have := c.pers (i := j + (i - j) % (n - j)) (by omega) ((i - j) / (n - j))
  rw [← e] at this
  exact this.symm
theorem keys_inj : ∀ {xs ys : List Int}, PySem.W.keyToksAll (iv xs) = PySem.W.keyToksAll (iv ys) → xs = ys
  | [], [], _ => rfl
  | [], y :: ys, h => by
    rw [show iv (y :: ys) = PyData.int y :: iv ys from rfl, PySem.W.toks_all_cons] at h
    simp [iv, PySem.W.keyToksAll] at h
  | x :: xs, [], h => by
    rw [show iv (x :: xs) = PyData.int x :: iv xs from rfl, PySem.W.toks_all_cons] at h
    simp [iv, PySem.W.keyToksAll] at h
  | x :: xs, y :: ys, h => by
    rw [show iv (x :: xs) = PyData.int x :: iv xs from rfl, show iv (y :: ys) = PyData.int y :: iv ys from rfl, PySem.W.toks_all_cons, PySem.W.toks_all_cons] at h
    simp only [PySem.W.keyToks, List.cons_append, List.nil_append, List.cons.injEq, true_and, Sum.inl.injEq] at h
    rw [h.1, keys_inj h.2]
theorem lt_tot {a b : List Int} (h : PySem.W.dataLt (tI a) (tI b) = false) (h' : PySem.W.dataLt (tI b) (tI a) = false) : a = b := by
  have e := PyProof.Rows.lex_total _ _ h h'
  simp only [tI, PySem.W.keyToks] at e
  exact keys_inj e
theorem minD_mem : ∀ (ds : List PyData) (x : PyData), PySem.W.minD x ds ∈ x :: ds
  | [], x => List.mem_cons_self
  | y :: ds, x => by
    have h := minD_mem ds (if PySem.W.dataLt y x then y else x)
    have e : PySem.W.minD x (y :: ds) = PySem.W.minD (if PySem.W.dataLt y x then y else x) ds := rfl
    rw [e]
    rcases List.mem_cons.mp h with h | h
    · rw [h]
      split
      · exact List.mem_cons_of_mem _ List.mem_cons_self
      · exact List.mem_cons_self
    · exact List.mem_cons_of_mem _ (List.mem_cons_of_mem _ h)
theorem minD_le : ∀ (ds : List PyData) (x : PyData), ∀ z ∈ x :: ds, PySem.W.dataLt z (PySem.W.minD x ds) = false
  | [], x, z, hz => by
    rcases List.mem_cons.mp hz with rfl | h
    · exact PyProof.Rows.lex_irrefl _
    · cases h
  | y :: ds, x, z, hz => by
    have e : PySem.W.minD x (y :: ds) = PySem.W.minD (if PySem.W.dataLt y x then y else x) ds := rfl
    rw [e]
    have ih := minD_le ds (if PySem.W.dataLt y x then y else x)
    have h0 := ih _ List.mem_cons_self
    have key : ∀ u, PySem.W.dataLt u (if PySem.W.dataLt y x then y else x) = false → PySem.W.dataLt u (PySem.W.minD (if PySem.W.dataLt y x then y else x) ds) = false := fun u hu => by
      cases h : PySem.W.dataLt u (PySem.W.minD (if PySem.W.dataLt y x then y else x) ds) with
      | false => rfl
      | true =>
        rcases PyProof.Rows.lex_negTrans _ (PySem.W.keyToks (if PySem.W.dataLt y x then y else x)) _ h with h1 | h1
        · exact absurd (hu.symm.trans h1) Bool.false_ne_true
        · exact absurd (h0.symm.trans h1) Bool.false_ne_true
    rcases List.mem_cons.mp hz with rfl | hz
    · refine key z ?_
      split
      · rename_i h
        cases h2 : PySem.W.dataLt z y with
        | false => rfl
        | true => exact absurd ((PyProof.Rows.lex_irrefl _).symm.trans (PyProof.Rows.lex_trans _ _ _ h2 h)) Bool.false_ne_true
      · exact PyProof.Rows.lex_irrefl _
    · rcases List.mem_cons.mp hz with rfl | hz
      · refine key z ?_
        split
        · exact PyProof.Rows.lex_irrefl _
        · rename_i h; exact Bool.eq_false_iff.mpr h
      · exact ih z (List.mem_cons_of_mem _ hz)
/-- m is the least row of the round of r, L the length of the round -/
structure Circ (b : Int) (r m : List Int) (L : Nat) : Prop where
  at_ : ∃ i, orb b r i = m
  pos : 0 < L
  per : orb b m L = m
  low : ∀ t, 0 < t → t < L → orb b m t ≠ m
  least : ∀ t, PySem.W.dataLt (tI (orb b m t)) (tI m) = false
theorem Circ.pers {b : Int} {r m : List Int} {L : Nat} (c : Circ b r m L) : ∀ k, orb b m (k * L) = m
  | 0 => by rw [Nat.zero_mul]; rfl
  | k + 1 => by rw [Nat.succ_mul, ← orb_add, c.pers k, c.per]
theorem Circ.shift {b : Int} {r m : List Int} {L : Nat} (c : Circ b r m L) (s : Nat) : Circ b (orb b r s) m L := by
  obtain ⟨i, hi⟩ := c.at_
  refine ⟨⟨i + s * L - s, ?_⟩, c.pos, c.per, c.low, c.least⟩
  have h : s ≤ s * L := Nat.le_mul_of_pos_right s c.pos
  rw [orb_add, show s + (i + s * L - s) = i + s * L by omega, ← orb_add, hi, c.pers]
theorem Circ.unshift {b : Int} {r m : List Int} {L s : Nat} (c : Circ b (orb b r s) m L) : Circ b r m L := by
  obtain ⟨i, hi⟩ := c.at_
  exact ⟨⟨s + i, by rw [← orb_add]; exact hi⟩, c.pos, c.per, c.low, c.least⟩
theorem Circ.one {b : Int} {r m m' : List Int} {L L' : Nat} (c : Circ b r m L) (c' : Circ b r m' L') : m = m' ∧ L = L' := by
  obtain ⟨i, hi⟩ := c.at_
  obtain ⟨j, hj⟩ := c'.at_
  have e1 : ∃ t, orb b m t = m' := ⟨j + i * L' - i, by
    have h : i ≤ i * L' := Nat.le_mul_of_pos_right i c'.pos
    rw [← hi, orb_add, show i + (j + i * L' - i) = j + i * L' by omega, ← orb_add, hj, c'.pers]⟩
  have e2 : ∃ t, orb b m' t = m := ⟨i + j * L - j, by
    have h : j ≤ j * L := Nat.le_mul_of_pos_right j c.pos
    rw [← hj, orb_add, show j + (i + j * L - j) = i + j * L by omega, ← orb_add, hi, c.pers]⟩
  obtain ⟨t, ht⟩ := e1
  obtain ⟨t', ht'⟩ := e2
  have h1 := c.least t
  have h2 := c'.least t'
  rw [ht] at h1
  rw [ht'] at h2
  have hm : m = m' := lt_tot h2 h1
  subst hm
  refine ⟨rfl, ?_⟩
  rcases Nat.lt_trichotomy L L' with h | h | h
  · exact absurd c.per (c'.low L c.pos h)
  · exact h
  · exact absurd c'.per (c.low L' c'.pos h)
/-- the round, told from its least row on -/
def circR (b : Int) (m : List Int) (L : Nat) : List PyData := (List.range L).map fun t => tI (orb b m t)
section
variable {C : Ct} {ρ : Rho} {F : Out → Prop} {e : Expr} {pos : Pos}
/-- a, b = e -/
theorem ds_unp2 (i j : Nat) {x y : Str} {d d' : PyData} {px py pt : Pos} {kt} (he : DEd C (xi F) ρ e (.tuple [d, d'])) (k : F (.nx ((ρ.set i (.dat d)).set j (.dat d')))) (hN : C.X.N.Nodup) (hi : C.X.N[i]? = some x) (hj : C.X.N[j]? = some y)
    (hx : Loc C.X.env.scope x) (hy : Loc C.X.env.scope y) (hfx : C.X.fn x = true ∨ C.X.env.scope.names.lookup x = some .local := by first | exact .inl rfl | exact .inr rfl) (hfy : C.X.fn y = true ∨ C.X.env.scope.names.lookup y = some .local := by first | exact .inl rfl | exact .inr rfl)
    (hs : swapsWithSole [.Tuple [.Name x px, .Name y py] kt pt] e pos.line C.X.env = pure false := by rfl) (hw : swappedStores [.Tuple [.Name x px, .Name y py] kt pt] e C.X.env = pure none := by rfl)
    (h1 : (assignEach [.Tuple [.Name x px, .Name y py] kt pt] C.X.env).map (·.2) = [assign (.Tuple [.Name x px, .Name y py] kt pt) C.X.env] := by rfl) (hc : C.X.calm = true := by rfl) (h2 : (assignEach [.Name x px, .Name y py] C.X.env).length = 2 := by rfl) (h3 : (assignEach [.Name x px, .Name y py] C.X.env).findIdx? (·.1) = none := by rfl)
    (h4 : (assignEach [.Name x px, .Name y py] C.X.env).map (·.2) = assign (.Name x px) C.X.env :: (assignEach [.Name y py] C.X.env).map (·.2) := by rfl) (h5 : (assignEach [.Name y py] C.X.env).map (·.2) = assign (.Name y py) C.X.env :: (assignEach [] C.X.env).map (·.2) := by rfl) : DS C F ρ (.Assign [.Tuple [.Name x px, .Name y py] kt pt] e pos) :=
  ds_asg (js := [i, j]) (ρ' := fun _ => (ρ.set i (.dat d)).set j (.dat d')) he (fun z e => by
    subst e
    exact dg_tup (dgs_cons (dg_name i hN hi hx hfx) (dgs_cons (dg_name j hN hj hy hfy) dgs_nil h5) h4) hc h2 h3) (fun z _ => k) hs hw h1
end
/-- the number of steps to the round, and its length -/
noncomputable def fateD (b : Int) (r : List Int) : PyData := .tuple [.int ((crs b r).2 : Int), .int (((crs b r).1 : Int) - (crs b r).2)]
/-- the first step at which two courses have the same row -/
noncomputable def meetN (b : Int) (r o : List Int) : Option Nat := (List.range ((max (crs b r).2 (crs b o).2) + 1)).find? fun k => decide (orb b r k = orb b o k)
noncomputable def meetD (b : Int) (r o : List Int) : PyData := match meetN b r o with
  | some k => .int (k : Int)
  | none => .none
theorem meetD_some {b : Int} {r o : List Int} {k : Nat} (h : ∀ i, i < k → orb b r i ≠ orb b o i) (hk : k < (max (crs b r).2 (crs b o).2) + 1) (e : orb b r k = orb b o k) : meetD b r o = .int (k : Int) := by
  have : meetN b r o = some k := by
    unfold meetN
    rw [List.find?_range_eq_some]
    exact ⟨decide_eq_true e, List.mem_range.mpr hk, fun j hj => by rw [Bool.not_eq_true']; exact decide_eq_false (h j hj)⟩
  unfold meetD
  rw [this]
theorem meetD_none {b : Int} {r o : List Int} (h : ∀ i, i < (max (crs b r).2 (crs b o).2) + 1 → orb b r i ≠ orb b o i) : meetD b r o = .none := by
  have : meetN b r o = none := by
    unfold meetN
    rw [List.find?_eq_none]
    exact fun j hj e => h j (List.mem_range.mp hj) (of_decide_eq_true e)
  unfold meetD
  rw [this]
end DD

namespace DD
variable [Nu]
open PySem L2
theorem rowsD_at {b : Int} {r : List Int} {n i : Nat} (h : i < n) : (rowsD b r n)[i]? = some (tI (orb b r i)) := by
  unfold rowsD
  rw [List.getElem?_map, List.getElem?_range h]
  rfl
theorem Course.circ {b : Int} {r : List Int} {n j i0 : Nat} (c : Course b r n j) (h1 : j ≤ i0) (h2 : i0 < n) (hl : ∀ i, j ≤ i → i < n → PySem.W.dataLt (tI (orb b r i)) (tI (orb b r i0)) = false) : Circ b r (orb b r i0) (n - j) := by
  have hlt := c.lt
  refine ⟨⟨i0, rfl⟩, by omega, ?_, fun t h3 h4 e => ?_, fun t => ?_⟩
  · have := c.pers h1 1
    rw [Nat.one_mul] at this
    rw [orb_add, this]
  · rw [orb_add] at e
    rcases Nat.lt_or_ge (i0 + t) n with h | h
    · exact c.far i0 (i0 + t) (by omega) h e.symm
    · have e2 := c.per (i0 + t - n)
      rw [show n + (i0 + t - n) = i0 + t by omega, e] at e2
      exact c.far (j + (i0 + t - n)) i0 (by omega) h2 e2.symm
  · rw [orb_add]
    obtain ⟨i', h3, h4, e⟩ := c.back (i0 + t) (by omega)
    rw [← e]
    exact hl i' h3 h4
theorem circ_rot {b : Int} {r : List Int} {n j i0 : Nat} (c : Course b r n j) (h1 : j ≤ i0) (h2 : i0 < n) : ((rowsD b r n).drop j).drop (i0 - j) ++ ((rowsD b r n).drop j).take (i0 - j) = circR b (orb b r i0) (n - j) := by
  have hlt := c.lt
  apply List.ext_getElem?
  intro t
  have hlen : (((rowsD b r n).drop j).drop (i0 - j)).length = n - i0 := by rw [List.length_drop, List.length_drop, rowsD_len]; omega
  have hr : (circR b (orb b r i0) (n - j))[t]? = if t < n - j then some (tI (orb b r (i0 + t))) else none := by
    unfold circR
    rw [List.getElem?_map]
    split
    · rename_i h; rw [List.getElem?_range h, ← orb_add]; rfl
    · rename_i h; rw [List.getElem?_eq_none (by rw [List.length_range]; omega)]; rfl
  rw [hr, List.getElem?_append, hlen]
  by_cases h3 : t < n - i0
  · rw [if_pos h3, if_pos (by omega), List.getElem?_drop, List.getElem?_drop, show j + (i0 - j + t) = i0 + t by omega, rowsD_at (by omega)]
  · rw [if_neg h3, List.getElem?_take]
    by_cases h4 : t < n - j
    · rw [if_pos h4, if_pos (by omega), List.getElem?_drop, rowsD_at (by omega)]
      have := c.per (t - (n - i0))
      rw [show n + (t - (n - i0)) = i0 + t by omega] at this
      rw [this]
    · rw [if_neg h4, if_neg (by omega)]
theorem circ_ex {b : Int} {r : List Int} (hb : Base b) (hr : Row b r) : ∃ i0, (crs b r).2 ≤ i0 ∧ i0 < (crs b r).1 ∧ (∀ i, (crs b r).2 ≤ i → i < (crs b r).1 → PySem.W.dataLt (tI (orb b r i)) (tI (orb b r i0)) = false) ∧ ∃ x ds, (rowsD b r (crs b r).1).drop (crs b r).2 = x :: ds ∧ PySem.W.minD x ds = tI (orb b r i0) := by
  have c := crs_ok hb hr
  have hlt := c.lt
  cases e : (rowsD b r (crs b r).1).drop (crs b r).2 with
  | nil =>
    have := congrArg List.length e
    rw [List.length_drop, rowsD_len, List.length_nil] at this
    omega
  | cons x ds =>
    have hm := minD_mem ds x
    have hl := minD_le ds x
    rw [← e] at hm
    obtain ⟨k, hk⟩ := List.getElem?_of_mem hm
    have hk0 := (List.getElem?_eq_some_iff.mp hk).1
    rw [List.length_drop, rowsD_len] at hk0
    rw [List.getElem?_drop, rowsD_at (by omega)] at hk
    injection hk with hk
    refine ⟨(crs b r).2 + k, by omega, by omega, fun i h3 h4 => ?_, x, ds, rfl, hk.symm⟩
    rw [hk]
    refine hl _ ?_
    rw [← e]
    refine List.mem_of_getElem? (i := i - (crs b r).2) ?_
    rw [List.getElem?_drop, show (crs b r).2 + (i - (crs b r).2) = i by omega, rowsD_at h4]
noncomputable def crc (b : Int) (r : List Int) : List Int × Nat := open Classical in if h : ∃ p : List Int × Nat, Circ b r p.1 p.2 then Classical.choose h else ([], 0)
theorem crc_ok {b : Int} {r m : List Int} {L : Nat} (c : Circ b r m L) : crc b r = (m, L) := by
  have h : ∃ p : List Int × Nat, Circ b r p.1 p.2 := ⟨(m, L), c⟩
  have h2 := Classical.choose_spec h
  unfold crc
  rw [dif_pos h]
  obtain ⟨e1, e2⟩ := h2.one c
  exact Prod.ext e1 e2
/-- the round of a row -/
noncomputable def circD (b : Int) (r : List Int) : PyData := .tuple (circR b (crc b r).1 (crc b r).2)
theorem circD_eq {b : Int} {r m : List Int} {L : Nat} (c : Circ b r m L) : circD b r = .tuple (circR b m L) := by
  unfold circD
  rw [crc_ok c]
theorem circ_is {b : Int} {r : List Int} (hb : Base b) (hr : Row b r) : ∃ m L, Circ b r m L := by
  obtain ⟨i0, h1, h2, h3, _⟩ := circ_ex hb hr
  exact ⟨_, _, (crs_ok hb hr).circ h1 h2 h3⟩
/-- two courses with a row in common have the same round -/
theorem circD_meet {b : Int} {r o : List Int} {i j : Nat} (hb : Base b) (hr : Row b r) (ho : Row b o) (e : orb b r i = orb b o j) : circD b r = circD b o := by
  obtain ⟨m, L, c⟩ := circ_is hb hr
  have c2 := c.shift i
  rw [e] at c2
  rw [circD_eq c, circD_eq c2.unshift]
theorem cutD_from {ds : List PyData} {k : Nat} (h : k ≤ ds.length) : cutD ds (some (k : Int)) none = ds.drop k := by
  unfold cutD
  rw [HT.sIx_nat, HT.sIx_none, Nat.min_eq_left h]
  exact List.take_of_length_le (by rw [List.length_drop]; omega)
theorem cutD_to {ds : List PyData} {k : Nat} (h : k ≤ ds.length) : cutD ds none (some (k : Int)) = ds.take k := by
  unfold cutD
  rw [HT.sIx_nat, HT.sIx_none, Nat.min_eq_left h, Nat.sub_zero, List.drop_zero]
def AllRows (ds : List PyData) : Prop := ∀ d ∈ ds, ∃ ns, d = tI ns
theorem rows_drop {b : Int} {r : List Int} {n j : Nat} : AllRows ((rowsD b r n).drop j) := fun d hd => by
  obtain ⟨i, _, e⟩ := List.mem_map.mp (List.mem_of_mem_drop hd)
  exact ⟨_, e.symm⟩
theorem lay_rows : ∀ {ds : List PyData}, AllRows ds → PyData.canLayAll0 ds = true ∧ PyData.depthAll ds ≤ 1
  | [], _ => by simp [PyData.canLayAll0, PyData.depthAll]
  | d :: ds, h => by
    obtain ⟨ns, rfl⟩ := h d List.mem_cons_self
    have ih := lay_rows fun x hx => h x (List.mem_cons_of_mem _ hx)
    have h1 := lay_iv ns
    rw [PyData.canLayAll0, PyData.depthAll]
    refine ⟨by rw [Bool.and_eq_true]; exact ⟨by rw [tI, PyData.canLay0]; exact h1.1, ih.1⟩, ?_⟩
    rw [tI, PyData.depth, h1.2]
    omega
theorem sh_rows {ds : List PyData} (h : AllRows ds) : SeqAt.shaped (.list ds) = true := by
  have h1 := lay_rows h
  unfold SeqAt.shaped
  rw [PyData.canLay0, PyData.depth, h1.1, Bool.true_and, decide_eq_true_eq]
  have := h1.2
  omega
theorem alike_iv2 : ∀ xs ys : List Int, PySem.W.alikeAll (iv xs) (iv ys) = true
  | [], _ => by rw [show iv [] = [] from rfl, PySem.W.alikeAll]
  | x :: xs, [] => by rw [show iv [] = [] from rfl, show iv (x :: xs) = PyData.int x :: iv xs from rfl, PySem.W.alikeAll]
  | x :: xs, y :: ys => by rw [show iv (y :: ys) = PyData.int y :: iv ys from rfl, show iv (x :: xs) = PyData.int x :: iv xs from rfl, PySem.W.alikeAll, alike_iv2 xs ys, PySem.W.alike]; rfl
theorem alike_rows {ds : List PyData} (h : AllRows ds) : PySem.W.AlikeAll ds := by
  refine ⟨fun x hx y hy => ?_, fun x hx => ?_⟩
  · obtain ⟨a, rfl⟩ := h x hx
    obtain ⟨c, rfl⟩ := h y hy
    rw [tI, tI, PySem.W.alike]
    exact alike_iv2 a c
  · obtain ⟨a, rfl⟩ := h x hx
    simp [tI]
section
variable {C : Ct} {Ξ : Addr → Prop} {ρ : Rho} {e : Expr} {pos p : Pos}
theorem de_minR {x : PyData} {ds : List PyData} (h : AllRows (x :: ds)) (hg : Gl C.X "min") (hm : C.X.mg "min" = none) (ha : DEd C Ξ ρ e (.list (x :: ds))) (hcalm : C.X.calm = true := by rfl) (he : starEach [e] C.X.env = (false, eval e C.X.env) :: starEach [] C.X.env := by rfl) (hpl : (backTo pos (starEach [] C.X.env)).any (·.1) = false := by rfl) : DEd C Ξ ρ (.Call (.Name "min" p) [e] [] pos) (PySem.W.minD x ds) := by
  have := lay_rows h
  exact de_cb (cr_minD hcalm C.un) hg hm b_min (da_cons ha da_nil he) (rc_mm (t := false) (alike_rows h) this.1 (by omega)) (he := he) (hpl := hpl)
end
end DD

namespace DD
variable [Nu]
open PySem L2
theorem orb_stay {b : Int} {r o : List Int} {k : Nat} (e : orb b r k = orb b o k) (t : Nat) : orb b r (k + t) = orb b o (k + t) := by
  rw [← orb_add, ← orb_add, e]
/-- courses that meet do so before both are in their rounds, or there -/
theorem meet_bound {b : Int} {r o : List Int} {k : Nat} (hb : Base b) (hr : Row b r) (ho : Row b o) (e : orb b r k = orb b o k) : ∃ i, i < (max (crs b r).2 (crs b o).2) + 1 ∧ orb b r i = orb b o i := by
  rcases Nat.lt_or_ge k ((max (crs b r).2 (crs b o).2) + 1) with h | h
  · exact ⟨k, h, e⟩
  refine ⟨max (crs b r).2 (crs b o).2, by omega, ?_⟩
  have c1 := crs_ok hb hr
  have c2 := crs_ok hb ho
  have l1 := c1.lt
  have l2 := c2.lt
  have p1 := c1.pers (i := max (crs b r).2 (crs b o).2) (Nat.le_max_left _ _) (k * ((crs b o).1 - (crs b o).2))
  have p2 := c2.pers (i := max (crs b r).2 (crs b o).2) (Nat.le_max_right _ _) (k * ((crs b r).1 - (crs b r).2))
  rw [Nat.mul_right_comm] at p2
  have hk : k ≤ k * ((crs b o).1 - (crs b o).2) * ((crs b r).1 - (crs b r).2) := by
    rw [Nat.mul_assoc]
    exact Nat.le_mul_of_pos_right k (Nat.mul_pos (by omega) (by omega))
  have s := orb_stay e (max (crs b r).2 (crs b o).2 + k * ((crs b o).1 - (crs b o).2) * ((crs b r).1 - (crs b r).2) - k)
  rw [show k + (max (crs b r).2 (crs b o).2 + k * ((crs b o).1 - (crs b o).2) * ((crs b r).1 - (crs b r).2) - k) = max (crs b r).2 (crs b o).2 + k * ((crs b o).1 - (crs b o).2) * ((crs b r).1 - (crs b r).2) by omega] at s
  rw [← p1, s, p2]
theorem meetD_none_all {b : Int} {r o : List Int} (hb : Base b) (hr : Row b r) (ho : Row b o) (h : meetD b r o = .none) (k : Nat) : orb b r k ≠ orb b o k := fun e => by
  obtain ⟨i, hi, e2⟩ := meet_bound hb hr ho e
  unfold meetD at h
  cases hm : meetN b r o with
  | some z => rw [hm] at h; cases h
  | none =>
    unfold meetN at hm
    rw [List.find?_eq_none] at hm
    exact hm i (List.mem_range.mpr hi) (decide_eq_true e2)
theorem meetD_first {b : Int} {r o : List Int} {k : Nat} (hb : Base b) (hr : Row b r) (ho : Row b o) (h : ∀ i, i < k → orb b r i ≠ orb b o i) (e : orb b r k = orb b o k) : meetD b r o = .int (k : Int) := by
  obtain ⟨i, hi, e2⟩ := meet_bound hb hr ho e
  refine meetD_some h ?_ e
  rcases Nat.lt_or_ge i k with h1 | h1
  · exact absurd e2 (h i h1)
  · omega
theorem meetD_comm {b : Int} {r o : List Int} : meetD b r o = meetD b o r := by
  have : meetN b r o = meetN b o r := by
    unfold meetN
    rw [Nat.max_comm]
    congr 1
    funext k
    exact decide_eq_decide.mpr eq_comm
  unfold meetD
  rw [this]
theorem meetD_self {b : Int} {r : List Int} : meetD b r r = .int 0 := meetD_some (k := 0) (fun i hi => absurd hi (Nat.not_lt_zero _)) (by omega) rfl
theorem meetD_len {b : Int} {r o : List Int} (h : r.length ≠ o.length) : meetD b r o = .none := meetD_none fun i _ e => h (by rw [← orb_len (b := b) (r := r) i, e, orb_len])
section
variable {C : Ct} {F : Out → Prop} {ρ : Rho}
/-- a, b, c = x, y, z -/
theorem ds_par3 (i j l : Nat) {a b c : Expr} {pos : Pos} {x y z : Str} {d d' d'' : PyData} {px py pz pt : Pos} {kt k2 pt2} (ha : DAd C (xi F) ρ [a, b, c] [d, d', d'']) (k : F (.nx (((ρ.set i (.dat d)).set j (.dat d')).set l (.dat d'')))) (hN : C.X.N.Nodup) (hi : C.X.N[i]? = some x) (hj : C.X.N[j]? = some y) (hl : C.X.N[l]? = some z) (hij : i ≠ j) (hil : i ≠ l) (hjl : j ≠ l)
    (hx : C.X.env.scope.names.lookup x = some .local) (hy : C.X.env.scope.names.lookup y = some .local) (hz : C.X.env.scope.names.lookup z = some .local) (hw : swappedStores [.Tuple [.Name x px, .Name y py, .Name z pz] kt pt] (.Tuple [a, b, c] k2 pt2) C.X.env = pure (some [x, y, z]))
    (hc : C.X.calm = true := by rfl) (hs : swapsWithSole [.Tuple [.Name x px, .Name y py, .Name z pz] kt pt] (.Tuple [a, b, c] k2 pt2) pos.line C.X.env = pure false := by rfl) :
    DS C F ρ (.Assign [.Tuple [.Name x px, .Name y py, .Name z pz] kt pt] (.Tuple [a, b, c] k2 pt2) pos) := fun D σ H E q =>
  ⟨_, ps_par3 hc hN hi hj hl hij hil hjl hx hy hz pA hw hs, ha σ H E _ (fun vs us H2 p g r => by
    subst p
    have r' := r.ats
    cases r' with
    | cons r1 r' =>
    cases r' with
    | cons r2 r' =>
    cases r' with
    | cons r3 r' =>
    cases r'
    obtain ⟨E2, s⟩ := (E.grow g).put (i := i) (sv := .dat d) (o := some _) rfl ⟨_, rfl, r1⟩
    obtain ⟨E3, s3⟩ := E2.put (i := j) (sv := .dat d') (o := some _) rfl ⟨_, rfl, r2.up s⟩
    obtain ⟨E4, s4⟩ := E3.put (i := l) (sv := .dat d'') (o := some _) rfl ⟨_, rfl, (r3.up s).up s3⟩
    exact ⟨_, _, _, rfl, q.nx _ _ _ k E4 ((((vis_gr g).trans s).trans s3).trans s4)⟩) (q.exE E)⟩
end
/-- if without else, at a condition that is not known -/
theorem dss_ifR {C : Ct} {F : Out → Prop} {ρ : Rho} {e : Expr} {s1 rest : List Stmt} {pos : Pos} {B : Bool → Prop} (I : Rho → Prop) (hc : DT C (xi F) ρ e B) (h1 : ∀ F' : Out → Prop, (∀ ρ', I ρ' → F' (.nx ρ')) → DSs C F' ρ s1) (h0 : I ρ) (hr : ∀ ρ', I ρ' → DSs C F ρ' rest) : DSs C F ρ (.If e s1 [] pos :: rest) :=
  dss_cons (ds_if hc (fun _ => h1 _ fun ρ' i => hr ρ' i) fun _ => dss_nil (hr ρ h0))
section
variable {α : Type} {enc : α → List PyData} {C : Ct} {Ξ : Addr → Prop} {ρ : Rho} {e : Expr} {es : List Expr} {pos p : Pos} {P : PyData → Prop}
/-- a call whose arguments are known by a property only -/
theorem de_cy (I : α → Prop) {x : Str} {ps : List Str} {k : Nat} {Dom : α → Prop} {R : α → Out → Prop} (G : Fc C.X.prog C.X.w C.X.K C.X.mg C.X.base x ps k (spX enc Dom R)) (hg : Gl C.X x) (ha : DA C Ξ ρ (e :: es) (AllD fun ds => ∃ y, ds = enc y ∧ I y)) (hd : ∀ y, I y → Dom y)
    (hP : ∀ y d, I y → R y (.rt d) → P d) (hX : ∀ y c, I y → R y (.ex c) → Ξ c) (hk : k ≤ C.lv := by exact Nat.le_of_ble_eq_true rfl) (hcalm : C.X.calm = true := by rfl) (hdb : (x == ("__debug__" : Str)) = false := by decide) (he : starEach (e :: es) C.X.env = (false, eval e C.X.env) :: starEach es C.X.env := by rfl) (hpl : (backTo pos (starEach es C.X.env)).any (·.1) = false := by rfl) :
    DE C Ξ ρ (.Call (.Name x p) (e :: es) [] pos) P := fun σ H E Q q z => by
  obtain ⟨f, fd, hm, kp, hb, F⟩ := G.ex
  refine ⟨_, pe_callS F ((C.room' hcalm).mono hk) hg hm kp hb (fun σ => L2N.passAt C.tk σ) pA hdb he hpl, ha σ H E _ (fun l vs H2 pl g r => ?_) z⟩
  obtain ⟨ds, rfl, y, rfl, i⟩ := pl
  refine ⟨inn C ρ, y, (E.grow g).out, r.ats, hd y i, fun d v H' hr s ra => q d v H' (hP y d i hr) (g.trans (Gr.of s)) ra, fun c H' hr s => z c H' (hX y c i hr) (g.trans (Gr.of s))⟩
end
end DD

namespace DD
variable [Nu]
open PySem L2
/-- the first meeting below k -/
def dueD (b : Int) (r o : List Int) (k : Nat) : PyData := match (List.range k).find? (fun i => decide (orb b r i = orb b o i)) with
  | some i => .int (i : Int)
  | none => .none
theorem dueD_succ {b : Int} {r o : List Int} {k : Nat} : dueD b r o (k + 1) = if (nonB (dueD b r o k) && decide (orb b r k = orb b o k)) = true then .int (k : Int) else dueD b r o k := by
  unfold dueD
  rw [List.range_succ, List.find?_append]
  cases h : (List.range k).find? (fun i => decide (orb b r i = orb b o i)) with
  | some i => simp [nonB]
  | none =>
    by_cases e : orb b r k = orb b o k
    · simp [nonB, e]
    · simp [nonB, e]
theorem dueD_meet {b : Int} {r o : List Int} {k : Nat} (hb : Base b) (hr : Row b r) (ho : Row b o) (h : max (crs b r).2 (crs b o).2 + 1 ≤ k) : dueD b r o k = meetD b r o := by
  unfold dueD
  cases e : (List.range k).find? (fun i => decide (orb b r i = orb b o i)) with
  | some i =>
    rw [List.find?_range_eq_some] at e
    exact (meetD_first hb hr ho (fun j hj => by have := e.2.2 j hj; simpa using this) (of_decide_eq_true e.1)).symm
  | none =>
    rw [List.find?_eq_none] at e
    exact (meetD_none fun i hi q => e i (List.mem_range.mpr (by omega)) (decide_eq_true q)).symm
/-- an if without else, that leads to the same names by both ways -/
theorem dss_ifK {C : Ct} {F : Out → Prop} {ρ : Rho} {e : Expr} {s1 rest : List Stmt} {pos : Pos} {k : Bool} (ρ2 : Rho) (hc : DTd C (xi F) ρ e k) (h1 : k = true → ∀ F' : Out → Prop, F' (.nx ρ2) → DSs C F' ρ s1) (h0 : k = false → ρ = ρ2) (hr : DSs C F ρ2 rest) : DSs C F ρ (.If e s1 [] pos :: rest) :=
  dss_cons (ds_ifd hc (fun h => h1 h _ hr) fun h => dss_nil (by rw [h0 h]; exact hr))
theorem sh_rowsT {ds : List PyData} (h : AllRows ds) : SeqAt.shaped (.tuple ds) = true := by
  have h1 := lay_rows h
  unfold SeqAt.shaped
  rw [PyData.canLay0, PyData.depth, h1.1, Bool.true_and, decide_eq_true_eq]
  have := h1.2
  omega
theorem eqv_sh {d : PyData} (h : SeqAt.shaped d = true) : PyData.eqv d d = true := by
  unfold SeqAt.shaped at h
  rw [Bool.and_eq_true] at h
  exact SeqAt.eqv_refl d h.1
theorem circR_rows {b : Int} {m : List Int} {L : Nat} : AllRows (circR b m L) := fun d hd => by
  obtain ⟨i, _, e⟩ := List.mem_map.mp hd
  exact ⟨_, e.symm⟩
theorem sh_circ {b : Int} {r : List Int} : SeqAt.shaped (circD b r) = true := sh_rowsT circR_rows
theorem sh_meet {b : Int} {r o : List Int} : SeqAt.shaped (meetD b r o) = true := by
  unfold meetD
  split <;> rfl
section
variable {C : Ct} {Ξ : Addr → Prop} {ρ : Rho} {a b : Expr} {pos : Pos}
/-- a != b, both the same -/
theorem dt_neS {x : PyData} (h : SeqAt.shaped x = true) (ha : DEd C Ξ ρ a x) (hb : DEd C Ξ ρ b x) (hm : behindInMarks .NotEq b = false := by rfl) : DTd C Ξ ρ (.Compare a [.NotEq] [b] pos) false :=
  DT.to (dt_neD h h ha hb hm) (by rw [eqv_sh h]; rfl)
end
end DD

namespace DD
variable [Nu]
open PySem L2
/-! ## instances whose fields are data -/
abbrev Fds := List (Str × PyData)
def fdR (Hv : Hp) (a : Str × V) (b : Str × PyData) : Prop := a.1 = b.1 ∧ At Hv a.2 b.2
def putFD (f : Str) (d : PyData) : Fds → Fds
  | [] => [(f, d)]
  | (g, x) :: r => if g = f then (g, d) :: r else (g, x) :: putFD f d r
theorem fd_put {H : Hp} {f : Str} {v : V} {d : PyData} (hv : At H v d) {fv : List (Str × V)} {fs : Fds} (h : Paired (fdR H) fv fs) : Paired (fdR H) (putF f v fv) (putFD f d fs) := by
  induction h with
  | nil => exact .cons ⟨rfl, hv⟩ .nil
  | @cons a b fv fs r t ih =>
    obtain ⟨g, x⟩ := a
    obtain ⟨g', y⟩ := b
    obtain ⟨e, r⟩ := r
    have e : g = g' := e
    subst e
    unfold putF putFD
    by_cases z : g = f
    · rw [if_pos z, if_pos z]; exact .cons ⟨rfl, hv⟩ t
    · rw [if_neg z, if_neg z]; exact .cons ⟨rfl, r⟩ ih
theorem fd_get {H : Hp} {f : Str} {d : PyData} {fv : List (Str × V)} {fs : Fds} (h : Paired (fdR H) fv fs) (e : fs.lookup f = some d) : ∃ v, fv.lookup f = some v ∧ At H v d := by
  induction h with
  | nil => cases e
  | @cons a b fv fs r t ih =>
    obtain ⟨g, x⟩ := a
    obtain ⟨g', y⟩ := b
    obtain ⟨e0, r⟩ := r
    have e0 : g = g' := e0
    subst e0
    rw [List.lookup_cons] at e ⊢
    by_cases z : (f == g) = true
    · rw [z] at e ⊢
      injection e with e
      subst e
      exact ⟨x, rfl, r⟩
    · have z : (f == g) = false := by simpa using z
      rw [z] at e ⊢
      exact ih e
theorem fd_no {H : Hp} {f : Str} {fv : List (Str × V)} {fs : Fds} (h : Paired (fdR H) fv fs) (e : fs.lookup f = none) : fv.lookup f = none := by
  induction h with
  | nil => rfl
  | @cons a b fv fs r t ih =>
    obtain ⟨g, x⟩ := a
    obtain ⟨g', y⟩ := b
    have e0 : g = g' := r.1
    subst e0
    rw [List.lookup_cons] at e ⊢
    by_cases z : (f == g) = true
    · rw [z] at e; cases e
    · have z : (f == g) = false := by simpa using z
      rw [z] at e ⊢
      exact ih e
def objT (cl : Addr) (fs : Fds) : Thg where
  T Hv u := ∃ dx fv, u = .ins cl dx fv ∧ Paired (fdR Hv) fv fs
  up e := fun ⟨dx, fv, h1, h2⟩ => ⟨dx, fv, h1, Paired.mapP h2 fun _ _ r => ⟨r.1, r.2.up e⟩⟩
  nt := fun ⟨_, _, h, _⟩ => by cases h
theorem Env.thg_of2 {C : Ct} {ρ : Rho} {σ : L2.St} {H : Hp} {i : Nat} {p : Addr} {t : Thg} (E : Env C ρ σ H) (h : gt ρ i = .thg p t) : σ[i]? = some (some (.ref p)) ∧ C.O p = false ∧ C.base p = none ∧ ∃ u, H p = some u ∧ t.T (vis C ρ H) u := by
  have s := E.slot i
  rw [h] at s
  obtain ⟨e, h1, h2, h3⟩ := s
  refine ⟨?_, h1, h2, h3⟩
  rw [List.getD_eq_getElem?_getD] at e
  cases q : σ[i]? with
  | none => rw [q] at e; cases e
  | some o => rw [q] at e; exact congrArg some e
theorem Env.obj_of {C : Ct} {ρ : Rho} {σ : L2.St} {H : Hp} {i : Nat} {p cl : Addr} {fs : Fds} (E : Env C ρ σ H) (h : gt ρ i = .thg p (objT cl fs)) : σ[i]? = some (some (.ref p)) ∧ C.O p = false ∧ C.base p = none ∧ ∃ dx fv, H p = some (.ins cl dx fv) ∧ Paired (fdR (vis C ρ H)) fv fs := by
  obtain ⟨h1, h2, h3, u, h4, dx, fv, h5, h6⟩ := E.thg_of2 h
  exact ⟨h1, h2, h3, dx, fv, by rw [h4, h5], h6⟩
/-- all but p -/
def rem (p : Addr) (H : Hp) : Hp := fun a => if a = p then none else H a
theorem rem_at {p a : Addr} {H : Hp} {o : HO} (h : rem p H a = some o) : a ≠ p ∧ H a = some o := by
  unfold rem at h
  split at h
  · cases h
  · rename_i z; exact ⟨z, h⟩
theorem rem_of {p a : Addr} {H : Hp} {o : HO} (n : a ≠ p) (h : H a = some o) : rem p H a = some o := by unfold rem; rw [if_neg n]; exact h
theorem rem_self {p : Addr} {H : Hp} : rem p H p = none := by unfold rem; rw [if_pos rfl]
theorem Cell.rem {k : Option Str} {H : Hp} {a p : Addr} (n : a ≠ p) (hx : ∀ φ, H p ≠ some (.ext φ)) (h : Cell k H a) : Cell k (DD.rem p H) a := by
  cases k with
  | none => obtain ⟨x, y, h⟩ := h; exact ⟨x, y, rem_of n h⟩
  | some q =>
    obtain ⟨hq, ps, h1, h2, h3⟩ := h
    refine ⟨hq, ps, rem_of n h1, h2, fun pos cv hc => ?_⟩
    obtain ⟨c, e1, e2⟩ := h3 pos cv hc
    exact ⟨c, e1, rem_of (fun z => by rw [z] at e2; unfold LamX.CodeO at e2; exact hx _ e2) e2⟩
theorem Cell.unrem {k : Option Str} {H : Hp} {a p : Addr} (h : Cell k (DD.rem p H) a) : Cell k H a := h.up fun b o e => (rem_at e).2
theorem Gr.remL {U : Addr → Bool} {H H' : Hp} {p : Addr} (g : Gr U H H') : Gr U (rem p H) H' := ⟨fun a o hu e => g.keep a o hu (rem_at e).2, fun a k hu h => g.cell a k hu h.unrem⟩
/-- behind a call that changes the instance of a slot -/
theorem Env.swap {C : Ct} {ρ : Rho} {σ : L2.St} {H H' : Hp} {i : Nat} {p : Addr} {t t' : Thg} (E : Env C ρ σ H) (hi : gt ρ i = .thg p t) (hx : ∀ φ, H p ≠ some (.ext φ)) (g : Gr C.U (rem p H) H') (h : ∃ u, H' p = some u ∧ t'.T (vis C ρ H') u) : Env C (ρ.set i (.thg p t')) σ H' ∧ vis C (ρ.set i (.thg p t')) H' = vis C ρ H' := by
  obtain ⟨hσ, hO, hb, _⟩ := E.thg_of2 hi
  have hlen : i < ρ.length := by
    rcases Nat.lt_or_ge i ρ.length with z | z
    · exact z
    · exfalso
      unfold gt at hi
      rw [List.getD_eq_getElem?_getD, List.getElem?_eq_none z] at hi
      cases hi
  have own : ∀ b, owns (ρ.set i (.thg p t')) b = owns ρ b := fun b => by
    rw [Bool.eq_iff_iff, owns_iff, owns_iff]
    constructor
    · rintro ⟨j, z⟩
      rw [gt_set] at z
      split at z
      · exact ⟨i, by rw [hi]; exact z⟩
      · exact ⟨j, z⟩
    · rintro ⟨j, z⟩
      refine ⟨j, ?_⟩
      rw [gt_set]
      split
      · rename_i y
        rw [← y.1, hi] at z
        exact z
      · exact z
  have ei : inn C (ρ.set i (.thg p t')) = inn C ρ := by funext b; unfold inn; rw [own]
  have ev : vis C (ρ.set i (.thg p t')) H' = vis C ρ H' := by unfold vis; rw [ei]
  have hp : owns ρ p = true := owns_iff.mpr ⟨i, by rw [hi]; rfl⟩
  have s : Same (vis C ρ H) (vis C ρ H') := hid_mono fun a o e1 e2 => ⟨e1, g.keep a o (inn_U e1) (rem_of (fun z => by unfold inn at e1; rw [z, hp, Bool.or_true] at e1; cases e1) e2)⟩
  have nU : ∀ a, C.U a = true → a ≠ p := fun a h1 z => by rw [z, O_U hO] at h1; cases h1
  refine ⟨⟨by rw [List.length_set]; exact E.len, fun j => ?_, fun a ha => ?_, fun a ha => ?_, ⟨fun a o hu q => ?_, fun a k hu q => ?_⟩, fun j l q h1 h2 => ?_⟩, ev⟩
  · rw [gt_set]
    split
    · rename_i y
      obtain ⟨u, h1, h2⟩ := h
      rw [← y.1, List.getD_eq_getElem?_getD, hσ]
      exact ⟨rfl, hO, hb, u, h1, by rw [ev]; exact h2⟩
    · rename_i y
      refine (E.slot j).see (by rw [ev]; exact s) fun a u ha e => ?_
      have ne : a ≠ p := fun z => y ⟨(E.dis j i p (by rw [ha, z]) (by rw [hi]; rfl)).symm, hlen⟩
      have hOa : C.O a = false := by
        have q := E.slot j
        cases hj : gt ρ j with
        | no => rw [hj] at ha; cases ha
        | dat _ => rw [hj] at ha; cases ha
        | raw _ => rw [hj] at ha; cases ha
        | own p' ds => rw [hj] at ha q; injection ha with ha; rw [← ha]; exact q.2.1
        | dic p' ds => rw [hj] at ha q; injection ha with ha; rw [← ha]; exact q.2.1
        | thg p' ds => rw [hj] at ha q; injection ha with ha; rw [← ha]; exact q.2.1
      exact g.keep a u (O_U hOa) (rem_of ne e)
  · obtain ⟨k, q⟩ := E.cell a ha
    exact ⟨k, g.cell a k ha (q.rem (nU a ha) hx)⟩
  · cases hU : C.U a with
    | true =>
      obtain ⟨k, q⟩ := E.cell a hU
      exact (g.cell a k hU (q.rem (nU a hU) hx)).there
    | false =>
      cases q : H a with
      | none => exact absurd q (E.alloc a ha)
      | some o => rw [g.keep a o hU (rem_of (fun z => by rw [z, hO] at ha; cases ha) q)]; simp
  · exact g.keep a o hu (rem_of (fun z => by rw [z, hb] at q; cases q) (E.gr.keep a o hu q))
  · exact g.cell a k hu ((E.gr.cell a k hu q).rem (nU a hu) hx)
  · rw [gt_set] at h1 h2
    split at h1
    · split at h2
      · rename_i a b; rw [← a.1, ← b.1]
      · rename_i a b
        rw [← a.1]
        exact E.dis i l q (by rw [hi]; exact h1) h2
    · split at h2
      · rename_i a b
        rw [← b.1]
        exact E.dis j i q h1 (by rw [hi]; exact h2)
      · exact E.dis j l q h1 h2
/-! ## bodies that tell how the slots end -/
inductive OutW where
  | nx (ρ : Rho) | rt (d : PyData) (ρ : Rho) | ex (c : Addr) (ρ : Rho)
structure KontW (C : Ct) (F : OutW → Prop) (D : Ends) : Prop where
  nx : ∀ ρ' σ' H', F (.nx ρ') → Env C ρ' σ' H' → D.nx σ' H'
  rt : ∀ d ρ' σ' v H', F (.rt d ρ') → Env C ρ' σ' H' → At (vis C ρ' H') v d → D.rt v H'
  ex : ∀ c ρ' σ' H', F (.ex c ρ') → Env C ρ' σ' H' → C.W (.ref c) none σ' H'
def WS (C : Ct) (F : OutW → Prop) (ρ : Rho) (st : Stmt) : Prop := ∀ D σ H, Env C ρ σ H → KontW C F D → cS C.X st D σ H
def WSs (C : Ct) (F : OutW → Prop) (ρ : Rho) (sts : List Stmt) : Prop := ∀ D σ H, Env C ρ σ H → KontW C F D → cSs C.X sts D σ H
def thenW (C : Ct) (rest : List Stmt) (F : OutW → Prop) : OutW → Prop
  | .nx ρ => WSs C F ρ rest
  | o => F o
abbrev xiW (F : OutW → Prop) (ρ : Rho) : Addr → Prop := fun c => F (.ex c ρ)
/-- an expression that may change what slots own -/
def EW (C : Ct) (F : OutW → Prop) (ρ : Rho) (e : Expr) : Prop := ∀ σ H, Env C ρ σ H → ∀ Q : VK, (∀ d ρ' v H2, F (.rt d ρ') → Env C ρ' σ H2 → At (vis C ρ' H2) v d → Q v H2) → (∀ c ρ' H2, F (.ex c ρ') → Env C ρ' σ H2 → C.W (.ref c) none σ H2) → cE C.X e σ H Q
section
variable {C : Ct} {F : OutW → Prop} {ρ : Rho} {st : Stmt} {rest : List Stmt} {e a b : Expr} {pos p : Pos} {P : PyData → Prop}
theorem KontW.xs {σ : L2.St} {H : Hp} {D : Ends} (k : KontW C F D) (E : Env C ρ σ H) : ∀ c H2, xiW F ρ c → Gr C.U H H2 → C.W (.ref c) none σ H2 := fun c H2 f g => k.ex c ρ σ H2 f (E.grow g)
theorem ws_nil (h : F (.nx ρ)) : WSs C F ρ [] := fun D σ H E k => ⟨_, pss_nil, k.nx ρ σ H h E⟩
theorem ws_cons (h : WS C (thenW C rest F) ρ st) : WSs C F ρ (st :: rest) := fun D σ H E k =>
  ⟨_, pss_cons pS pSs, h { D with nx := cSs C.X rest D } σ H E ⟨fun ρ' σ' H' f E' => f D σ' H' E' k, k.rt, k.ex⟩⟩
theorem ws_one (h : WS C F ρ st) : WSs C F ρ [st] := fun D σ H E k => ⟨_, pss_one pS, h D σ H E k⟩
theorem ws_expr (he : DE C (xiW F ρ) ρ e P) (k : ∀ d, P d → F (.nx ρ)) (hs : swapsWith e none pos.line C.X.env = pure false := by rfl) : WS C F ρ (.Expr e pos) := fun D σ H E q =>
  ⟨_, ps_expr pE hs, he σ H E _ (fun d v H2 p g r => q.nx _ _ _ (k d p) (E.grow g)) (q.xs E)⟩
def thenOW (o : Out) (F : OutW → Prop) (ρ : Rho) : Prop := match o with
  | .rt _ => F (.nx ρ)
  | .ex c => F (.ex c ρ)
  | _ => False
theorem ws_call {α : Type} {enc : α → List PyData} {es : List Expr} {x : Str} {ps : List Str} {k : Nat} {Dom : α → Prop} {f : α → Out} (y : α) (G : Fc C.X.prog C.X.w C.X.K C.X.mg C.X.base x ps k (spF enc Dom f)) (hg : Gl C.X x) (ha : DAd C (xiW F ρ) ρ (e :: es) (enc y)) (hd : Dom y) (h : thenOW (f y) F ρ)
    (hk : k ≤ C.lv := by exact Nat.le_of_ble_eq_true rfl) (hs : swapsWith (.Call (.Name x p) (e :: es) [] pos) none pos.line C.X.env = pure false := by rfl) (hcalm : C.X.calm = true := by rfl) (hdb : (x == ("__debug__" : Str)) = false := by decide) (he : starEach (e :: es) C.X.env = (false, eval e C.X.env) :: starEach es C.X.env := by rfl) (hpl : (backTo pos (starEach es C.X.env)).any (·.1) = false := by rfl) :
    WS C F ρ (.Expr (.Call (.Name x p) (e :: es) [] pos) pos) :=
  ws_expr (de_cx (P := fun d => f y = .rt d) y G hk hg ha hd (fun d q => q.symm) (fun c q => by rw [← q] at h; exact h) hcalm hdb he hpl) (fun d q => by rw [q] at h; exact h) hs
theorem ws_if {B : Bool → Prop} {s1 s2 : List Stmt} (hc : DT C (xiW F ρ) ρ e B) (h1 : B true → WSs C F ρ s1) (h2 : B false → WSs C F ρ s2) : WS C F ρ (.If e s1 s2 pos) := fun D σ H E q =>
  ⟨_, ps_if pT pSs pSs, hc σ H E _ (fun b H2 p g => by
    cases b with
    | true => exact iteT (h1 p D σ H2 (E.grow g) q)
    | false => exact iteF (h2 p D σ H2 (E.grow g) q)) (q.xs E)⟩
theorem ws_ifd {k : Bool} {s1 s2 : List Stmt} (hc : DTd C (xiW F ρ) ρ e k) (h1 : k = true → WSs C F ρ s1) (h2 : k = false → WSs C F ρ s2) : WS C F ρ (.If e s1 s2 pos) := ws_if hc (fun e => h1 e.symm) (fun e => h2 e.symm)
theorem ws_set (i : Nat) {x : Str} {pos' : Pos} (he : DE C (xiW F ρ) ρ e P) (k : ∀ d, P d → F (.nx (ρ.set i (.dat d)))) (hN : C.X.N.Nodup) (hi : C.X.N[i]? = some x) (hx : Loc C.X.env.scope x)
    (hs : swapsWith e (some (.Name x pos')) pos.line C.X.env = pure false := by rfl) (hf : C.X.fn x = true ∨ C.X.env.scope.names.lookup x = some .local := by first | exact .inl rfl | exact .inr rfl) : WS C F ρ (.Assign [.Name x pos'] e pos) := fun D σ H E q =>
  ⟨_, ps_set hN hi hx pE hs hf, he σ H E _ (fun d v H2 p g r => by
    obtain ⟨E2, s⟩ := (E.grow g).put (i := i) (sv := .dat d) (o := some v) rfl ⟨v, rfl, r⟩
    exact q.nx _ _ _ (k d p) E2) (q.xs E)⟩
theorem ws_ret (he : DE C (xiW F ρ) ρ e P) (k : ∀ d, P d → F (.rt d ρ)) : WS C F ρ (.Return (some e) pos) := fun D σ H E q =>
  ⟨_, ps_ret pE, he σ H E _ (fun d v H2 p g r => q.rt d ρ σ v H2 (k d p) (E.grow g) r) (q.xs E)⟩
theorem ws_retd {d : PyData} (he : DEd C (xiW F ρ) ρ e d) (k : F (.rt d ρ)) : WS C F ρ (.Return (some e) pos) := ws_ret he fun _ e => by rw [e]; exact k
theorem ws_raise {x m : Str} {j : Nat} {p2 pos2 : Pos} (T : Xc C.X.K C.X.mg x) (k : F (.ex (He.ga C.X.K x) ρ)) (hg : Gl C.X x) (hc : C.X.calm = true := by rfl) (hdb : (x == ("__debug__" : Str)) = false := by decide) : WS C F ρ (.Raise (some (.Call (.Name x p) [.Constant (.str m) j p2] [] pos)) none pos2) := fun D σ H E q =>
  ⟨_, L2N.ps_raise hc C.tk (L2N.pmk_own PySem.F.excBase_ValueError T.q T.g T.k (raises_own T.s T.t) hg hdb), q.ex _ _ σ H k E⟩
/-- name = e, return e, e changing what is owned -/
theorem ws_retE (he : EW C F ρ e) : WS C F ρ (.Return (some e) pos) := fun D σ H E q => ⟨_, ps_ret pE, he σ H E _ (fun d ρ' v H2 f E' r => q.rt d ρ' σ v H2 f E' r) (fun c ρ' H2 f E' => q.ex c ρ' σ H2 f E')⟩
def setW (i : Nat) (F : OutW → Prop) : OutW → Prop
  | .rt d ρ => F (.nx (ρ.set i (.dat d)))
  | o => F o
theorem ws_setE (i : Nat) {x : Str} {pos' : Pos} (he : EW C (setW i F) ρ e) (hN : C.X.N.Nodup) (hi : C.X.N[i]? = some x) (hx : Loc C.X.env.scope x)
    (hs : swapsWith e (some (.Name x pos')) pos.line C.X.env = pure false := by rfl) (hf : C.X.fn x = true ∨ C.X.env.scope.names.lookup x = some .local := by first | exact .inl rfl | exact .inr rfl) : WS C F ρ (.Assign [.Name x pos'] e pos) := fun D σ H E q =>
  ⟨_, ps_set hN hi hx pE hs hf, he σ H E _ (fun d ρ' v H2 f E' r => by
    obtain ⟨E2, s⟩ := E'.put (i := i) (sv := .dat d) (o := some v) rfl ⟨v, rfl, r⟩
    exact q.nx _ _ _ f E2) (fun c ρ' H2 f E' => q.ex c ρ' σ H2 f E')⟩
theorem ew_de {Ξ : Addr → Prop} (he : DE C Ξ ρ e P) (k : ∀ d, P d → F (.rt d ρ)) (x : ∀ c, Ξ c → F (.ex c ρ)) : EW C F ρ e := fun σ H E Q q z => he σ H E Q (fun d v H2 p g r => q d ρ v H2 (k d p) (E.grow g) r) (fun c H2 f g => z c ρ H2 (x c f) (E.grow g))
theorem EW.imp {F' : OutW → Prop} (h : EW C F ρ e) (i : ∀ o, F o → F' o) : EW C F' ρ e := fun σ H E Q q z => h σ H E Q (fun d ρ' v H2 f => q d ρ' v H2 (i _ f)) (fun c ρ' H2 f => z c ρ' H2 (i _ f))
/-! ### fields -/
theorem de_fld {Ξ : Addr → Prop} (i : Nat) {x f : Str} {q cl : Addr} {fs : Fds} {d : PyData} {px : Pos} (h : gt ρ i = .thg q (objT cl fs)) (hN : C.X.N[i]? = some x) (hv : Vis C.X.env.scope x) (hc : Cls C.X.K cl) (hn : NoAttr C.X.K cl f) (hl : fs.lookup f = some d)
    (hb : attributeBase (.Name x px) f C.X.env (eval (.Name x px) C.X.env) = eval (.Name x px) C.X.env := by rfl) (hd : (x == ("__debug__" : Str)) = false := by decide) (hcd : (x == ("__classdict__" : Str)) = false := by decide) : DEd C Ξ ρ (.Attribute (.Name x px) f pos) d := fun σ H E Q k z => by
  obtain ⟨hσ, _, _, dx, fv, h1, h2⟩ := E.obj_of h
  obtain ⟨v, e1, r⟩ := fd_get h2 hl
  exact ⟨_, pe_fld (pe_var hN hv hd hcd) hb, _, hσ, q, cl, dx, fv, v, rfl, h1, hc, hn, e1, k d v H rfl (Gr.refl _ _) r⟩
theorem ws_fld (i : Nat) {x f : Str} {q cl : Addr} {fs : Fds} {px pos' : Pos} (h : gt ρ i = .thg q (objT cl fs)) (hN : C.X.N[i]? = some x) (hv : Vis C.X.env.scope x) (hc : Cls C.X.K cl) (hn : NoAttr C.X.K cl f) (hz : fs.length < 900) (he : DE C (xiW F ρ) ρ e P) (k : ∀ d, P d → F (.nx (ρ.set i (.thg q (objT cl (putFD f d fs))))))
    (hs : swapsWith e (some (.Attribute (.Name x px) f pos')) pos.line C.X.env = pure false := by rfl) (hd : (x == ("__debug__" : Str)) = false := by decide) (hcd : (x == ("__classdict__" : Str)) = false := by decide) : WS C F ρ (.Assign [.Attribute (.Name x px) f pos'] e pos) := fun D σ H E q0 =>
  ⟨_, ps_fld (pe_var hN hv hd hcd) pE hs, he σ H E _ (fun d v H2 p g r => by
    have E2 := E.grow g
    obtain ⟨hσ, o1, o2, dx, fv, h1, h2⟩ := E2.obj_of h
    obtain ⟨E3, ev⟩ := E2.mutO (o := .ins cl dx (putF f v fv)) (sv := .thg q (objT cl (putFD f d fs))) (i := i) (by rw [h]; rfl) rfl o1 o2 (fun φ y => by rw [h1] at y; cases y) fun ev => ⟨rfl, o1, o2, _, upd_same, dx, _, rfl, by rw [ev]; exact fd_put r h2⟩
    exact ⟨_, hσ, q, cl, dx, fv, rfl, h1, hc, hn, by have := Paired.length h2; omega, q0.nx _ _ _ (k d p) E3⟩) (q0.xs E)⟩
end
end DD

namespace DD
variable [Nu]
open PySem L2
/-! ## defs that get an instance and may change it -/
inductive OutM where
  | rt (d : PyData) (fs : Fds) | ex (c : Addr) (fs : Fds)
/-- what is hidden, what is volatile, the instance -/
structure Pass (O U : Addr → Bool) (H : Hp) (p : Addr) : Prop where
  op : O p = true
  al : ∀ a, O a = true → H a ≠ none
  uo : ∀ a, U a = true → O a = true
  up : U p = false
  uc : ∀ a, U a = true → ∃ k, Cell k H a
def ObjAt (cl : Addr) (fs : Fds) (Hv H : Hp) (p : Addr) : Prop := ∃ u, H p = some u ∧ (objT cl fs).T Hv u
/-- pre: what stands ahead of the instance (a dice); X: what is asked of the volatile places -/
def spM {α : Type} (cl : Addr) (X : List V → (Addr → Bool) → Hp → Prop) (enc : α → List PyData) (fs : α → Fds) (Dom : α → Prop) (R : α → OutM → Prop) : Sp := fun vs H Q E => ∃ (O U : Addr → Bool) (p : Addr) (x : α) (pre us : List V), vs = pre ++ .ref p :: us ∧ X pre U H ∧ Pass O U H p ∧ ObjAt cl (fs x) (hid O H) H p ∧ AtAll (hid O H) us (enc x) ∧ Dom x ∧
  (∀ d fs' v H', R x (.rt d fs') → Gr U (rem p H) H' → ObjAt cl fs' (hid O H') H' p → At (hid O H') v d → Q v H') ∧ ∀ c fs' H', R x (.ex c fs') → Gr U (rem p H) H' → ObjAt cl fs' (hid O H') H' p → E (.ref c) none H'
def mC (P : Program) (w : World) (K : PySem.W.Frag) (mg : Str → Option Value) (base : Heap) (N : List Str) (qual : Str) (scope : Scope) (f : Addr) (cdv : Value) (A : Around) (outer : List PySem.Env) (s : Shared) (H : Hp) (E : XK) (k : Nat) (hr : Room k (A.deeper (PyProof.Rows.envOfC qual scope s.heap.objs.size f cdv))) (O U : Addr → Bool) (p : Addr) (h : Pass O U H p) : Ct where
  X := cxOf (L2N.CX P w) P w K mg base N qual scope f cdv A outer s H E
  W := fun cls d _ H => E cls d H
  tk := L2N.takes_of rfl rfl rfl rfl
  O := fun a => O a && !(a == p)
  U := U
  le := fun a hu => by
    have ne : a ≠ p := fun z => by rw [z, h.up] at hu; cases hu
    rw [h.uo a hu, beq_eq_false_iff_ne.mpr ne]
    rfl
  base := rem p H
  lv := k
  room := L2H.roomH_of hr
  hd := fun _ => hr.hd
def rawS (v : V) : SV := .raw v
theorem owns_raws {ρ : Rho} {a : Addr} : ∀ pre : List V, owns (pre.map SV.raw ++ ρ) a = owns ρ a
  | [] => rfl
  | v :: pre => by
    have ih := owns_raws (ρ := ρ) (a := a) pre
    show (((SV.raw v).addr == some a) || owns (pre.map SV.raw ++ ρ) a) = _
    rw [ih]
    rfl
theorem env_M {P : Program} {w : World} {K : PySem.W.Frag} {mg : Str → Option Value} {base : Heap} {N : List Str} {qual : Str} {scope : Scope} {f : Addr} {cdv : Value} {A : Around} {outer : List PySem.Env} {s : Shared} {H : Hp} {E : XK} {k : Nat} {hr : Room k (A.deeper (PyProof.Rows.envOfC qual scope s.heap.objs.size f cdv))} {O U : Addr → Bool} {p : Addr} (h : Pass O U H p)
    {cl : Addr} {fs : Fds} {pre us : List V} {ds : List PyData} (ho : ObjAt cl fs (hid O H) H p) (ha : AtAll (hid O H) us ds) (hl : pre.length + ds.length + 1 ≤ N.length) :
    Env (mC P w K mg base N qual scope f cdv A outer s H E k hr O U p h) (pre.map SV.raw ++ .thg p (objT cl fs) :: rho (N.length - pre.length - 1) ds) (L2.start N (pre ++ .ref p :: us)) H := by
  have e := ha.len
  obtain ⟨ρ, hρ⟩ : ∃ ρ, ρ = pre.map SV.raw ++ .thg p (objT cl fs) :: rho (N.length - pre.length - 1) ds := ⟨_, rfl⟩
  have own : ∀ a, owns ρ a = (p == a) := fun a => by
    rw [hρ, owns_raws]
    show (((SV.thg p (objT cl fs)).addr == some a) || owns (rho _ ds) a) = _
    rw [owns_rho, Bool.or_false]
    show (some p == some a) = _
    by_cases z : p = a
    · rw [z]; simp
    · rw [beq_eq_false_iff_ne.mpr z, beq_eq_false_iff_ne.mpr fun q => z (Option.some.inj q)]
  have ev : vis (mC P w K mg base N qual scope f cdv A outer s H E k hr O U p h) ρ H = hid O H := by
    unfold vis
    congr 1
    funext a
    unfold inn
    rw [own]
    show ((O a && !(a == p)) || (p == a)) = O a
    by_cases z : a = p
    · rw [z, h.op]; simp
    · rw [beq_eq_false_iff_ne.mpr z, beq_eq_false_iff_ne.mpr (Ne.symm z)]; simp
  rw [← hρ]
  have hst : L2.start N (pre ++ .ref p :: us) = pre.map some ++ some (.ref p) :: (us.map some ++ List.replicate (N.length - pre.length - 1 - us.length) none) := by
    unfold L2.start
    rw [List.map_append, List.map_cons, List.append_assoc, List.cons_append, List.length_append, List.length_cons, show N.length - (pre.length + (us.length + 1)) = N.length - pre.length - 1 - us.length by omega]
  obtain ⟨u, hu1, hu2⟩ := ho
  have hOp : (mC P w K mg base N qual scope f cdv A outer s H E k hr O U p h).O p = false := by show (O p && !(p == p)) = false; simp
  refine ⟨?_, fun i => ?_, h.uc, fun a ha => ?_, (Gr.refl U H).remL, fun i j q h1 h2 => ?_⟩
  · rw [hst, hρ]
    unfold rho
    simp only [List.length_append, List.length_cons, List.length_map, List.length_replicate]
    omega
  · have hg : ∀ sv o, gt ρ i = sv → (L2.start N (pre ++ .ref p :: us)).getD i none = o → SlotOk (mC P w K mg base N qual scope f cdv A outer s H E k hr O U p h) ρ H sv o → SlotOk (mC P w K mg base N qual scope f cdv A outer s H E k hr O U p h) ρ H (gt ρ i) ((L2.start N (pre ++ .ref p :: us)).getD i none) := fun sv o e1 e2 z => by rw [e1, e2]; exact z
    rcases Nat.lt_trichotomy i pre.length with hi | hi | hi
    · obtain ⟨v, hv⟩ : ∃ v, pre[i]? = some v := ⟨_, List.getElem?_eq_getElem hi⟩
      refine hg (.raw v) (some v) ?_ ?_ rfl
      · rw [hρ]
        unfold gt
        rw [List.getD_eq_getElem?_getD, List.getElem?_append_left (by rw [List.length_map]; exact hi), List.getElem?_map, hv]
        rfl
      · rw [hst, List.getD_eq_getElem?_getD, List.getElem?_append_left (by rw [List.length_map]; exact hi), List.getElem?_map, hv]
        rfl
    · subst hi
      refine hg (.thg p (objT cl fs)) (some (.ref p)) ?_ ?_ ⟨rfl, hOp, rem_self, u, hu1, by rw [ev]; exact hu2⟩
      · rw [hρ]
        unfold gt
        rw [List.getD_eq_getElem?_getD, List.getElem?_append_right (by rw [List.length_map]; omega), List.length_map, Nat.sub_self]
        rfl
      · rw [hst, List.getD_eq_getElem?_getD, List.getElem?_append_right (by rw [List.length_map]; omega), List.length_map, Nat.sub_self]
        rfl
    · obtain ⟨j, rfl⟩ : ∃ j, i = pre.length + 1 + j := ⟨i - pre.length - 1, by omega⟩
      have ix : pre.length + 1 + j - pre.length = j + 1 := by omega
      have e1 : gt ρ (pre.length + 1 + j) = gt (rho (N.length - pre.length - 1) ds) j := by
        rw [hρ]
        unfold gt
        rw [List.getD_eq_getElem?_getD, List.getD_eq_getElem?_getD, List.getElem?_append_right (by rw [List.length_map]; omega), List.length_map, ix, List.getElem?_cons_succ]
      have e2 : (L2.start N (pre ++ .ref p :: us)).getD (pre.length + 1 + j) none = (us.map some ++ List.replicate (N.length - pre.length - 1 - us.length) none).getD j none := by
        rw [hst, List.getD_eq_getElem?_getD, List.getD_eq_getElem?_getD, List.getElem?_append_right (by rw [List.length_map]; omega), List.length_map, ix, List.getElem?_cons_succ]
      by_cases hj : j < ds.length
      · obtain ⟨v, h1, h2⟩ := ha.get (List.getElem?_eq_getElem hj)
        refine hg (.dat ds[j]) (some v) ?_ ?_ ⟨v, rfl, by rw [ev]; exact h2⟩
        · rw [e1]
          unfold gt rho
          rw [List.getD_eq_getElem?_getD, List.getElem?_append_left (by rw [List.length_map]; exact hj), List.getElem?_map, List.getElem?_eq_getElem hj]
          rfl
        · rw [e2, List.getD_eq_getElem?_getD, List.getElem?_append_left (by rw [List.length_map]; omega), List.getElem?_map, h1]
          rfl
      · refine hg .no _ ?_ rfl trivial
        rw [e1]
        unfold gt rho
        rw [List.getD_eq_getElem?_getD, List.getElem?_append_right (by rw [List.length_map]; omega), List.getElem?_replicate]
        split <;> rfl
  · have ha : (O a && !(a == p)) = true := ha
    rw [Bool.and_eq_true] at ha
    exact h.al a ha.1
  · have key : ∀ i q, (gt ρ i).addr = some q → i = pre.length := fun i q hq => by
      rcases Nat.lt_trichotomy i pre.length with hi | hi | hi
      · exfalso
        rw [hρ] at hq
        unfold gt at hq
        rw [List.getD_eq_getElem?_getD, List.getElem?_append_left (by rw [List.length_map]; exact hi), List.getElem?_map, List.getElem?_eq_getElem hi] at hq
        cases hq
      · exact hi
      · exfalso
        obtain ⟨j, rfl⟩ : ∃ j, i = pre.length + 1 + j := ⟨i - pre.length - 1, by omega⟩
        have ix : pre.length + 1 + j - pre.length = j + 1 := by omega
        rw [hρ] at hq
        unfold gt at hq
        rw [List.getD_eq_getElem?_getD, List.getElem?_append_right (by rw [List.length_map]; omega), List.length_map, ix, List.getElem?_cons_succ] at hq
        have : owns (rho (N.length - pre.length - 1) ds) q = true := owns_iff.mpr ⟨j, by unfold gt; rw [List.getD_eq_getElem?_getD]; exact hq⟩
        rw [owns_rho] at this
        cases this
    rw [key i q h1, key j q h2]
/-- how a body ends, told of the instance -/
def outM (j : Nat) (p cl : Addr) (R : OutM → Prop) : OutW → Prop
  | .nx ρ => ∃ fs', gt ρ j = .thg p (objT cl fs') ∧ R (.rt .none fs')
  | .rt d ρ => ∃ fs', gt ρ j = .thg p (objT cl fs') ∧ R (.rt d fs')
  | .ex c ρ => ∃ fs', gt ρ j = .thg p (objT cl fs') ∧ R (.ex c fs')
theorem fn_M {α : Type} {cl : Addr} {X : List V → (Addr → Bool) → Hp → Prop} {enc : α → List PyData} {fs : α → Fds} {Dom : α → Prop} {R : α → OutM → Prop} {P : Program} {w : World} {K : PySem.W.Frag} {mg : Str → Option Value} {base : Heap} {x qual : Str} {st : Stmt} {f : Addr} {fd : FuncData} {N ps : List Str} {k np : Nat}
    (F : FunD K x qual (defArgs st) (defBody st) (defScope st) [] [] f fd) (S : FnScope N ps (defScope st)) (hpre : ∀ pre U H, X pre U H → pre.length = np) (hn : ∀ y, np + 1 + (enc y).length = ps.length) (hN : ps.length ≤ N.length)
    (body : ∀ cdv A outer s H E hr O U p (h : Pass O U H p) y pre, Dom y → X pre U H → WSs (mC P w K mg base N qual (defScope st) f cdv A outer s H E k hr O U p h) (outM np p cl (R y)) (pre.map SV.raw ++ .thg p (objT cl (fs y)) :: rho (N.length - np - 1) (enc y)) (defBody st)) : FnOk P w K mg base (L2N.CX P w) (k + 1) f fd ps (spM cl X enc fs Dom R) := by
  refine F.ok (CX := L2N.CX P w) S (fun vs H Q E h => ?_) (fun cdv A outer s H vs Q E hr h => ?_)
  · obtain ⟨O, U, p, y, pre, us, rfl, hX, _, _, ha, _⟩ := h
    rw [List.length_append, List.length_cons, ha.len, hpre _ _ _ hX, ← hn y]
    omega
  · obtain ⟨O, U, p, y, pre, us, rfl, hX, hp, ho, ha, hd, h1, h2⟩ := h
    have hpl := hpre _ _ _ hX
    have b := body cdv A outer s H E hr O U p hp y pre hd hX
    rw [← hpl] at b
    have hny := hn y
    obtain ⟨C, eC⟩ : ∃ C, C = mC P w K mg base N qual (defScope st) f cdv A outer s H E k hr O U p hp := ⟨_, rfl⟩
    have fin : ∀ {ρ' : Rho} {σ' : L2.St} {H' : Hp} {fs' : Fds}, gt ρ' pre.length = .thg p (objT cl fs') → Env (mC P w K mg base N qual (defScope st) f cdv A outer s H E k hr O U p hp) ρ' σ' H' → Gr U (rem p H) H' ∧ ObjAt cl fs' (hid O H') H' p ∧ Same (vis (mC P w K mg base N qual (defScope st) f cdv A outer s H E k hr O U p hp) ρ' H') (hid O H') := fun {ρ' σ' H' fs'} hg E' => by
      have sm : Same (vis (mC P w K mg base N qual (defScope st) f cdv A outer s H E k hr O U p hp) ρ' H') (hid O H') := hid_mono fun a o e1 e2 => by
        unfold inn at e1
        rw [Bool.or_eq_false_iff] at e1
        have ne : a ≠ p := fun z => by
          have : owns ρ' a = true := owns_iff.mpr ⟨pre.length, by rw [hg, z]; rfl⟩
          rw [this] at e1
          cases e1.2
        refine ⟨?_, e2⟩
        have e3 : (O a && !(a == p)) = false := e1.1
        rw [beq_eq_false_iff_ne.mpr ne] at e3
        simpa using e3
      obtain ⟨_, _, _, u, h3, h4⟩ := E'.thg_of2 hg
      exact ⟨E'.gr, ⟨u, h3, (objT cl fs').up sm h4⟩, sm⟩
    refine ⟨_, pSs, b _ _ H (env_M hp ho ha (by omega)) ⟨fun ρ' σ' H' ⟨fs', hg, hr⟩ E' => ?_, fun d ρ' σ' v H' ⟨fs', hg, hr⟩ E' r => ?_, fun c ρ' σ' H' ⟨fs', hg, hr⟩ E' => ?_⟩⟩
    · obtain ⟨g1, g2, _⟩ := fin hg E'
      exact h1 .none fs' .non H' hr g1 g2 .non
    · obtain ⟨g1, g2, g3⟩ := fin hg E'
      exact h1 d fs' v H' hr g1 g2 (r.up g3)
    · obtain ⟨g1, g2, _⟩ := fin hg E'
      exact h2 c fs' H' hr g1 g2
/-! ### calls -/
abbrev noX : List V → (Addr → Bool) → Hp → Prop := fun pre U _ => pre = [] ∧ U = fun _ => false
theorem gr_none {U : Addr → Bool} {p : Addr} {H H' : Hp} (hx : U p = false) (g : Gr (fun _ => false) (rem p H) H') : Gr U (rem p H) H' := Gr.of g.same
section
open PySem.Spec PyProof.Rows
variable {X : Cx} {CX : CXT} {k : Nat} {f C : Addr} {fd : FuncData} {ps : List Str} {sp : Sp} {E : L2.St → XK} {m : Str} {pos apos : Pos} {e o : Expr} {es : List Expr} {ta : TE} {t : TA}
def tMethS (C : Addr) (m : Str) (sp : Sp) (E : L2.St → XK) (ta : TE) (t : TA) : TE := fun σ H Q => ta σ H fun x H1 => ∃ a dx fs, x = .ref a ∧ H1 a = some (.ins C dx fs) ∧ fs.lookup m = none ∧ t σ H1 fun vs H2 => sp (x :: vs) H2 Q (E σ)
theorem pe_methN {pl : Sem Bool} (he : PE X o ta) (c : Cls X.K C) (hm : Meth X.K C m f) (F : FnOk X.prog X.w X.K X.mg X.base CX k f fd ps sp) (hr : Room k X.A) (hb : Binds X.K fd ps []) (hx : ∀ σ, PassesAt CX X σ (E σ)) (ha : PA X (e :: es) t)
    (hst : starEach (e :: es) X.env = (false, eval e X.env) :: starEach es X.env := by rfl) (hpl : (backTo pos (starEach es X.env)).any (·.1) = false := by rfl)
    (ht : eval (.Call (.Attribute o m apos) (e :: es) [] pos) X.env = (do
      let ov ← eval o X.env
      standAt apos.atName
      let (f, first) ← holding [ov] (getMethod ov m pl)
      callWith pos f first (backTo pos (starEach (e :: es) X.env)) (backToKw pos (keywordEach [] X.env))) := by rfl) :
    PE X (.Call (.Attribute o m apos) (e :: es) [] pos) (tMethS C m sp E ta t) := by
  refine ⟨fun pins s σ H Q I h => ?_⟩
  refine PySem.W.methodCall_KW (pl := pl) (thn (he.run pins s σ H _ I h) fun u s1 ⟨x, H1, I1, rx, a, dx, fs, ex, ea, l, q⟩ => ?_) ht
  subst ex
  obtain rfl : u = Value.ref a := rx
  refine getmeth_ok I1 ea c hm l ?_
  refine PySem.W.callWith_K (first := [.ref a]) (h₀ := X.base) I.ok.mod.kin hm.kp (thn (ha.run pos pins s1 σ H1 _ I1 q) fun us s2 ⟨vs, H2, I2, r, q2⟩ => ⟨I2.kIn, ?_⟩) hst hpl
  exact run_fnS (us := .ref a :: us) (vs := .ref a :: vs) F hr hb (hx σ) I2 (.cons rfl r) q2
theorem pe_methN0 {pl : Sem Bool} (he : PE X o ta) (c : Cls X.K C) (hm : Meth X.K C m f) (F : FnOk X.prog X.w X.K X.mg X.base CX k f fd ps sp) (hr : Room k X.A) (hb : Binds X.K fd ps []) (hx : ∀ σ, PassesAt CX X σ (E σ))
    (ht : eval (.Call (.Attribute o m apos) [] [] pos) X.env = (do
      let ov ← eval o X.env
      standAt apos.atName
      let (f, first) ← holding [ov] (getMethod ov m pl)
      callWith pos f first (backTo pos (starEach [] X.env)) (backToKw pos (keywordEach [] X.env))) := by rfl) :
    PE X (.Call (.Attribute o m apos) [] [] pos) (tMethS C m sp E ta tNil) := by
  refine ⟨fun pins s σ H Q I h => ?_⟩
  refine PySem.W.methodCall_KW (pl := pl) (thn (he.run pins s σ H _ I h) fun u s1 ⟨x, H1, I1, rx, a, dx, fs, ex, ea, l, q⟩ => ?_) ht
  subst ex
  obtain rfl : u = Value.ref a := rx
  refine getmeth_ok I1 ea c hm l ?_
  exact PySem.W.callWith_K0 (first := [.ref a]) I1.kIn hm.kp (run_fnS (us := [.ref a]) (vs := [.ref a]) F hr hb (hx σ) I1 (.cons rfl .nil) q)
end
/-- a method that may be called -/
structure Mt (P : Program) (w : World) (K : PySem.W.Frag) (mg : Str → Option Value) (base : Heap) (cl : Addr) (m : Str) (ps : List Str) (k : Nat) (sp : Sp) : Prop where
  ex : ∃ (f : Addr) (fd : FuncData), Meth K cl m f ∧ Binds K fd ps [] ∧ FnOk P w K mg base (L2N.CX P w) k f fd ps sp
section
variable {α : Type} {enc : α → List PyData} {fs : α → Fds} {C : Ct} {F : OutW → Prop} {ρ : Rho} {e : Expr} {es : List Expr} {pos apos px : Pos} {cl : Addr} {Dom : α → Prop} {R : α → OutM → Prop} {m x : Str} {ps : List Str} {k : Nat}
theorem ew_core {i : Nat} {q : Addr} {y : α} {σ : L2.St} {H : Hp} {us : List V} (hsl : gt ρ i = .thg q (objT cl (fs y))) (hd : Dom y) (E : Env C ρ σ H) (ha : AtAll (vis C ρ H) us (enc y)) {Q : VK} {Z : XK} (q1 : ∀ d fs' v H2, R y (.rt d fs') → Env C (ρ.set i (.thg q (objT cl fs'))) σ H2 → At (vis C (ρ.set i (.thg q (objT cl fs'))) H2) v d → Q v H2) (q2 : ∀ c fs' H2, R y (.ex c fs') → Env C (ρ.set i (.thg q (objT cl fs'))) σ H2 → Z (.ref c) none H2) :
    spM cl noX enc fs Dom R (.ref q :: us) H Q Z := by
  obtain ⟨hσ, o1, o2, u, h1, h2⟩ := E.thg_of2 hsl
  have hx : ∀ φ, H q ≠ some (.ext φ) := fun φ z => by obtain ⟨dx, fv, e, _⟩ := h2; rw [h1, e] at z; cases z
  refine ⟨inn C ρ, fun _ => false, q, y, [], us, rfl, ⟨rfl, rfl⟩, ⟨?_, E.out, fun a h => (by cases h), rfl, fun a h => (by cases h)⟩, ⟨u, h1, h2⟩, ha, hd, fun d fs' v H' r g ho rv => ?_, fun c fs' H' r g ho => ?_⟩
  · unfold inn
    rw [owns_iff.mpr ⟨i, by rw [hsl]; rfl⟩, Bool.or_true]
  · obtain ⟨E2, ev⟩ := E.swap (t' := objT cl fs') hsl hx (gr_none (O_U o1) g) ho
    exact q1 d fs' v H' r E2 (by rw [ev]; exact rv)
  · obtain ⟨E2, ev⟩ := E.swap (t' := objT cl fs') hsl hx (gr_none (O_U o1) g) ho
    exact q2 c fs' H' r E2
/-- x.m(e, ..), x a slot -/
theorem ew_meth (i : Nat) {q : Addr} (y : α) (hsl : gt ρ i = .thg q (objT cl (fs y))) (G : Mt C.X.prog C.X.w C.X.K C.X.mg C.X.base cl m ps k (spM cl noX enc fs Dom R)) (hN : C.X.N[i]? = some x) (hv : Vis C.X.env.scope x) (hc : Cls C.X.K cl) (hno : (fs y).lookup m = none) (ha : DAd C none' ρ (e :: es) (enc y)) (hd : Dom y)
    (h1 : ∀ d fs', R y (.rt d fs') → F (.rt d (ρ.set i (.thg q (objT cl fs'))))) (h2 : ∀ c fs', R y (.ex c fs') → F (.ex c (ρ.set i (.thg q (objT cl fs')))))
    (hk : k ≤ C.lv := by exact Nat.le_of_ble_eq_true rfl) (hcalm : C.X.calm = true := by rfl) (hdb : (x == ("__debug__" : Str)) = false := by decide) (hcd : (x == ("__classdict__" : Str)) = false := by decide) (hst : starEach (e :: es) C.X.env = (false, eval e C.X.env) :: starEach es C.X.env := by rfl) (hpl : (backTo pos (starEach es C.X.env)).any (·.1) = false := by rfl) {pl : Sem Bool}
    (ht : eval (.Call (.Attribute (.Name x px) m apos) (e :: es) [] pos) C.X.env = (do
      let ov ← eval (.Name x px) C.X.env
      standAt apos.atName
      let (f, first) ← holding [ov] (getMethod ov m pl)
      callWith pos f first (backTo pos (starEach (e :: es) C.X.env)) (backToKw pos (keywordEach [] C.X.env))) := by rfl) : EW C F ρ (.Call (.Attribute (.Name x px) m apos) (e :: es) [] pos) := fun σ H E Q q1 z => by
  obtain ⟨f, fd, hm, hb, FF⟩ := G.ex
  obtain ⟨hσ, _, _, dx, fv, g1, g2⟩ := E.obj_of hsl
  refine ⟨_, pe_methN (pe_var hN hv hdb hcd) hc hm FF ((C.room' hcalm).mono hk) hb (fun σ => L2N.passAt C.tk σ) pA hst hpl ht, _, hσ, q, dx, fv, rfl, g1, fd_no g2 hno, ha σ H E _ (fun l vs H2 pl g r => ?_) (fun _ _ f _ => f.elim)⟩
  subst pl
  exact ew_core hsl hd (E.grow g) r.ats (fun d fs' v H' rr E2 rv => q1 d _ v H' (h1 d fs' rr) E2 rv) (fun c fs' H' rr E2 => z c _ H' (h2 c fs' rr) E2)
theorem ew_meth0 (i : Nat) {q : Addr} (y : α) (hsl : gt ρ i = .thg q (objT cl (fs y))) (G : Mt C.X.prog C.X.w C.X.K C.X.mg C.X.base cl m ps k (spM cl noX enc fs Dom R)) (hN : C.X.N[i]? = some x) (hv : Vis C.X.env.scope x) (hc : Cls C.X.K cl) (hno : (fs y).lookup m = none) (he : enc y = []) (hd : Dom y)
    (h1 : ∀ d fs', R y (.rt d fs') → F (.rt d (ρ.set i (.thg q (objT cl fs'))))) (h2 : ∀ c fs', R y (.ex c fs') → F (.ex c (ρ.set i (.thg q (objT cl fs')))))
    (hk : k ≤ C.lv := by exact Nat.le_of_ble_eq_true rfl) (hcalm : C.X.calm = true := by rfl) (hdb : (x == ("__debug__" : Str)) = false := by decide) (hcd : (x == ("__classdict__" : Str)) = false := by decide) {pl : Sem Bool}
    (ht : eval (.Call (.Attribute (.Name x px) m apos) [] [] pos) C.X.env = (do
      let ov ← eval (.Name x px) C.X.env
      standAt apos.atName
      let (f, first) ← holding [ov] (getMethod ov m pl)
      callWith pos f first (backTo pos (starEach [] C.X.env)) (backToKw pos (keywordEach [] C.X.env))) := by rfl) : EW C F ρ (.Call (.Attribute (.Name x px) m apos) [] [] pos) := fun σ H E Q q1 z => by
  obtain ⟨f, fd, hm, hb, FF⟩ := G.ex
  obtain ⟨hσ, _, _, dx, fv, g1, g2⟩ := E.obj_of hsl
  refine ⟨_, pe_methN0 (pe_var hN hv hdb hcd) hc hm FF ((C.room' hcalm).mono hk) hb (fun σ => L2N.passAt C.tk σ) ht, _, hσ, q, dx, fv, rfl, g1, fd_no g2 hno, ?_⟩
  exact ew_core hsl hd E (by rw [he]; exact .nil) (fun d fs' v H' rr E2 rv => q1 d _ v H' (h1 d fs' rr) E2 rv) (fun c fs' H' rr E2 => z c _ H' (h2 c fs' rr) E2)
end
end DD

namespace DD
variable [Nu]
open PySem L2
/-! ## methods that only read their instance -/
def spR {α : Type} (cl : Addr) (enc : α → List PyData) (fs : α → Fds) (Dom : α → Prop) (g : α → Out) : Sp := fun vs H Q E => ∃ (O : Addr → Bool) (p : Addr) (x : α) (us : List V), vs = .ref p :: us ∧ (∀ a, O a = true → H a ≠ none) ∧ ObjAt cl (fs x) (hid O H) H p ∧ AtAll (hid O H) us (enc x) ∧ Dom x ∧
  (∀ d v H', g x = .rt d → Same H H' → At (hid O H') v d → Q v H') ∧ ∀ c H', g x = .ex c → Same H H' → E (.ref c) none H'
theorem base_vis {C : Ct} {ρ : Rho} {σ : L2.St} {H : Hp} (E : Env C ρ σ H) : Same (hid C.O C.base) (vis C ρ H) := hid_mono fun a o e1 e2 => by
  refine ⟨?_, E.gr.keep a o (O_U e1) e2⟩
  unfold inn
  rw [e1, Bool.false_or]
  cases q : owns ρ a with
  | false => rfl
  | true =>
    exfalso
    obtain ⟨j, hj⟩ := owns_iff.mp q
    have s := E.slot j
    cases h : gt ρ j with
    | no => rw [h] at hj; cases hj
    | dat _ => rw [h] at hj; cases hj
    | raw _ => rw [h] at hj; cases hj
    | own p ds => rw [h] at hj s; injection hj with hj; subst hj; rw [s.2.2.1] at e2; cases e2
    | dic p ds => rw [h] at hj s; injection hj with hj; subst hj; rw [s.2.2.1] at e2; cases e2
    | thg p ds => rw [h] at hj s; injection hj with hj; subst hj; rw [s.2.2.1] at e2; cases e2
theorem fn_R {α : Type} {cl : Addr} {enc : α → List PyData} {fs : α → Fds} {Dom : α → Prop} {g : α → Out} {P : Program} {w : World} {K : PySem.W.Frag} {mg : Str → Option Value} {base : Heap} {x qual : Str} {st : Stmt} {f : Addr} {fd : FuncData} {N ps : List Str} {k : Nat}
    (F : FunD K x qual (defArgs st) (defBody st) (defScope st) [] [] f fd) (S : FnScope N ps (defScope st)) (hn : ∀ y, (enc y).length + 1 = ps.length) (hN : ps.length ≤ N.length) (hg : ∀ y, Dom y → (∃ d, g y = .rt d) ∨ ∃ c, g y = .ex c)
    (body : ∀ cdv A outer s H E hr O p y, Dom y → ObjAt cl (fs y) (hid O H) H p → DSs (fnC P w K mg base N qual (defScope st) f cdv A outer s H E k hr O) (fun o => o = g y) (.raw (.ref p) :: rho (N.length - 1) (enc y)) (defBody st)) : FnOk P w K mg base (L2N.CX P w) (k + 1) f fd ps (spR cl enc fs Dom g) := by
  refine F.ok (CX := L2N.CX P w) S (fun vs H Q E h => ?_) (fun cdv A outer s H vs Q E hr h => ?_)
  · obtain ⟨O, p, y, us, rfl, _, _, ha, _⟩ := h
    rw [List.length_cons, ha.len, hn]
  · obtain ⟨O, p, y, us, rfl, ho, hob, ha, hd, h1, h2⟩ := h
    refine ⟨_, pSs, body cdv A outer s H E hr O p y hd hob _ _ H (env_scr (C := fnC P w K mg base N qual (defScope st) f cdv A outer s H E k hr O) (fun b => rfl) ha (by rw [hn]; exact hN) ho)
      ⟨fun ρ' σ' H' f E' s' => ?_, fun d v H' f gg r => h1 d v H' f.symm gg.same r, fun c σ' H' f gg => h2 c H' f.symm gg.same, fun _ _ _ f => ?_, fun _ _ _ f => ?_⟩⟩
    all_goals
      have f := f.symm
      rcases hg y hd with ⟨d, e⟩ | ⟨c, e⟩ <;> rw [e] at f <;> cases f
section
variable {α : Type} {enc : α → List PyData} {fs : α → Fds} {C : Ct} {Ξ : Addr → Prop} {ρ : Rho} {e : Expr} {es : List Expr} {pos apos px : Pos} {cl : Addr} {Dom : α → Prop} {g : α → Out} {m x : Str} {ps : List Str} {k : Nat} {P : PyData → Prop}
/-- a field of an instance that is not ours -/
theorem de_fldR (i : Nat) {f : Str} {p : Addr} {fs : Fds} {d : PyData} (h : gt ρ i = .raw (.ref p)) (hU : C.U p = false) (ho : ObjAt cl fs (hid C.O C.base) C.base p) (hN : C.X.N[i]? = some x) (hv : Vis C.X.env.scope x) (hc : Cls C.X.K cl) (hn : NoAttr C.X.K cl f) (hl : fs.lookup f = some d)
    (hb : attributeBase (.Name x px) f C.X.env (eval (.Name x px) C.X.env) = eval (.Name x px) C.X.env := by rfl) (hd : (x == ("__debug__" : Str)) = false := by decide) (hcd : (x == ("__classdict__" : Str)) = false := by decide) : DEd C Ξ ρ (.Attribute (.Name x px) f pos) d := fun σ H E Q k z => by
  obtain ⟨u, h1, dx, fv, rfl, h2⟩ := ho
  obtain ⟨v, e1, r⟩ := fd_get (Paired.mapP h2 fun _ _ r => ⟨r.1, r.2.up (base_vis E)⟩) hl
  exact ⟨_, pe_fld (pe_var hN hv hd hcd) hb, _, raw_at E h, p, cl, dx, fv, v, rfl, E.gr.keep p _ hU h1, hc, hn, e1, k d v H rfl (Gr.refl _ _) r⟩
theorem rd_core {q : Addr} {y : α} {σ : L2.St} {H0 H : Hp} {us : List V} (g0 : Gr C.U H0 H) (E : Env C ρ σ H) (ho : ObjAt cl (fs y) (vis C ρ H) H q) (ha : AtAll (vis C ρ H) us (enc y)) (hd : Dom y) {Q : VK} {Z : XK}
    (q1 : ∀ d v H2, g y = .rt d → Gr C.U H0 H2 → At (vis C ρ H2) v d → Q v H2) (q2 : ∀ c H2, g y = .ex c → Gr C.U H0 H2 → Z (.ref c) none H2) : spR cl enc fs Dom g (.ref q :: us) H Q Z :=
  ⟨inn C ρ, q, y, us, rfl, E.out, ho, ha, hd, fun d v H' e ss r => q1 d v H' e (g0.trans (Gr.of ss)) r, fun c H' e ss => q2 c H' e (g0.trans (Gr.of ss))⟩
/-- x.m(e, ..), x a slot, m only reads it -/
theorem de_methR (i : Nat) {q : Addr} (y : α) (hsl : gt ρ i = .thg q (objT cl (fs y))) (G : Mt C.X.prog C.X.w C.X.K C.X.mg C.X.base cl m ps k (spR cl enc fs Dom g)) (hN : C.X.N[i]? = some x) (hv : Vis C.X.env.scope x) (hc : Cls C.X.K cl) (hno : (fs y).lookup m = none) (ha : DAd C Ξ ρ (e :: es) (enc y)) (hd : Dom y)
    (h1 : ∀ d, g y = .rt d → P d) (h2 : ∀ c, g y = .ex c → Ξ c)
    (hk : k ≤ C.lv := by exact Nat.le_of_ble_eq_true rfl) (hcalm : C.X.calm = true := by rfl) (hdb : (x == ("__debug__" : Str)) = false := by decide) (hcd : (x == ("__classdict__" : Str)) = false := by decide) (hst : starEach (e :: es) C.X.env = (false, eval e C.X.env) :: starEach es C.X.env := by rfl) (hpl : (backTo pos (starEach es C.X.env)).any (·.1) = false := by rfl) {pl : Sem Bool}
    (ht : eval (.Call (.Attribute (.Name x px) m apos) (e :: es) [] pos) C.X.env = (do
      let ov ← eval (.Name x px) C.X.env
      standAt apos.atName
      let (f, first) ← holding [ov] (getMethod ov m pl)
      callWith pos f first (backTo pos (starEach (e :: es) C.X.env)) (backToKw pos (keywordEach [] C.X.env))) := by rfl) : DE C Ξ ρ (.Call (.Attribute (.Name x px) m apos) (e :: es) [] pos) P := fun σ H E Q q1 z => by
  obtain ⟨f, fd, hm, hb, FF⟩ := G.ex
  obtain ⟨hσ, _, _, dx, fv, g1, g2⟩ := E.obj_of hsl
  refine ⟨_, pe_methN (pe_var hN hv hdb hcd) hc hm FF ((C.room' hcalm).mono hk) hb (fun σ => L2N.passAt C.tk σ) pA hst hpl ht, _, hσ, q, dx, fv, rfl, g1, fd_no g2 hno, ha σ H E _ (fun l vs H2 pl gg r => ?_) z⟩
  subst pl
  obtain ⟨_, _, _, ho⟩ := (E.grow gg).thg_of2 hsl
  exact rd_core gg (E.grow gg) ho r.ats hd (fun d v H' e g' r' => q1 d v H' (h1 d e) g' r') (fun c H' e g' => z c H' (h2 c e) g')
theorem de_methR0 (i : Nat) {q : Addr} (y : α) (hsl : gt ρ i = .thg q (objT cl (fs y))) (G : Mt C.X.prog C.X.w C.X.K C.X.mg C.X.base cl m ps k (spR cl enc fs Dom g)) (hN : C.X.N[i]? = some x) (hv : Vis C.X.env.scope x) (hc : Cls C.X.K cl) (hno : (fs y).lookup m = none) (he : enc y = []) (hd : Dom y)
    (h1 : ∀ d, g y = .rt d → P d) (h2 : ∀ c, g y = .ex c → Ξ c)
    (hk : k ≤ C.lv := by exact Nat.le_of_ble_eq_true rfl) (hcalm : C.X.calm = true := by rfl) (hdb : (x == ("__debug__" : Str)) = false := by decide) (hcd : (x == ("__classdict__" : Str)) = false := by decide) {pl : Sem Bool}
    (ht : eval (.Call (.Attribute (.Name x px) m apos) [] [] pos) C.X.env = (do
      let ov ← eval (.Name x px) C.X.env
      standAt apos.atName
      let (f, first) ← holding [ov] (getMethod ov m pl)
      callWith pos f first (backTo pos (starEach [] C.X.env)) (backToKw pos (keywordEach [] C.X.env))) := by rfl) : DE C Ξ ρ (.Call (.Attribute (.Name x px) m apos) [] [] pos) P := fun σ H E Q q1 z => by
  obtain ⟨f, fd, hm, hb, FF⟩ := G.ex
  obtain ⟨hσ, _, _, dx, fv, g1, g2⟩ := E.obj_of hsl
  refine ⟨_, pe_methN0 (pe_var hN hv hdb hcd) hc hm FF ((C.room' hcalm).mono hk) hb (fun σ => L2N.passAt C.tk σ) ht, _, hσ, q, dx, fv, rfl, g1, fd_no g2 hno, ?_⟩
  obtain ⟨_, _, _, ho⟩ := E.thg_of2 hsl
  exact rd_core (Gr.refl _ _) E ho (by rw [he]; exact .nil) hd (fun d v H' e g' r' => q1 d v H' (h1 d e) g' r') (fun c H' e g' => z c H' (h2 c e) g')
end
/-! ## making -/
structure Ini (P : Program) (w : World) (K : PySem.W.Frag) (mg : Str → Option Value) (base : Heap) (cl : Addr) (ps : List Str) (k : Nat) (sp : Sp) : Prop where
  ex : ∃ (f : Addr) (fd : FuncData), Mk K cl f ∧ Binds K fd ps [] ∧ FnOk P w K mg base (L2N.CX P w) k f fd ps sp
section
variable {α : Type} {enc : α → List PyData} {C : Ct} {Ξ : Addr → Prop} {ρ : Rho} {e : Expr} {es : List Expr} {pos p : Pos} {cl : Addr} {Dom : α → Prop} {R : α → OutM → Prop} {x : Str} {ps : List Str} {k : Nat} {P : PyData → Prop}
theorem new_same {H1 H2 : Hp} {q dx : Addr} {o o' : HO} (hx : H1 q = none) (hdx : H1 dx = none) (g : Gr (fun _ => false) (rem q (upd (upd H1 dx o) q o')) H2) : Same H1 H2 := fun a u e => g.same a u (rem_of (ne_of_none e hx) (by rw [upd_ne (ne_of_none e hx), upd_ne (ne_of_none e hdx)]; exact e))
theorem mk_core {q dx : Addr} {y : α} {σ : L2.St} {H1 : Hp} {us : List V} (E : Env C ρ σ H1) (ha : AtAll (vis C ρ H1) us (enc y)) (hd : Dom y) (hx : H1 q = none) (hdx : H1 dx = none) (hR : ∀ d fs', R y (.rt d fs') → d = .none) {Q : VK} {Z : XK}
    (q1 : ∀ fs' H2, R y (.rt .none fs') → Same H1 H2 → ObjAt cl fs' (hid (fun a => inn C ρ a || (a == q)) H2) H2 q → Q .non H2) (q2 : ∀ c fs' H2, R y (.ex c fs') → Same H1 H2 → Z (.ref c) none H2) :
    spM cl noX enc (fun _ => []) Dom R (.ref q :: us) (upd (upd H1 dx (.own q)) q (.ins cl dx [])) Q Z := by
  have up : ∀ a o, H1 a = some o → upd (upd H1 dx (.own q)) q (.ins cl dx []) a = some o := fun a o e => by rw [upd_ne (ne_of_none e hx), upd_ne (ne_of_none e hdx)]; exact e
  refine ⟨fun a => inn C ρ a || (a == q), fun _ => false, q, y, [], us, rfl, ⟨rfl, rfl⟩, ⟨by show (_ || (q == q)) = true; simp, fun a h => ?_, fun a h => (by cases h), rfl, fun a h => (by cases h)⟩, ⟨_, upd_same, dx, [], rfl, .nil⟩, ha.up (hid_mono fun a o e1 e2 => ⟨?_, up a o e2⟩), hd, fun d fs' v H' r g ho rv => ?_, fun c fs' H' r g ho => q2 c fs' H' r (new_same hx hdx g)⟩
  · by_cases z : a = q
    · rw [z, upd_same]; simp
    · have h : (inn C ρ a || (a == q)) = true := h
      rw [beq_eq_false_iff_ne.mpr z, Bool.or_false] at h
      cases w : H1 a with
      | none => exact absurd w (E.out a h)
      | some o => rw [up a o w]; simp
  · show (inn C ρ a || (a == q)) = false
    rw [e1, beq_eq_false_iff_ne.mpr (ne_of_none e2 hx)]
    rfl
  · have e := hR d fs' r
    subst e
    cases rv
    exact q1 fs' H' r (new_same hx hdx g) ho
/-- what the context wishes of exceptions asks no slots -/
def WFlat (C : Ct) : Prop := ∀ cls d σ σ' H, C.W cls d σ H → C.W cls d σ' H
theorem passes_flat (hW : WFlat C) : Passes (L2N.CX C.X.prog C.X.w) C.X (fun cls d H => C.W cls d [] H) := L2N.passes_call C.tk fun cls d σ H h => hW cls d [] σ H h
/-- C(e, ..) that raises -/
theorem de_makeX (y : α) (G : Ini C.X.prog C.X.w C.X.K C.X.mg C.X.base cl ps k (spM cl noX enc (fun _ => []) Dom R)) (hW : WFlat C) (hg : Gl C.X x) (hm : C.X.mg x = some (.ref cl)) (ha : DAd C Ξ ρ (e :: es) (enc y)) (hd : Dom y) (hR : ∀ d fs', ¬ R y (.rt d fs')) (h2 : ∀ c fs', R y (.ex c fs') → Ξ c)
    (hk : k + 1 ≤ C.lv := by exact Nat.le_of_ble_eq_true rfl) (hcalm : C.X.calm = true := by rfl) (hdb : (x == ("__debug__" : Str)) = false := by decide) (he : starEach (e :: es) C.X.env = (false, eval e C.X.env) :: starEach es C.X.env := by rfl) (hpl : (backTo pos (starEach es C.X.env)).any (·.1) = false := by rfl) :
    DE C Ξ ρ (.Call (.Name x p) (e :: es) [] pos) P := fun σ H E Q q1 z => by
  obtain ⟨f, fd, M, hb, FF⟩ := G.ex
  refine ⟨_, pe_make M FF ((C.room' hcalm).mono hk) hg hm hb .nil (passes_flat hW) pA hdb he hpl, ha σ H E _ (fun l vs H1 pl gg r a dx ha hdx ne => ?_) z⟩
  subst pl
  rw [List.append_nil]
  exact mk_core (E.grow gg) r.ats hd ha hdx (fun d fs' h => (hR d fs' h).elim) (fun fs' H2 h => (hR _ fs' h).elim) (fun c fs' H2 h s => hW _ _ σ _ _ (z c H2 (h2 c fs' h) (gg.trans (Gr.of s))))
variable {α' : Type} {enc' : α' → List PyData} {fs : α' → Fds} {Dom' : α' → Prop} {g : α' → Out} {m : Str} {ps' : List Str} {k' : Nat} {e' : Expr} {es' : List Expr} {apos pos' : Pos}
theorem newmeth_core {σ : L2.St} {H : Hp} (E : Env C ρ σ H) (y : α) (y' : α') (ha : DAd C Ξ ρ (e :: es) (enc y)) (hd : Dom y) (hR : ∀ d fs', R y (.rt d fs') → d = .none ∧ fs' = fs y') (hX : ∀ c fs', R y (.ex c fs') → Ξ c) (hW : WFlat C) {Q : VK} {t t2 : TA}
    (q : ∀ q H2, Env C ρ σ H2 → Gr C.U H H2 → C.U q = false → ObjAt cl (fs y') (vis C ρ H2) H2 q → Q (.ref q) H2) (z : ∀ c H2, Ξ c → Gr C.U H H2 → C.W (.ref c) none σ H2)
    (ht : ∀ Q' : List V → Hp → Prop, (∀ vs H2, Gr C.U H H2 → AtAll (vis C ρ H2) vs (enc y) → Q' vs H2) → t σ H Q') : tMake cl (spM cl noX enc (fun _ => []) Dom R) [] (fun cls d H => C.W cls d [] H) t σ H Q := by
  refine ht _ fun vs H1 gg r a dx hx hdx ne => ?_
  rw [List.append_nil]
  have E1 := E.grow gg
  refine mk_core E1 r hd hx hdx (fun d fs' h => (hR d fs' h).1) (fun fs' H2 h s ho => ⟨rfl, ?_⟩) (fun c fs' H2 h s => hW _ _ σ _ _ (z c H2 (hX c fs' h) (gg.trans (Gr.of s))))
  rw [(hR _ _ h).2] at ho
  obtain ⟨u, h1, h2⟩ := ho
  refine q a H2 (E1.grow (Gr.of s)) (gg.trans (Gr.of s)) ?_ ⟨u, h1, (objT cl (fs y')).up (hid_mono fun b o e1 e2 => ⟨?_, e2⟩) h2⟩
  · cases w : C.U a with
    | false => rfl
    | true => obtain ⟨kk, hk⟩ := E1.cell a w; exact absurd hx hk.there
  · rw [Bool.or_eq_false_iff] at e1; exact e1.1
theorem ObjAt.grow {σ : L2.St} {q : Addr} {fs : Fds} {H H2 : Hp} (hU : C.U q = false) (g : Gr C.U H H2) (h : ObjAt cl fs (vis C ρ H) H q) : ObjAt cl fs (vis C ρ H2) H2 q := by
  obtain ⟨u, h1, h2⟩ := h
  exact ⟨u, g.keep _ _ hU h1, (objT cl fs).up (vis_gr g) h2⟩
/-- C(e, ..).m(e', ..), m only reads it -/
theorem de_newR (y : α) (y' : α') (G : Ini C.X.prog C.X.w C.X.K C.X.mg C.X.base cl ps k (spM cl noX enc (fun _ => []) Dom R)) (G' : Mt C.X.prog C.X.w C.X.K C.X.mg C.X.base cl m ps' k' (spR cl enc' fs Dom' g)) (hW : WFlat C) (hg : Gl C.X x) (hm : C.X.mg x = some (.ref cl)) (hc : Cls C.X.K cl) (ha : DAd C Ξ ρ (e :: es) (enc y)) (hd : Dom y)
    (hR : ∀ d fs', R y (.rt d fs') → d = .none ∧ fs' = fs y') (hX : ∀ c fs', R y (.ex c fs') → Ξ c) (hno : (fs y').lookup m = none) (ha' : DAd C Ξ ρ (e' :: es') (enc' y')) (hd' : Dom' y') (h1 : ∀ d, g y' = .rt d → P d) (h2 : ∀ c, g y' = .ex c → Ξ c)
    (hk : k + 1 ≤ C.lv := by exact Nat.le_of_ble_eq_true rfl) (hk' : k' ≤ C.lv := by exact Nat.le_of_ble_eq_true rfl) (hcalm : C.X.calm = true := by rfl) (hdb : (x == ("__debug__" : Str)) = false := by decide) (he : starEach (e :: es) C.X.env = (false, eval e C.X.env) :: starEach es C.X.env := by rfl) (hpl : (backTo pos (starEach es C.X.env)).any (·.1) = false := by rfl)
    (hst : starEach (e' :: es') C.X.env = (false, eval e' C.X.env) :: starEach es' C.X.env := by rfl) (hpl' : (backTo pos' (starEach es' C.X.env)).any (·.1) = false := by rfl) {pl : Sem Bool}
    (ht : eval (.Call (.Attribute (.Call (.Name x p) (e :: es) [] pos) m apos) (e' :: es') [] pos') C.X.env = (do
      let ov ← eval (.Call (.Name x p) (e :: es) [] pos) C.X.env
      standAt apos.atName
      let (f, first) ← holding [ov] (getMethod ov m pl)
      callWith pos' f first (backTo pos' (starEach (e' :: es') C.X.env)) (backToKw pos' (keywordEach [] C.X.env))) := by rfl) :
    DE C Ξ ρ (.Call (.Attribute (.Call (.Name x p) (e :: es) [] pos) m apos) (e' :: es') [] pos') P := fun σ H E Q q1 z => by
  obtain ⟨f, fd, M, hb, FF⟩ := G.ex
  obtain ⟨f', fd', hm', hb', FF'⟩ := G'.ex
  refine ⟨_, pe_methN (pe_make M FF ((C.room' hcalm).mono hk) hg hm hb .nil (passes_flat hW) pA hdb he hpl) hc hm' FF' ((C.room' hcalm).mono hk') hb' (fun σ => L2N.passAt C.tk σ) pA hst hpl' ht, ?_⟩
  refine newmeth_core (fs := fs) (t2 := tNil) E y y' ha hd hR hX hW (fun q H2 E2 g2 hU ho => ?_) z fun Q' hq => ha σ H E Q' (fun l vs H2 pl gg r => by subst pl; exact hq vs H2 gg r.ats) z
  obtain ⟨u, e1, dx, fv, rfl, e2⟩ := id ho
  refine ⟨q, dx, fv, rfl, e1, fd_no e2 hno, ha' σ H2 E2 _ (fun l vs H3 pl gg r => ?_) fun c H3 f g => z c H3 f (g2.trans g)⟩
  subst pl
  exact rd_core (g2.trans gg) (E2.grow gg) (ho.grow (σ := σ) hU gg) r.ats hd' (fun d v H' e g' r' => q1 d v H' (h1 d e) g' r') (fun c H' e g' => z c H' (h2 c e) g')
theorem de_newR0 (y : α) (y' : α') (G : Ini C.X.prog C.X.w C.X.K C.X.mg C.X.base cl ps k (spM cl noX enc (fun _ => []) Dom R)) (G' : Mt C.X.prog C.X.w C.X.K C.X.mg C.X.base cl m ps' k' (spR cl enc' fs Dom' g)) (hW : WFlat C) (hg : Gl C.X x) (hm : C.X.mg x = some (.ref cl)) (hc : Cls C.X.K cl) (ha : DAd C Ξ ρ (e :: es) (enc y)) (hd : Dom y)
    (hR : ∀ d fs', R y (.rt d fs') → d = .none ∧ fs' = fs y') (hX : ∀ c fs', R y (.ex c fs') → Ξ c) (hno : (fs y').lookup m = none) (he' : enc' y' = []) (hd' : Dom' y') (h1 : ∀ d, g y' = .rt d → P d) (h2 : ∀ c, g y' = .ex c → Ξ c)
    (hk : k + 1 ≤ C.lv := by exact Nat.le_of_ble_eq_true rfl) (hk' : k' ≤ C.lv := by exact Nat.le_of_ble_eq_true rfl) (hcalm : C.X.calm = true := by rfl) (hdb : (x == ("__debug__" : Str)) = false := by decide) (he : starEach (e :: es) C.X.env = (false, eval e C.X.env) :: starEach es C.X.env := by rfl) (hpl : (backTo pos (starEach es C.X.env)).any (·.1) = false := by rfl) {pl : Sem Bool}
    (ht : eval (.Call (.Attribute (.Call (.Name x p) (e :: es) [] pos) m apos) [] [] pos') C.X.env = (do
      let ov ← eval (.Call (.Name x p) (e :: es) [] pos) C.X.env
      standAt apos.atName
      let (f, first) ← holding [ov] (getMethod ov m pl)
      callWith pos' f first (backTo pos' (starEach [] C.X.env)) (backToKw pos' (keywordEach [] C.X.env))) := by rfl) :
    DE C Ξ ρ (.Call (.Attribute (.Call (.Name x p) (e :: es) [] pos) m apos) [] [] pos') P := fun σ H E Q q1 z => by
  obtain ⟨f, fd, M, hb, FF⟩ := G.ex
  obtain ⟨f', fd', hm', hb', FF'⟩ := G'.ex
  refine ⟨_, pe_methN0 (pe_make M FF ((C.room' hcalm).mono hk) hg hm hb .nil (passes_flat hW) pA hdb he hpl) hc hm' FF' ((C.room' hcalm).mono hk') hb' (fun σ => L2N.passAt C.tk σ) ht, ?_⟩
  refine newmeth_core (fs := fs) (t2 := tNil) E y y' ha hd hR hX hW (fun q H2 E2 g2 hU ho => ?_) z fun Q' hq => ha σ H E Q' (fun l vs H2 pl gg r => by subst pl; exact hq vs H2 gg r.ats) z
  obtain ⟨u, e1, dx, fv, rfl, e2⟩ := id ho
  refine ⟨q, dx, fv, rfl, e1, fd_no e2 hno, ?_⟩
  exact rd_core g2 E2 ho (by rw [he']; exact .nil) hd' (fun d v H' e g' r' => q1 d v H' (h1 d e) g' r') (fun c H' e g' => z c H' (h2 c e) g')
end
end DD

namespace DD
variable [Nu]
open PySem PySem.Spec PyProof.Rows L2 L2H HotX LamX
/-! ## lambdas under owned slots, tables of two names -/
/-- what stood before, without what slots own -/
def unown (ρ : Rho) (H : Hp) : Hp := fun a => if owns ρ a = true then none else H a
theorem unown_at {ρ : Rho} {H : Hp} {a : Addr} {o : HO} (h : unown ρ H a = some o) : owns ρ a = false ∧ H a = some o := by
  unfold unown at h
  split at h
  · cases h
  · rename_i z; exact ⟨by cases e : owns ρ a; rfl; exact absurd e z, h⟩
theorem unown_of {ρ : Rho} {H : Hp} {a : Addr} {o : HO} (n : owns ρ a = false) (h : H a = some o) : unown ρ H a = some o := by
  unfold unown
  rw [if_neg (by rw [n]; decide)]
  exact h
theorem unown_no {ρ : Rho} {H : Hp} {a : Addr} (n : owns ρ a = true) : unown ρ H a = none := by unfold unown; rw [if_pos n]
def lamCo (C : Ct) (ρ : Rho) (A : Around) (outer : List PySem.Env) (s : Shared) (H : Hp) (E : XK) (scope : Scope) (f c' : Addr) (k : Nat) (hr : Room k (A.deeper (lamEnv C.X scope s.heap.objs.size f c'))) : Ct where
  X := lamN C.X A outer s H E scope f c'
  W := fun cls d _ H => E cls d H
  tk := L2N.takes_of rfl rfl rfl rfl
  O := C.O
  U := C.U
  le := C.le
  base := unown ρ H
  lv := k
  room := roomH_of hr
  hd := fun _ => hr.hd
theorem gr_laido {U : Addr → Bool} {H H' : Hp} {Pt : Addr} {Qn : Str} (hU : U Pt = true) (hν : Nu.nu Pt = Qn) (hP : TabS H Pt Qn) (l : Laid Pt Qn H H') : Gr U H H' := by
  refine ⟨fun b o hb e => l.keep b o (fun z => by rw [z, hU] at hb; cases hb) e, fun b k hb h => ?_⟩
  obtain ⟨ps0, p0, _⟩ := hP
  by_cases z : b = Pt
  · subst z
    cases k with
    | none => obtain ⟨x, y, h⟩ := h; rw [p0] at h; cases h
    | some q => obtain ⟨e, _⟩ := h; exact ⟨e, by rw [e, hν]; exact l.tab⟩
  · cases k with
    | none => obtain ⟨x, y, h⟩ := h; exact ⟨x, y, l.keep _ _ z h⟩
    | some q =>
      obtain ⟨e, ps, h1, h2, h3⟩ := h
      refine ⟨e, ps, l.keep _ _ z h1, h2, fun pos cv hc => ?_⟩
      obtain ⟨c, e1, e2⟩ := h3 pos cv hc
      exact ⟨c, e1, l.keep _ _ (fun y => by rw [y, p0] at e2; unfold CodeO at e2; cases e2) e2⟩
theorem Env.ex_of {C : Ct} {ρ : Rho} {σ : L2.St} {H : Hp} {a : Addr} (E : Env C ρ σ H) (h : owns ρ a = true) : C.O a = false ∧ C.base a = none := by
  obtain ⟨j, hj⟩ := owns_iff.mp h
  have s := E.slot j
  cases h : gt ρ j with
  | no => rw [h] at hj; cases hj
  | dat _ => rw [h] at hj; cases hj
  | raw _ => rw [h] at hj; cases hj
  | own p ds => rw [h] at hj s; injection hj with hj; subst hj; exact ⟨s.2.1, s.2.2.1⟩
  | dic p ds => rw [h] at hj s; injection hj with hj; subst hj; exact ⟨s.2.1, s.2.2.1⟩
  | thg p ds => rw [h] at hj s; injection hj with hj; subst hj; exact ⟨s.2.1, s.2.2.1⟩
theorem env_lamo {C : Ct} {ρ : Rho} {σ : L2.St} {H : Hp} {A : Around} {outer : List PySem.Env} {s : Shared} {E : XK} {scope : Scope} {f c' : Addr} {k : Nat} {hr : Room k (A.deeper (lamEnv C.X scope s.heap.objs.size f c'))} (Ev : Env C ρ σ H) : Env (lamCo C ρ A outer s H E scope f c' k hr) ρ σ H := by
  have le : Same (unown ρ H) H := fun a o e => (unown_at e).2
  refine ⟨Ev.len, fun i => ?_, Ev.cell, Ev.alloc, Gr.of le, Ev.dis⟩
  have q := Ev.slot i
  cases h : gt ρ i with
  | no => trivial
  | dat d => rw [h] at q; exact q
  | raw v => rw [h] at q; exact q
  | own p ds => rw [h] at q; exact ⟨q.1, q.2.1, unown_no (owns_iff.mpr ⟨i, by rw [h]; rfl⟩), q.2.2.2⟩
  | dic p ds => rw [h] at q; exact ⟨q.1, q.2.1, unown_no (owns_iff.mpr ⟨i, by rw [h]; rfl⟩), q.2.2.2⟩
  | thg p th => rw [h] at q; exact ⟨q.1, q.2.1, unown_no (owns_iff.mpr ⟨i, by rw [h]; rfl⟩), q.2.2.2⟩
/-- back from the lambda: the same places are owned, none of them a code object -/
theorem env_unlamo {C : Ct} {ρ ρ' : Rho} {σ : L2.St} {H H2 : Hp} {A : Around} {outer : List PySem.Env} {s : Shared} {E : XK} {scope : Scope} {f c' : Addr} {k : Nat} {hr : Room k (A.deeper (lamEnv C.X scope s.heap.objs.size f c'))} (Ev : Env C ρ σ H) (hx : ∀ a, owns ρ a = true → ∀ φ, H a ≠ some (.ext φ)) (ho : ∀ a, owns ρ' a = owns ρ a) (E2 : Env (lamCo C ρ A outer s H E scope f c' k hr) ρ' σ H2) : Env C ρ' σ H2 := by
  have nb : ∀ a o, C.base a = some o → owns ρ a = false := fun a o e => by
    cases q : owns ρ a with
    | false => rfl
    | true => rw [(Ev.ex_of q).2] at e; cases e
  refine ⟨E2.len, fun i => ?_, E2.cell, E2.alloc, ⟨fun a o hu e => ?_, fun a kk hu h => ?_⟩, E2.dis⟩
  · have q := E2.slot i
    have bn : ∀ p, (gt ρ' i).addr = some p → C.base p = none := fun p hp => (Ev.ex_of (by rw [← ho]; exact owns_iff.mpr ⟨i, hp⟩)).2
    cases h : gt ρ' i with
    | no => trivial
    | dat d => rw [h] at q; exact q
    | raw v => rw [h] at q; exact q
    | own p ds => rw [h] at q; exact ⟨q.1, q.2.1, bn p (by rw [h]; rfl), q.2.2.2⟩
    | dic p ds => rw [h] at q; exact ⟨q.1, q.2.1, bn p (by rw [h]; rfl), q.2.2.2⟩
    | thg p th => rw [h] at q; exact ⟨q.1, q.2.1, bn p (by rw [h]; rfl), q.2.2.2⟩
  · exact E2.gr.keep a o hu (unown_of (nb a o e) (Ev.gr.keep a o hu e))
  · have h1 := Ev.gr.cell a kk hu h
    have na : owns ρ a = false := by
      cases q : owns ρ a with
      | false => rfl
      | true => rw [O_U (Ev.ex_of q).1] at hu; cases hu
    refine E2.gr.cell a kk hu ?_
    cases kk with
    | none => obtain ⟨x, y, h⟩ := h1; exact ⟨x, y, unown_of na h⟩
    | some q =>
      obtain ⟨e, ps, t1, t2, t3⟩ := h1
      refine ⟨e, ps, unown_of na t1, t2, fun pos cv hc => ?_⟩
      obtain ⟨c, e1, e2⟩ := t3 pos cv hc
      exact ⟨c, e1, unown_of (by cases w : owns ρ c with | false => rfl | true => unfold CodeO at e2; exact absurd e2 (hx c w _)) e2⟩
/-- what a context gives to its lambdas -/
structure LawOk (C : Ct) (sc : Scope) (k : Nat) (Qn : Str) : Prop where
  ex : ∃ c Pt : Addr, C.X.env.code = .ref c ∧ TabB C.X.base C.X.mg c Pt ∧ C.U Pt = true ∧ Cell (some Qn) C.base Pt
  hr : Room (k + 2) C.X.A
  hq : C.X.env.qual ++ "<lambda>" = Qn
  hs : C.X.env.scope = sc
theorem new_vis {C : Ct} {ρ : Rho} {σ : L2.St} {H H' : Hp} {v : V} {x : Str} (E : Env C ρ σ H) (ss : Same H H') (h : NewAt H H' v (errD x)) : At (vis C ρ H') v (errD x) := by
  obtain ⟨h, a, rfl, hn⟩ := h
  obtain ⟨a', xs, e, h1, h2⟩ := h.ref_tup
  injection e with e
  subst e
  have nD : owns ρ a = false := by
    cases e : owns ρ a with
    | false => rfl
    | true => exact absurd hn (E.own_at e)
  refine .tup ((hid_at (by unfold inn; rw [E.new hn, nD]; rfl)).trans h1) ?_
  obtain ⟨v1, v2, rfl, r1, r2⟩ := h2.two
  rw [r1.str_inv, r2.str_inv]
  exact .cons (.str _) (.cons (.str _) .nil)
end DD

namespace DD
variable [Nu]
open PySem L2
/-! ## defs that get an instance and touch what is volatile -/
theorem fn_Mc {α : Type} {cl : Addr} {X : List V → (Addr → Bool) → Hp → Prop} {enc : α → List PyData} {fs : α → Fds} {Dom : α → Prop} {R : α → OutM → Prop} {P : Program} {w : World} {K : PySem.W.Frag} {mg : Str → Option Value} {base : Heap} {x qual : Str} {st : Stmt} {f : Addr} {dV kV doc pm' cdv ct oc : Value} {an od : Option Addr} {osl : Array (Option Value)} {N ps : List Str} {k np : Nat}
    (lk : K.lookup f = some ⟨oc, od, .func (PySem.W.fnOf x qual (defArgs st) (defBody st) (defScope st) dV kV doc pm' an cdv ct), osl⟩) (hcd : PySem.W.codeIn K cdv qual = true) (S : FnScope N ps (defScope st)) (hpre : ∀ pre U H, X pre U H → pre.length = np) (hn : ∀ y, np + 1 + (enc y).length = ps.length) (hN : ps.length ≤ N.length)
    (body : ∀ A outer s H E hr O U p (h : Pass O U H p) y pre, Dom y → X pre U H → ObjAt cl (fs y) (hid O H) H p → WSs (mC P w K mg base N qual (defScope st) f cdv A outer s H E k hr O U p h) (outM np p cl (R y)) (pre.map SV.raw ++ .thg p (objT cl (fs y)) :: rho (N.length - np - 1) (enc y)) (defBody st)) : FnOk P w K mg base (L2N.CX P w) (k + 1) f (PySem.W.fnOf x qual (defArgs st) (defBody st) (defScope st) dV kV doc pm' an cdv ct) ps (spM cl X enc fs Dom R) := by
  refine fn_of (CX := L2N.CX P w) lk hcd S (fun vs H Q E h => ?_) (fun A outer s H vs Q E hr h => ?_)
  · obtain ⟨O, U, p, y, pre, us, rfl, hX, _, _, ha, _⟩ := h
    rw [List.length_append, List.length_cons, ha.len, hpre _ _ _ hX, ← hn y]
    omega
  · obtain ⟨O, U, p, y, pre, us, rfl, hX, hp, ho, ha, hd, h1, h2⟩ := h
    have hpl := hpre _ _ _ hX
    have b := body A outer s H E hr O U p hp y pre hd hX ho
    rw [← hpl] at b
    have hny := hn y
    obtain ⟨C, eC⟩ : ∃ C, C = mC P w K mg base N qual (defScope st) f cdv A outer s H E k hr O U p hp := ⟨_, rfl⟩
    have fin : ∀ {ρ' : Rho} {σ' : L2.St} {H' : Hp} {fs' : Fds}, gt ρ' pre.length = .thg p (objT cl fs') → Env (mC P w K mg base N qual (defScope st) f cdv A outer s H E k hr O U p hp) ρ' σ' H' → Gr U (rem p H) H' ∧ ObjAt cl fs' (hid O H') H' p ∧ Same (vis (mC P w K mg base N qual (defScope st) f cdv A outer s H E k hr O U p hp) ρ' H') (hid O H') := fun {ρ' σ' H' fs'} hg E' => by
      have sm : Same (vis (mC P w K mg base N qual (defScope st) f cdv A outer s H E k hr O U p hp) ρ' H') (hid O H') := hid_mono fun a o e1 e2 => by
        unfold inn at e1
        rw [Bool.or_eq_false_iff] at e1
        have ne : a ≠ p := fun z => by
          have : owns ρ' a = true := owns_iff.mpr ⟨pre.length, by rw [hg, z]; rfl⟩
          rw [this] at e1
          cases e1.2
        refine ⟨?_, e2⟩
        have e3 : (O a && !(a == p)) = false := e1.1
        rw [beq_eq_false_iff_ne.mpr ne] at e3
        simpa using e3
      obtain ⟨_, _, _, u, h3, h4⟩ := E'.thg_of2 hg
      exact ⟨E'.gr, ⟨u, h3, (objT cl fs').up sm h4⟩, sm⟩
    refine ⟨_, pSs, b _ _ H (env_M hp ho ha (by omega)) ⟨fun ρ' σ' H' ⟨fs', hg, hr⟩ E' => ?_, fun d ρ' σ' v H' ⟨fs', hg, hr⟩ E' r => ?_, fun c ρ' σ' H' ⟨fs', hg, hr⟩ E' => ?_⟩⟩
    · obtain ⟨g1, g2, _⟩ := fin hg E'
      exact h1 .none fs' .non H' hr g1 g2 .non
    · obtain ⟨g1, g2, g3⟩ := fin hg E'
      exact h1 d fs' v H' hr g1 g2 (r.up g3)
    · obtain ⟨g1, g2, _⟩ := fin hg E'
      exact h2 c fs' H' hr g1 g2

theorem gr_sub {U U' : Addr → Bool} {H H' : Hp} (sub : ∀ a, U' a = true → U a = true) (hc : ∀ a, U' a = true → ∃ k, Cell k H a) (g : Gr U' H H') : Gr U H H' := by
  have no : ∀ a, U a = false → U' a = false := fun a h => by cases q : U' a with | false => rfl | true => rw [sub a q] at h; cases h
  have nx : ∀ c φ, H c = some (.ext φ) → U' c = false := fun c φ h => by
    cases q : U' c with
    | false => rfl
    | true =>
      obtain ⟨k, hk⟩ := hc c q
      cases k with
      | none => obtain ⟨x, y, hk⟩ := hk; rw [h] at hk; cases hk
      | some q => obtain ⟨_, ps, hk, _⟩ := hk; rw [h] at hk; cases hk
  refine ⟨fun a o hu e => g.keep a o (no a hu) e, fun a k hu h => ?_⟩
  cases q : U' a with
  | true => exact g.cell a k q h
  | false =>
    cases k with
    | none => obtain ⟨x, y, h⟩ := h; exact ⟨x, y, g.keep a _ q h⟩
    | some n =>
      obtain ⟨e, ps, h1, h2, h3⟩ := h
      refine ⟨e, ps, g.keep a _ q h1, h2, fun pos cv hc' => ?_⟩
      obtain ⟨c, e1, e2⟩ := h3 pos cv hc'
      exact ⟨c, e1, g.keep c _ (nx c _ (by unfold LamX.CodeO at e2; exact e2)) e2⟩
section
variable {α : Type} {enc : α → List PyData} {fs : α → Fds} {C : Ct} {F : OutW → Prop} {ρ : Rho} {e : Expr} {es : List Expr} {pos p pw : Pos} {cl : Addr} {Dom : α → Prop} {R : α → OutM → Prop} {x wn : Str} {ps : List Str} {k : Nat} {X : List V → (Addr → Bool) → Hp → Prop}
theorem ew_coreU {i : Nat} {q : Addr} {y : α} {σ : L2.St} {H : Hp} {us : List V} {U' : Addr → Bool} (pre : List V) (hsl : gt ρ i = .thg q (objT cl (fs y))) (hX : X pre U' H) (sub : ∀ a, U' a = true → C.U a = true) (hd : Dom y) (E : Env C ρ σ H) (ha : AtAll (vis C ρ H) us (enc y)) {Q : VK} {Z : XK} (q1 : ∀ d fs' v H2, R y (.rt d fs') → Env C (ρ.set i (.thg q (objT cl fs'))) σ H2 → Same (vis C ρ H) (vis C (ρ.set i (.thg q (objT cl fs'))) H2) → At (vis C (ρ.set i (.thg q (objT cl fs'))) H2) v d → Q v H2) (q2 : ∀ c fs' H2, R y (.ex c fs') → Env C (ρ.set i (.thg q (objT cl fs'))) σ H2 → Z (.ref c) none H2) :
    spM cl X enc fs Dom R (pre ++ .ref q :: us) H Q Z := by
  obtain ⟨hσ, o1, o2, u, h1, h2⟩ := E.thg_of2 hsl
  have hx : ∀ φ, H q ≠ some (.ext φ) := fun φ z => by obtain ⟨dx, fv, e, _⟩ := h2; rw [h1, e] at z; cases z
  have hUq : U' q = false := by cases w : U' q with | false => rfl | true => have := sub q w; rw [O_U o1] at this; cases this
  have oq : owns ρ q = true := owns_iff.mpr ⟨i, by rw [hsl]; rfl⟩
  have cl' : ∀ a, U' a = true → ∃ k, Cell k (rem q H) a := fun a h => by
    obtain ⟨k, hk⟩ := E.cell a (sub a h)
    exact ⟨k, hk.rem (fun z => by rw [z, hUq] at h; cases h) hx⟩
  have sm : ∀ {H'}, Gr U' (rem q H) H' → Same (vis C ρ H) (vis C ρ H') := fun {H'} g => hid_mono fun a o e1 e2 => by
    refine ⟨e1, g.keep a o ?_ (rem_of (fun z => by unfold inn at e1; rw [z, oq, Bool.or_true] at e1; cases e1) e2)⟩
    cases w : U' a with
    | false => rfl
    | true => have := sub a w; rw [inn_U e1] at this; cases this
  refine ⟨inn C ρ, U', q, y, pre, us, rfl, hX, ⟨?_, E.out, fun a h => ?_, hUq, fun a h => E.cell a (sub a h)⟩, ⟨u, h1, h2⟩, ha, hd, fun d fs' v H' r g ho rv => ?_, fun c fs' H' r g ho => ?_⟩
  · unfold inn
    rw [oq, Bool.or_true]
  · unfold inn
    rw [C.le a (sub a h)]
    rfl
  · obtain ⟨E2, ev⟩ := E.swap (t' := objT cl fs') hsl hx (gr_sub sub cl' g) ho
    exact q1 d fs' v H' r E2 (by rw [ev]; exact sm g) (by rw [ev]; exact rv)
  · obtain ⟨E2, ev⟩ := E.swap (t' := objT cl fs') hsl hx (gr_sub sub cl' g) ho
    exact q2 c fs' H' r E2
/-- x(w, e, ..), w the instance of a slot -/
theorem ew_fun (i : Nat) {q : Addr} {U' : Addr → Bool} (y : α) (hsl : gt ρ i = .thg q (objT cl (fs y))) (G : Fc C.X.prog C.X.w C.X.K C.X.mg C.X.base x ps k (spM cl X enc fs Dom R)) (hg : Gl C.X x) (hN : C.X.N[i]? = some wn) (hv : Vis C.X.env.scope wn) (hX : ∀ σ H, Env C ρ σ H → X [] U' H) (sub : ∀ a, U' a = true → C.U a = true) (ha : DAd C none' ρ es (enc y)) (hd : Dom y)
    (h1 : ∀ d fs', R y (.rt d fs') → F (.rt d (ρ.set i (.thg q (objT cl fs'))))) (h2 : ∀ c fs', R y (.ex c fs') → F (.ex c (ρ.set i (.thg q (objT cl fs')))))
    (hk : k ≤ C.lv := by exact Nat.le_of_ble_eq_true rfl) (hcalm : C.X.calm = true := by rfl) (hxd : (x == ("__debug__" : Str)) = false := by decide) (hdb : (wn == ("__debug__" : Str)) = false := by decide) (hcd : (wn == ("__classdict__" : Str)) = false := by decide) (he : starEach (.Name wn pw :: es) C.X.env = (false, eval (.Name wn pw) C.X.env) :: starEach es C.X.env := by rfl) (hpl : (backTo pos (starEach es C.X.env)).any (·.1) = false := by rfl) :
    EW C F ρ (.Call (.Name x p) (.Name wn pw :: es) [] pos) := fun σ H E Q q1 z => by
  obtain ⟨f, fd, hm, kp, hb, FF⟩ := G.ex
  obtain ⟨hσ, _, _, _⟩ := E.thg_of2 hsl
  refine ⟨_, pe_callS FF ((C.room' hcalm).mono hk) hg hm kp hb (fun σ => L2N.passAt C.tk σ) (pa_cons (pe_var hN hv hdb hcd) pA he) hxd he hpl, _, hσ, ha σ H E _ (fun l vs H2 pl g r => ?_) (fun _ _ f _ => f.elim)⟩
  subst pl
  exact ew_coreU [] hsl (hX σ H2 (E.grow g)) sub hd (E.grow g) r.ats (fun d fs' v H' rr E2 _ rv => q1 d _ v H' (h1 d fs' rr) E2 rv) (fun c fs' H' rr E2 => z c _ H' (h2 c fs' rr) E2)
/-- a, b, c = e, e', e'' -/
theorem ws_par3 (i j l : Nat) {x y z : Str} {a b c : Expr} {P3 : PyData → PyData → PyData → Prop} {px py pz pt pt2 : Pos} {kt k2 : Nat} (ha : DA C (xiW F ρ) ρ [a, b, c] (AllD fun l => ∃ d d' d'', l = [d, d', d''] ∧ P3 d d' d'')) (kk : ∀ d d' d'', P3 d d' d'' → F (.nx (((ρ.set i (.dat d)).set j (.dat d')).set l (.dat d'')))) (hN : C.X.N.Nodup) (hi : C.X.N[i]? = some x) (hj : C.X.N[j]? = some y) (hl : C.X.N[l]? = some z) (hij : i ≠ j) (hil : i ≠ l) (hjl : j ≠ l)
    (hx : C.X.env.scope.names.lookup x = some .local) (hy : C.X.env.scope.names.lookup y = some .local) (hz : C.X.env.scope.names.lookup z = some .local) (hw : swappedStores [.Tuple [.Name x px, .Name y py, .Name z pz] kt pt] (.Tuple [a, b, c] k2 pt2) C.X.env = pure (some [x, y, z]))
    (hc : C.X.calm = true := by rfl) (hs : swapsWithSole [.Tuple [.Name x px, .Name y py, .Name z pz] kt pt] (.Tuple [a, b, c] k2 pt2) pos.line C.X.env = pure false := by rfl) :
    WS C F ρ (.Assign [.Tuple [.Name x px, .Name y py, .Name z pz] kt pt] (.Tuple [a, b, c] k2 pt2) pos) := fun D σ H E q =>
  ⟨_, ps_par3 hc hN hi hj hl hij hil hjl hx hy hz pA hw hs, ha σ H E _ (fun l vs H2 p g r => by
    obtain ⟨ds, rfl, d, d', d'', rfl, p3⟩ := p
    have r := r.ats
    cases r with
    | cons r1 r =>
    cases r with
    | cons r2 r =>
    cases r with
    | cons r3 r =>
    cases r
    obtain ⟨E2, s⟩ := (E.grow g).put (i := i) (sv := .dat d) (o := some _) rfl ⟨_, rfl, r1⟩
    obtain ⟨E3, s3⟩ := E2.put (i := j) (sv := .dat d') (o := some _) rfl ⟨_, rfl, r2.up s⟩
    obtain ⟨E4, s4⟩ := E3.put (i := l) (sv := .dat d'') (o := some _) rfl ⟨_, rfl, (r3.up s).up s3⟩
    exact ⟨_, _, _, rfl, q.nx _ _ _ (kk d d' d'' p3) E4⟩) (q.xs E)⟩
end
end DD

namespace DD
variable [Nu]
open PySem PySem.Spec PyProof.Rows L2
def rInT (K : PySem.W.Frag) : R2 := fun x y H Q => ∃ d ds, Dp K H x d ∧ Dp K H y (.tuple ds) ∧ SeqAt.shaped d = true ∧ SeqAt.shaped (.tuple ds) = true ∧ Q (.bl (ds.any fun z => PyData.eqv z d)) H
theorem room_inT {X : Cx} {d : PyData} {ds : List PyData} (h : SeqAt.shaped d = true) (hu : X.A.units + 65 < cLine) : X.A.units + 1 + min (PyData.depthAll ds) d.depth < cLine := by
  have : d.depth ≤ 64 := by
    unfold SeqAt.shaped at h
    rw [Bool.and_eq_true, decide_eq_true_iff] at h
    omega
  omega
theorem op_inT {X : Cx} (hu : X.A.units + 65 < cLine) : OpR X (compareOp .In) (rInT X.K) := by
  intro pins s σ H x y v u Q I rx ry h
  obtain ⟨d, ds, hd, he, sd, se, q⟩ := h
  obtain ⟨as, r1⟩ := Dp.reads I d x v hd rx
  obtain ⟨bs, r2⟩ := Dp.reads I (.tuple ds) y u he ry
  exact SeqAt.in_tuple_reads r2 r1 (SeqAt.canLay_of_shaped se) (SeqAt.canLay_of_shaped sd) (room_inT sd hu) ⟨.bl _, H, I, rfl, q⟩
theorem rb_inT {K : PySem.W.Frag} {x : PyData} {ds : List PyData} (hx : SeqAt.shaped x = true) (hy : SeqAt.shaped (.tuple ds) = true) : RB (rInT K) x (.tuple ds) (ds.any fun z => PyData.eqv z x) := fun _ _ _ H v u Q _ r1 r2 q => ⟨x, ds, Ct.dpv hx r1, Ct.dpv hy r2, hx, hy, q⟩
theorem dt_inT {C : Ct} {Ξ : Addr → Prop} {ρ : Rho} {a b : Expr} {pos : Pos} {x : PyData} {ds : List PyData} (hx : SeqAt.shaped x = true) (hy : SeqAt.shaped (.tuple ds) = true) (ha : DEd C Ξ ρ a x) (hb : DEd C Ξ ρ b (.tuple ds)) (hm : behindInMarks .In b = false := by rfl) : DTd C Ξ ρ (.Compare a [.In] [b] pos) (ds.any fun z => PyData.eqv z x) :=
  dt_cmp (op_inT (by have := C.un; omega)) hm ha hb (rb_inT hx hy)
end DD

namespace DD
variable [Nu]
open PySem PySem.Spec PyProof.Rows L2
/-! ## len of an instance -/
theorem call_lenI {X : Cx} {k : Nat} {f Cl : Addr} {fd : FuncData} {sp : Sp} (hm : Meth X.K Cl "__len__" f) (F : FnOk X.prog X.w X.K X.mg X.base (L2N.CX X.prog X.w) k f fd ["self"] sp) (hr : Room (k + 1) X.A) (hb : Binds X.K fd ["self"] []) :
    CallR X (.builtin "len") (fun xs H Q => ∃ (a dx : Addr) (fv : List (Str × V)) (n : Nat), xs = [.ref a] ∧ H a = some (.ins Cl dx fv) ∧ n ≤ 1000000 ∧ sp [.ref a] H (fun v H2 => v = .int (n : Int) ∧ Q (.int (n : Int)) H2) (fun _ _ _ => False)) := by
  rintro pins s σ H xs us Q I r ⟨a, dx, fv, n, rfl, ha, hn, q⟩
  obtain ⟨u, rfl, ru⟩ := vals1 r
  obtain rfl : u = Value.ref a := ru
  obtain ⟨_, _, _, hget, mA, ⟨o, es, ep, ho, _⟩, _⟩ := I.hok a _ ha
  have J : PySem.W.InstAt s.heap a (PySem.W.instObj Cl dx) Cl (some o) := ⟨hget, rfl, rfl, ho⟩
  refine Calls.call_function_entry kind_len plain_len entry_len (args_len1 _) ?_
  unfold Builtin.«len»
  refine wpAny_bind (m := oneArg "len" _) (wpAny_pure ?_)
  refine wpAny_bind (m := callSpecial? (.ref a) (PySem.Str.ofString "__len__")) (PySem.W.special_fn I.kIn J hm.at_ (eq_of_beq hm.fn) ?_)
  have b := hb s [.ref a] I.kIn rfl
  rw [List.append_nil] at b
  refine wpAny_call (codeAny_mono (F.run X.A.in1 X.stack s H ⟨[.ref a], []⟩ [.ref a] [.ref a] _ (fun _ _ _ => False) hr.in1 I.env0.in1 b (.cons rfl .nil) q) fun r s' hq => ?_)
  cases r with
  | error e =>
    obtain ⟨_, _, _, _, _, _, _, _, _, _, _, _, z⟩ := hq
    exact z.elim
  | ok fl =>
    cases fl with
    | ret u =>
      obtain ⟨v, H2, I2, rv, rfl, q2⟩ := I.after hq
      obtain ⟨t, rfl⟩ := (show ∃ t, u = Value.int (n : Int) t from rv)
      refine wpAny_bind (wpAny_holding (wpAny_pure ?_))
      refine wpAny_bind (wpAny_letGo ?_)
      show wpAny _ _ (if (n : Int) < 0 then _ else _) _ _ _
      rw [if_neg (by omega)]
      show wpAny _ _ (if (n : Int) ≥ 2 ^ 63 then _ else _) _ _ _
      rw [if_neg (by omega)]
      exact wpAny_bind (wpAny_mkInt (wpAny_pure ⟨_, rfl, ⟨.int (n : Int), H2, I2.tok _, ⟨_, rfl⟩, q2⟩⟩))
    | next => exact False.elim hq
    | brk => exact False.elim hq
    | cont => exact False.elim hq
end DD

namespace DD
variable [Nu]
open PySem L2
section
variable {α : Type} {fs : α → Fds} {C : Ct} {Ξ : Addr → Prop} {ρ : Rho} {pos p px : Pos} {cl : Addr} {Dom : α → Prop} {g : α → Out} {k : Nat} {x : Str} {enc : α → List PyData}
/-- len(x), x an instance of a slot -/
theorem de_lenI (i : Nat) {q : Addr} {n : Nat} (y : α) (hsl : gt ρ i = .thg q (objT cl (fs y))) (G : Mt C.X.prog C.X.w C.X.K C.X.mg C.X.base cl "__len__" ["self"] k (spR cl enc fs Dom g)) (hN : C.X.N[i]? = some x) (hv : Vis C.X.env.scope x) (hg : Gl C.X "len") (hm : C.X.mg "len" = none) (he : enc y = []) (hd : Dom y) (hgy : g y = .rt (.int (n : Int))) (hn : n ≤ 1000000)
    (hk : k + 1 ≤ C.lv := by exact Nat.le_of_ble_eq_true rfl) (hcalm : C.X.calm = true := by rfl) (hdb : (x == ("__debug__" : Str)) = false := by decide) (hcd : (x == ("__classdict__" : Str)) = false := by decide) (hst : starEach [.Name x px] C.X.env = (false, eval (.Name x px) C.X.env) :: starEach [] C.X.env := by rfl) (hpl : (backTo pos (starEach [] C.X.env)).any (·.1) = false := by rfl) :
    DEd C Ξ ρ (.Call (.Name "len" p) [.Name x px] [] pos) (.int (n : Int)) := fun σ H E Q q1 z => by
  obtain ⟨f, fd, hmt, hb, FF⟩ := G.ex
  obtain ⟨hσ, _, _, dx, fv, g1, g2⟩ := E.obj_of hsl
  obtain ⟨_, _, _, ho⟩ := E.thg_of2 hsl
  refine ⟨_, pe_callB (call_lenI hmt FF ((C.room' hcalm).mono hk) hb) hg hm b_len (pa_cons (pe_var hN hv hdb hcd) pa_nil hst) (by decide) (by decide) hst hpl, _, hσ, q, dx, fv, n, rfl, g1, hn, ?_⟩
  refine ⟨inn C ρ, q, y, [], rfl, E.out, ho, by rw [he]; exact .nil, hd, fun d v H' e ss r => ?_, fun c H' e ss => by rw [hgy] at e; cases e⟩
  rw [hgy] at e
  injection e with e
  subst e
  exact ⟨r.int_inv, q1 _ _ H' rfl (Gr.of ss) (by rw [r.int_inv] at r; exact .int _)⟩
end
/-- a thing that came since, owned by a slot -/
theorem Env.freshG {C : Ct} {ρ : Rho} {σ : L2.St} {H H' : Hp} {p : Addr} {sv : SV} {i : Nat} (E : Env C ρ σ H) (hp : H p = none) (up : Same H H') (ha : sv.addr = some p) (hi : i < ρ.length)
    (hs : C.O p = false → C.base p = none → Same (vis C ρ H) (vis C (ρ.set i sv) H') → SlotOk C (ρ.set i sv) H' sv (some (.ref p))) : Env C (ρ.set i sv) (σ.set i (some (.ref p))) H' ∧ Same (vis C ρ H) (vis C (ρ.set i sv) H') := by
  have hO := E.new hp
  have s : Same (vis C ρ H) (vis C (ρ.set i sv) H') := hid_mono fun a u e1 e2 => by
    refine ⟨?_, up a u e2⟩
    unfold inn at e1 ⊢
    rw [Bool.or_eq_false_iff] at e1 ⊢
    refine ⟨e1.1, ?_⟩
    cases q : owns (ρ.set i sv) a with
    | false => rfl
    | true =>
      exfalso
      rcases owns_put q with z | z
      · rw [z] at e1; cases e1.2
      · rw [ha] at z
        injection z with z
        rw [← z, hp] at e2
        cases e2
  have hb : C.base p = none := by
    cases e : C.base p with
    | none => rfl
    | some u => rw [E.gr.keep p u (O_U hO) e] at hp; cases hp
  refine ⟨⟨by rw [List.length_set, List.length_set]; exact E.len, fun j => ?_, fun a h => ?_, fun a h => ?_, E.gr.trans (Gr.of up), fun j k q h1 h2 => ?_⟩, s⟩
  · rw [gt_set, sg_set]
    by_cases z : i = j
    · rw [if_pos ⟨z, hi⟩, if_pos ⟨z, by rw [E.len]; exact hi⟩]
      exact hs hO hb s
    · rw [if_neg fun q => z q.1, if_neg fun q => z q.1]
      exact (E.slot j).see s fun a u _ e => up a u e
  · obtain ⟨k, e⟩ := E.cell a h
    exact ⟨k, e.up up⟩
  · cases q : H a with
    | none => exact absurd q (E.alloc a h)
    | some u => rw [up _ _ q]; simp
  · have old : ∀ m, (gt ρ m).addr = some p → False := fun m h => E.own_at (owns_iff.mpr ⟨m, h⟩) hp
    rw [gt_set] at h1 h2
    split at h1
    · split at h2
      · rename_i a b; rw [← a.1, ← b.1]
      · rw [ha] at h1; injection h1 with h1; rw [← h1] at h2; exact (old k h2).elim
    · split at h2
      · rw [ha] at h2; injection h2 with h2; rw [← h2] at h1; exact (old j h1).elim
      · exact E.dis j k q h1 h2
section
variable {α : Type} {enc : α → List PyData} {C : Ct} {F : Out → Prop} {ρ : Rho} {e : Expr} {es : List Expr} {pos p cpos : Pos} {cl : Addr} {Dom : α → Prop} {R : α → OutM → Prop} {x : Str} {ps : List Str} {k : Nat}
/-- w, a, b = C(e, ..), [], [] -/
theorem ds_newW (i j l : Nat) {n1 n2 n3 : Str} {q1 q2 q3 pt lp1 lp2 pt2 : Pos} {kt k2 : Nat} {fs : Fds} (y : α) (G : Ini C.X.prog C.X.w C.X.K C.X.mg C.X.base cl ps k (spM cl noX enc (fun _ => []) Dom R)) (hW : WFlat C) (hg : Gl C.X x) (hm : C.X.mg x = some (.ref cl)) (ha : DAd C (xi F) ρ (e :: es) (enc y)) (hd : Dom y)
    (hR : ∀ d fs', R y (.rt d fs') → d = .none ∧ fs' = fs) (hX : ∀ c fs', ¬ R y (.ex c fs')) (kk : ∀ q, F (.nx (((ρ.set i (.thg q (objT cl fs))).set j (.dat (.list []))).set l (.dat (.list [])))))
    (hN : C.X.N.Nodup) (h1 : C.X.N[i]? = some n1) (h2 : C.X.N[j]? = some n2) (h3 : C.X.N[l]? = some n3) (hi : i < ρ.length) (hx1 : Loc C.X.env.scope n1) (hx2 : Loc C.X.env.scope n2) (hx3 : Loc C.X.env.scope n3) (hf1 : C.X.fn n1 = true ∨ C.X.env.scope.names.lookup n1 = some .local) (hf2 : C.X.fn n2 = true ∨ C.X.env.scope.names.lookup n2 = some .local) (hf3 : C.X.fn n3 = true ∨ C.X.env.scope.names.lookup n3 = some .local)
    (hk : k + 1 ≤ C.lv := by exact Nat.le_of_ble_eq_true rfl) (hcalm : C.X.calm = true := by rfl) (hdb : (x == ("__debug__" : Str)) = false := by decide) (he : starEach (e :: es) C.X.env = (false, eval e C.X.env) :: starEach es C.X.env := by rfl) (hpl : (backTo cpos (starEach es C.X.env)).any (·.1) = false := by rfl)
    (s1 : starEach [.Call (.Name x p) (e :: es) [] cpos, .List [] lp1, .List [] lp2] C.X.env = (false, eval (.Call (.Name x p) (e :: es) [] cpos) C.X.env) :: starEach [.List [] lp1, .List [] lp2] C.X.env := by rfl) (s2 : starEach [.List [] lp1, .List [] lp2] C.X.env = (false, eval (.List [] lp1) C.X.env) :: starEach [.List [] lp2] C.X.env := by rfl) (s3 : starEach [.List [] lp2] C.X.env = (false, eval (.List [] lp2) C.X.env) :: starEach [] C.X.env := by rfl)
    (hs : swapsWithSole [.Tuple [.Name n1 q1, .Name n2 q2, .Name n3 q3] kt pt] (.Tuple [.Call (.Name x p) (e :: es) [] cpos, .List [] lp1, .List [] lp2] k2 pt2) pos.line C.X.env = pure false := by rfl) (hw : swappedStores [.Tuple [.Name n1 q1, .Name n2 q2, .Name n3 q3] kt pt] (.Tuple [.Call (.Name x p) (e :: es) [] cpos, .List [] lp1, .List [] lp2] k2 pt2) C.X.env = pure none := by rfl)
    (hx0 : (assignEach [.Tuple [.Name n1 q1, .Name n2 q2, .Name n3 q3] kt pt] C.X.env).map (·.2) = [assign (.Tuple [.Name n1 q1, .Name n2 q2, .Name n3 q3] kt pt) C.X.env] := by rfl)
    (g1 : (assignEach [.Name n1 q1, .Name n2 q2, .Name n3 q3] C.X.env).map (·.2) = assign (.Name n1 q1) C.X.env :: (assignEach [.Name n2 q2, .Name n3 q3] C.X.env).map (·.2) := by rfl) (g2 : (assignEach [.Name n2 q2, .Name n3 q3] C.X.env).map (·.2) = assign (.Name n2 q2) C.X.env :: (assignEach [.Name n3 q3] C.X.env).map (·.2) := by rfl) (g3 : (assignEach [.Name n3 q3] C.X.env).map (·.2) = assign (.Name n3 q3) C.X.env :: (assignEach [] C.X.env).map (·.2) := by rfl)
    (gn : (assignEach [.Name n1 q1, .Name n2 q2, .Name n3 q3] C.X.env).length = 3 := by rfl) (gs : (assignEach [.Name n1 q1, .Name n2 q2, .Name n3 q3] C.X.env).findIdx? (·.1) = none := by rfl) :
    DS C F ρ (.Assign [.Tuple [.Name n1 q1, .Name n2 q2, .Name n3 q3] kt pt] (.Tuple [.Call (.Name x p) (e :: es) [] cpos, .List [] lp1, .List [] lp2] k2 pt2) pos) := fun D σ H E q0 => by
  obtain ⟨f, fd, M, hb, FF⟩ := G.ex
  refine ⟨_, ps_asg (pe_tup (pa_cons (pe_make M FF ((C.room' hcalm).mono hk) hg hm hb .nil (passes_flat hW) pA hdb he hpl) (pa_cons (pe_lst pa_nil) (pa_cons (pe_lst pa_nil) pa_nil s3) s2) s1)) (pg_tup hcalm (pgs_cons (pg_name hN h1 hx1 hf1) (pgs_cons (pg_name hN h2 hx2 hf2) (pgs_cons (pg_name hN h3 hx3 hf3) pgs_nil g3) g2) g1) gn gs) hs hw hx0, ha σ H E _ (fun l0 vs H1 pl gg r a dx hxa hdx ne => ?_) (q0.exE E)⟩
  subst pl
  rw [List.append_nil]
  have E1 := E.grow gg
  refine mk_core E1 r.ats hd hxa hdx (fun d fs' h => (hR d fs' h).1) (fun fs' H2 h ss ho => ⟨rfl, ?_⟩) (fun c fs' H2 h => (hX c fs' h).elim)
  rw [(hR _ _ h).2] at ho
  obtain ⟨E2, sm2⟩ := E1.freshG (p := a) (sv := .thg a (objT cl fs)) (i := i) hxa ss rfl hi fun o1 o2 sm => by
    obtain ⟨u, e1, e2⟩ := ho
    refine ⟨rfl, o1, o2, u, e1, (objT cl fs).up (hid_mono fun b o w1 w2 => ⟨?_, w2⟩) e2⟩
    have w1 : (inn C ρ b || (b == a)) = false := w1
    rw [Bool.or_eq_false_iff] at w1
    unfold inn at w1 ⊢
    rw [Bool.or_eq_false_iff] at w1 ⊢
    refine ⟨w1.1.1, ?_⟩
    cases q : owns (ρ.set i (.thg a (objT cl fs))) b with
    | false => rfl
    | true =>
      exfalso
      rcases owns_put q with z | z
      · rw [w1.1.2] at z; cases z
      · have z : some a = some b := z
        injection z with z
        rw [z, beq_self_eq_true] at w1
        cases w1.2
  refine ⟨by decide, fun l1 hl1 => ⟨by decide, fun l2 hl2 => ⟨by show 3 ≤ sizeLine; rw [sizeLine_eq]; omega, fun t ht => ⟨t, _, rfl, SqT.of upd_same, rfl, _, _, rfl, _, _, rfl, _, _, rfl, rfl, ?_⟩⟩⟩⟩
  have n1 : Gr C.U H2 (upd H2 l1 (.lst [])) := Gr.of (same_new hl1)
  have n2 : Gr C.U (upd H2 l1 (.lst [])) (upd (upd H2 l1 (.lst [])) l2 (.lst [])) := Gr.of (same_new hl2)
  have n3 : Gr C.U (upd (upd H2 l1 (.lst [])) l2 (.lst [])) (upd (upd (upd H2 l1 (.lst [])) l2 (.lst [])) t (.tup [.ref a, .ref l1, .ref l2])) := Gr.of (same_new ht)
  have v1 : At (vis C (ρ.set i (.thg a (objT cl fs))) (upd H2 l1 (.lst []))) (.ref l1) (.list []) := .lst (E2.newV hl1) .nil
  have E3 := E2.grow n1
  have v2 : At (vis C (ρ.set i (.thg a (objT cl fs))) (upd (upd H2 l1 (.lst [])) l2 (.lst []))) (.ref l2) (.list []) := .lst (E3.newV hl2) .nil
  have E5 := (E3.grow n2).grow n3
  obtain ⟨E6, s6⟩ := E5.put (i := j) (sv := .dat (.list [])) (o := some (.ref l1)) rfl ⟨_, rfl, v1.up ((vis_gr n2).trans (vis_gr n3))⟩
  obtain ⟨E7, s7⟩ := E6.put (i := l) (sv := .dat (.list [])) (o := some (.ref l2)) rfl ⟨_, rfl, (v2.up (vis_gr n3)).up s6⟩
  exact q0.nx _ _ _ (kk a) E7 ((((((vis_gr gg).trans sm2).trans (vis_gr n1)).trans (vis_gr n2)).trans (vis_gr n3)).trans (s6.trans s7))
end
end DD

namespace DD
variable [Nu]
open PySem L2
section
variable {α : Type} {enc : α → List PyData} {fs : α → Fds} {C : Ct} {F : Out → Prop} {ρ : Rho} {es : List Expr} {pos p cpos : Pos} {cl : Addr} {Dom : α → Prop} {R : α → OutM → Prop} {x : Str} {ps : List Str} {k : Nat} {X : List V → (Addr → Bool) → Hp → Prop}
/-- v1, .., v5 = x(dice, walk, ..) -/
theorem ds_turn (i j k1 k2 k3 k4 k5 : Nat) {dn wn m1 m2 m3 m4 m5 : Str} {p1 p2 p3 p4 p5 pt pd pw : Pos} {kt : Nat} {a q : Addr} {U' : Addr → Bool} (y : α) (G : Fc C.X.prog C.X.w C.X.K C.X.mg C.X.base x ps k (spM cl X enc fs Dom R)) (hg : Gl C.X x) (h0 : gt ρ i = .raw (.ref a)) (hsl : gt ρ j = .thg q (objT cl (fs y))) (hNd : C.X.N[i]? = some dn) (hvd : Vis C.X.env.scope dn) (hNw : C.X.N[j]? = some wn) (hvw : Vis C.X.env.scope wn)
    (hX : ∀ σ H, Env C ρ σ H → X [.ref a] U' H) (sub : ∀ a, U' a = true → C.U a = true) (ha : DAd C (xi F) ρ es (enc y)) (hd : Dom y)
    (hR : ∀ d fs', R y (.rt d fs') → ∃ d1 d2 d3 d4 d5, d = .tuple [d1, d2, d3, d4, d5] ∧ F (.nx ((((((ρ.set j (.thg q (objT cl fs'))).set k1 (.dat d1)).set k2 (.dat d2)).set k3 (.dat d3)).set k4 (.dat d4)).set k5 (.dat d5)))) (hno : ∀ c fs', ¬ R y (.ex c fs'))
    (hN : C.X.N.Nodup) (e1 : C.X.N[k1]? = some m1) (e2 : C.X.N[k2]? = some m2) (e3 : C.X.N[k3]? = some m3) (e4 : C.X.N[k4]? = some m4) (e5 : C.X.N[k5]? = some m5) (x1 : Loc C.X.env.scope m1) (x2 : Loc C.X.env.scope m2) (x3 : Loc C.X.env.scope m3) (x4 : Loc C.X.env.scope m4) (x5 : Loc C.X.env.scope m5)
    (f1 : C.X.fn m1 = true ∨ C.X.env.scope.names.lookup m1 = some .local) (f2 : C.X.fn m2 = true ∨ C.X.env.scope.names.lookup m2 = some .local) (f3 : C.X.fn m3 = true ∨ C.X.env.scope.names.lookup m3 = some .local) (f4 : C.X.fn m4 = true ∨ C.X.env.scope.names.lookup m4 = some .local) (f5 : C.X.fn m5 = true ∨ C.X.env.scope.names.lookup m5 = some .local)
    (hk : k ≤ C.lv := by exact Nat.le_of_ble_eq_true rfl) (hcalm : C.X.calm = true := by rfl) (hxd : (x == ("__debug__" : Str)) = false := by decide) (hdb : (dn == ("__debug__" : Str)) = false := by decide) (hdc : (dn == ("__classdict__" : Str)) = false := by decide) (hwb : (wn == ("__debug__" : Str)) = false := by decide) (hwc : (wn == ("__classdict__" : Str)) = false := by decide)
    (he : starEach (.Name dn pd :: .Name wn pw :: es) C.X.env = (false, eval (.Name dn pd) C.X.env) :: starEach (.Name wn pw :: es) C.X.env := by rfl) (he2 : starEach (.Name wn pw :: es) C.X.env = (false, eval (.Name wn pw) C.X.env) :: starEach es C.X.env := by rfl) (hpl : (backTo cpos (starEach (.Name wn pw :: es) C.X.env)).any (·.1) = false := by rfl)
    (hs : swapsWithSole [.Tuple [.Name m1 p1, .Name m2 p2, .Name m3 p3, .Name m4 p4, .Name m5 p5] kt pt] (.Call (.Name x p) (.Name dn pd :: .Name wn pw :: es) [] cpos) pos.line C.X.env = pure false := by rfl) (hw : swappedStores [.Tuple [.Name m1 p1, .Name m2 p2, .Name m3 p3, .Name m4 p4, .Name m5 p5] kt pt] (.Call (.Name x p) (.Name dn pd :: .Name wn pw :: es) [] cpos) C.X.env = pure none := by rfl)
    (hx0 : (assignEach [.Tuple [.Name m1 p1, .Name m2 p2, .Name m3 p3, .Name m4 p4, .Name m5 p5] kt pt] C.X.env).map (·.2) = [assign (.Tuple [.Name m1 p1, .Name m2 p2, .Name m3 p3, .Name m4 p4, .Name m5 p5] kt pt) C.X.env] := by rfl)
    (g1 : (assignEach [.Name m1 p1, .Name m2 p2, .Name m3 p3, .Name m4 p4, .Name m5 p5] C.X.env).map (·.2) = assign (.Name m1 p1) C.X.env :: (assignEach [.Name m2 p2, .Name m3 p3, .Name m4 p4, .Name m5 p5] C.X.env).map (·.2) := by rfl) (g2 : (assignEach [.Name m2 p2, .Name m3 p3, .Name m4 p4, .Name m5 p5] C.X.env).map (·.2) = assign (.Name m2 p2) C.X.env :: (assignEach [.Name m3 p3, .Name m4 p4, .Name m5 p5] C.X.env).map (·.2) := by rfl) (g3 : (assignEach [.Name m3 p3, .Name m4 p4, .Name m5 p5] C.X.env).map (·.2) = assign (.Name m3 p3) C.X.env :: (assignEach [.Name m4 p4, .Name m5 p5] C.X.env).map (·.2) := by rfl) (g4 : (assignEach [.Name m4 p4, .Name m5 p5] C.X.env).map (·.2) = assign (.Name m4 p4) C.X.env :: (assignEach [.Name m5 p5] C.X.env).map (·.2) := by rfl) (g5 : (assignEach [.Name m5 p5] C.X.env).map (·.2) = assign (.Name m5 p5) C.X.env :: (assignEach [] C.X.env).map (·.2) := by rfl)
    (gn : (assignEach [.Name m1 p1, .Name m2 p2, .Name m3 p3, .Name m4 p4, .Name m5 p5] C.X.env).length = 5 := by rfl) (gs : (assignEach [.Name m1 p1, .Name m2 p2, .Name m3 p3, .Name m4 p4, .Name m5 p5] C.X.env).findIdx? (·.1) = none := by rfl) :
    DS C F ρ (.Assign [.Tuple [.Name m1 p1, .Name m2 p2, .Name m3 p3, .Name m4 p4, .Name m5 p5] kt pt] (.Call (.Name x p) (.Name dn pd :: .Name wn pw :: es) [] cpos) pos) := fun D σ H E q0 => by
  obtain ⟨f, fd, hm, kp, hb, FF⟩ := G.ex
  obtain ⟨hσ, _, _, _⟩ := E.thg_of2 hsl
  refine ⟨_, ps_asg (pe_callS FF ((C.room' hcalm).mono hk) hg hm kp hb (fun σ => L2N.passAt C.tk σ) (pa_cons (pe_var hNd hvd hdb hdc) (pa_cons (pe_var hNw hvw hwb hwc) pA he2) he) hxd he hpl) (pg_tup hcalm (pgs_cons (pg_name hN e1 x1 f1) (pgs_cons (pg_name hN e2 x2 f2) (pgs_cons (pg_name hN e3 x3 f3) (pgs_cons (pg_name hN e4 x4 f4) (pgs_cons (pg_name hN e5 x5 f5) pgs_nil g5) g4) g3) g2) g1) gn gs) hs hw hx0, _, raw_at E h0, _, hσ, ha σ H E _ (fun l vs H2 pl gg r => ?_) (q0.exE E)⟩
  subst pl
  have E2 := E.grow gg
  refine ew_coreU [.ref a] hsl (hX σ H2 E2) sub hd E2 r.ats (fun d fs' v H' rr E3 sm rv => ?_) (fun c fs' H' rr => (hno c fs' rr).elim)
  obtain ⟨d1, d2, d3, d4, d5, rfl, kk⟩ := hR d fs' rr
  obtain ⟨t, xs, rfl, t1, t2⟩ := rv.ref_tup
  cases t2 with
  | cons r1 t2 =>
  cases t2 with
  | cons r2 t2 =>
  cases t2 with
  | cons r3 t2 =>
  cases t2 with
  | cons r4 t2 =>
  cases t2 with
  | cons r5 t2 =>
  cases t2
  refine ⟨t, _, rfl, SqT.of (hid_le _ _ t1), rfl, _, _, rfl, _, _, rfl, _, _, rfl, _, _, rfl, _, _, rfl, rfl, ?_⟩
  obtain ⟨F1, s1⟩ := E3.put (i := k1) (sv := .dat d1) (o := some _) rfl ⟨_, rfl, r1⟩
  obtain ⟨F2, s2⟩ := F1.put (i := k2) (sv := .dat d2) (o := some _) rfl ⟨_, rfl, r2.up s1⟩
  obtain ⟨F3, s3⟩ := F2.put (i := k3) (sv := .dat d3) (o := some _) rfl ⟨_, rfl, (r3.up s1).up s2⟩
  obtain ⟨F4, s4⟩ := F3.put (i := k4) (sv := .dat d4) (o := some _) rfl ⟨_, rfl, ((r4.up s1).up s2).up s3⟩
  obtain ⟨F5, s5⟩ := F4.put (i := k5) (sv := .dat d5) (o := some _) rfl ⟨_, rfl, (((r5.up s1).up s2).up s3).up s4⟩
  exact q0.nx _ _ _ kk F5 ((((((vis_gr gg).trans sm).trans s1).trans s2).trans s3).trans (s4.trans s5))
end
end DD

namespace DD
open PySem L2
def topS (i : Nat) : Stmt := PySem.Challenge.pw_digitdrop_k19_whole_walks.main.body.getD i (.Pass ⟨0, 0, 0, 0⟩)
abbrev s_is_whole : Stmt := topS 14
abbrev s_need_base : Stmt := topS 15
abbrev s_good : Stmt := topS 16
abbrev s_need_row : Stmt := topS 17
abbrev s_number_from : Stmt := topS 18
abbrev s_written : Stmt := topS 19
abbrev s_falling_of : Stmt := topS 20
abbrev s_stepped : Stmt := topS 22
abbrev s_later : Stmt := topS 23
abbrev s_need_steps : Stmt := topS 24
abbrev s__law_cell : Stmt := topS 28
abbrev s__law_drawn : Stmt := topS 29
abbrev s__law_roll : Stmt := topS 30
abbrev s__law_rounds : Stmt := topS 31
abbrev s__law_term : Stmt := topS 32
abbrev s__law_told : Stmt := topS 33
abbrev s__law_any_base : Stmt := topS 34
abbrev s__law_any_row : Stmt := topS 35
abbrev s__law_written : Stmt := topS 36
abbrev s__law_step : Stmt := topS 37
abbrev s__law_done : Stmt := topS 38
abbrev s__law_next : Stmt := topS 39
abbrev s__law_turn : Stmt := topS 40
abbrev s_law : Stmt := topS 41
def d_is_whole : He.DefD := ⟨("is_whole", none), "is_whole", "is_whole", defArgs s_is_whole, defBody s_is_whole, defScope s_is_whole, [], []⟩
def d_need_base : He.DefD := ⟨("need_base", none), "need_base", "need_base", defArgs s_need_base, defBody s_need_base, defScope s_need_base, [], []⟩
def d_good : He.DefD := ⟨("good", none), "good", "good", defArgs s_good, defBody s_good, defScope s_good, [], []⟩
def d_need_row : He.DefD := ⟨("need_row", none), "need_row", "need_row", defArgs s_need_row, defBody s_need_row, defScope s_need_row, [], []⟩
def d_number_from : He.DefD := ⟨("number_from", none), "number_from", "number_from", defArgs s_number_from, defBody s_number_from, defScope s_number_from, [], []⟩
def d_written : He.DefD := ⟨("written", none), "written", "written", defArgs s_written, defBody s_written, defScope s_written, [], []⟩
def d_falling_of : He.DefD := ⟨("falling_of", none), "falling_of", "falling_of", defArgs s_falling_of, defBody s_falling_of, defScope s_falling_of, [], []⟩
def d_stepped : He.DefD := ⟨("stepped", none), "stepped", "stepped", defArgs s_stepped, defBody s_stepped, defScope s_stepped, [], []⟩
def d_later : He.DefD := ⟨("later", none), "later", "later", defArgs s_later, defBody s_later, defScope s_later, [], []⟩
def d_need_steps : He.DefD := ⟨("need_steps", none), "need_steps", "need_steps", defArgs s_need_steps, defBody s_need_steps, defScope s_need_steps, [], []⟩
def d__law_cell : He.DefD := ⟨("_law_cell", none), "_law_cell", "_law_cell", defArgs s__law_cell, defBody s__law_cell, defScope s__law_cell, [], []⟩
def d__law_drawn : He.DefD := ⟨("_law_drawn", none), "_law_drawn", "_law_drawn", defArgs s__law_drawn, defBody s__law_drawn, defScope s__law_drawn, [], []⟩
def d__law_roll : He.DefD := ⟨("_law_roll", none), "_law_roll", "_law_roll", defArgs s__law_roll, defBody s__law_roll, defScope s__law_roll, [], []⟩
def d__law_rounds : He.DefD := ⟨("_law_rounds", none), "_law_rounds", "_law_rounds", defArgs s__law_rounds, defBody s__law_rounds, defScope s__law_rounds, [], []⟩
def d__law_term : He.DefD := ⟨("_law_term", none), "_law_term", "_law_term", defArgs s__law_term, defBody s__law_term, defScope s__law_term, [], []⟩
def d__law_told : He.DefD := ⟨("_law_told", none), "_law_told", "_law_told", defArgs s__law_told, defBody s__law_told, defScope s__law_told, [], []⟩
def d__law_any_base : He.DefD := ⟨("_law_any_base", none), "_law_any_base", "_law_any_base", defArgs s__law_any_base, defBody s__law_any_base, defScope s__law_any_base, [], []⟩
def d__law_any_row : He.DefD := ⟨("_law_any_row", none), "_law_any_row", "_law_any_row", defArgs s__law_any_row, defBody s__law_any_row, defScope s__law_any_row, [], []⟩
def d__law_written : He.DefD := ⟨("_law_written", none), "_law_written", "_law_written", defArgs s__law_written, defBody s__law_written, defScope s__law_written, [], []⟩
def d__law_step : He.DefD := ⟨("_law_step", none), "_law_step", "_law_step", defArgs s__law_step, defBody s__law_step, defScope s__law_step, [], []⟩
def d__law_done : He.DefD := ⟨("_law_done", none), "_law_done", "_law_done", defArgs s__law_done, defBody s__law_done, defScope s__law_done, [], []⟩
def d__law_next : He.DefD := ⟨("_law_next", none), "_law_next", "_law_next", defArgs s__law_next, defBody s__law_next, defScope s__law_next, [], []⟩
def d__law_turn : He.DefD := ⟨("_law_turn", none), "_law_turn", "_law_turn", defArgs s__law_turn, defBody s__law_turn, defScope s__law_turn, [], []⟩
def d_law : He.DefD := ⟨("law", none), "law", "law", defArgs s_law, defBody s_law, defScope s_law, [], []⟩
abbrev s_Walk___init__ : Stmt := inClass (topS 26) 0
def d_Walk___init__ : He.DefD := ⟨("Walk", some "__init__"), "__init__", "Walk.__init__", defArgs s_Walk___init__, defBody s_Walk___init__, defScope s_Walk___init__, [], []⟩
abbrev s_Walk_change : Stmt := inClass (topS 26) 1
def d_Walk_change : He.DefD := ⟨("Walk", some "change"), "change", "Walk.change", defArgs s_Walk_change, defBody s_Walk_change, defScope s_Walk_change, [], []⟩
abbrev s_Walk_go : Stmt := inClass (topS 26) 2
def d_Walk_go : He.DefD := ⟨("Walk", some "go"), "go", "Walk.go", defArgs s_Walk_go, defBody s_Walk_go, defScope s_Walk_go, [], []⟩
abbrev s_Walk_put : Stmt := inClass (topS 26) 3
def d_Walk_put : He.DefD := ⟨("Walk", some "put"), "put", "Walk.put", defArgs s_Walk_put, defBody s_Walk_put, defScope s_Walk_put, [], []⟩
abbrev s_Walk_row : Stmt := inClass (topS 26) 4
def d_Walk_row : He.DefD := ⟨("Walk", some "row"), "row", "Walk.row", defArgs s_Walk_row, defBody s_Walk_row, defScope s_Walk_row, [], []⟩
abbrev s_Walk_undo : Stmt := inClass (topS 26) 5
def d_Walk_undo : He.DefD := ⟨("Walk", some "undo"), "undo", "Walk.undo", defArgs s_Walk_undo, defBody s_Walk_undo, defScope s_Walk_undo, [], []⟩
abbrev s_Walk_redo : Stmt := inClass (topS 26) 6
def d_Walk_redo : He.DefD := ⟨("Walk", some "redo"), "redo", "Walk.redo", defArgs s_Walk_redo, defBody s_Walk_redo, defScope s_Walk_redo, [], []⟩
abbrev s_Walk___len__ : Stmt := inClass (topS 26) 7
def d_Walk___len__ : He.DefD := ⟨("Walk", some "__len__"), "__len__", "Walk.__len__", defArgs s_Walk___len__, defBody s_Walk___len__, defScope s_Walk___len__, [], []⟩
def fn : List He.DefD := ([d_is_whole, d_need_base, d_good, d_need_row, d_number_from, d_written, d_falling_of, d_stepped, d_later, d_need_steps, d__law_cell, d__law_drawn, d__law_roll, d__law_rounds, d__law_term, d__law_told, d__law_any_base, d__law_any_row, d__law_written, d__law_step, d__law_done, d__law_next, d__law_turn, d_law, d_Walk___init__, d_Walk_change, d_Walk_go, d_Walk_put, d_Walk_row, d_Walk_undo] : List He.DefD) ++ ([d_Walk_redo, d_Walk___len__] : List He.DefD)
def fa : List He.Fa := ([.glo "is_whole", .glo "need_base", .glo "good", .glo "need_row", .glo "number_from", .glo "written", .glo "falling_of", .glo "stepped", .glo "later", .glo "need_steps", .glo "_law_cell", .glo "_law_drawn", .glo "_law_roll", .glo "_law_rounds", .glo "_law_term", .glo "_law_told", .glo "_law_any_base", .glo "_law_any_row", .glo "_law_written", .glo "_law_step", .glo "_law_done", .glo "_law_next", .glo "_law_turn", .glo "law", .free "ValueError", .free "all", .free "bool", .free "int", .free "isinstance", .free "len"] : List He.Fa) ++ ([.free "max", .free "min", .free "range", .free "reversed", .free "sorted", .free "sum", .free "tuple", .glo "DigitError", .exc "DigitError", .glo "InvalidBase", .exc "InvalidBase", .glo "InvalidRow", .exc "InvalidRow", .glo "InvalidLength", .exc "InvalidLength", .glo "InvalidNumber", .exc "InvalidNumber", .glo "InvalidSteps", .exc "InvalidSteps", .glo "InvalidPlace", .exc "InvalidPlace", .glo "InvalidDigit", .exc "InvalidDigit", .glo "InvalidText", .exc "InvalidText", .glo "TooLarge", .exc "TooLarge", .glo "TooGreat", .exc "TooGreat", .glo "NothingToUndo"] : List He.Fa) ++ ([.exc "NothingToUndo", .glo "Walk", .cls "Walk", .mkr "Walk", .meth "Walk" "change", .meth "Walk" "go", .meth "Walk" "put", .meth "Walk" "row", .meth "Walk" "undo", .meth "Walk" "redo", .meth "Walk" "__len__", .noat "Walk" "base", .noat "Walk" "now", .noat "Walk" "earlier", .noat "Walk" "undone", .exm "DigitError" "DigitError" true, .exm "InvalidBase" "DigitError" true, .exm "InvalidRow" "DigitError" true, .exm "InvalidLength" "DigitError" true, .exm "InvalidNumber" "DigitError" true, .exm "InvalidSteps" "DigitError" true, .exm "InvalidPlace" "DigitError" true, .exm "InvalidDigit" "DigitError" true, .exm "InvalidText" "DigitError" true, .exm "TooLarge" "DigitError" true, .exm "TooGreat" "DigitError" true, .exm "NothingToUndo" "DigitError" true] : List He.Fa)
def loose : List Str := (["DigitError", "InvalidBase", "InvalidDigit", "InvalidLength", "InvalidNumber", "InvalidPlace", "InvalidRow", "InvalidSteps", "InvalidText", "NothingToUndo", "TooGreat", "TooLarge", "Walk", "_law_any_base", "_law_any_row", "_law_cell", "_law_done", "_law_drawn", "_law_next", "_law_roll", "_law_rounds", "_law_step", "_law_term", "_law_told", "_law_turn", "_law_written", "falling_of", "good", "is_whole", "later"] : List Str) ++ (["need_base", "need_row", "need_steps", "number_from", "stepped", "written"] : List Str)
def tf : List He.Defn := [("law", none), ("_law_done", none)]
/-- what the top has left -/
structure Txt (K : PySem.W.Frag) (mg : Str → Option Value) : Prop where
  n_ValueError : mg "ValueError" = none
  n_all : mg "all" = none
  n_bool : mg "bool" = none
  n_int : mg "int" = none
  n_isinstance : mg "isinstance" = none
  n_len : mg "len" = none
  n_max : mg "max" = none
  n_min : mg "min" = none
  n_range : mg "range" = none
  n_reversed : mg "reversed" = none
  n_sorted : mg "sorted" = none
  n_sum : mg "sum" = none
  n_tuple : mg "tuple" = none
  d_is_whole : ∃ fd, FunD K "is_whole" "is_whole" (defArgs s_is_whole) (defBody s_is_whole) (defScope s_is_whole) [] [] (He.ga K "is_whole") fd
  g_is_whole : mg "is_whole" = some (.ref (He.ga K "is_whole"))
  d_need_base : ∃ fd, FunD K "need_base" "need_base" (defArgs s_need_base) (defBody s_need_base) (defScope s_need_base) [] [] (He.ga K "need_base") fd
  g_need_base : mg "need_base" = some (.ref (He.ga K "need_base"))
  d_good : ∃ fd, FunD K "good" "good" (defArgs s_good) (defBody s_good) (defScope s_good) [] [] (He.ga K "good") fd
  g_good : mg "good" = some (.ref (He.ga K "good"))
  d_need_row : ∃ fd, FunD K "need_row" "need_row" (defArgs s_need_row) (defBody s_need_row) (defScope s_need_row) [] [] (He.ga K "need_row") fd
  g_need_row : mg "need_row" = some (.ref (He.ga K "need_row"))
  d_number_from : ∃ fd, FunD K "number_from" "number_from" (defArgs s_number_from) (defBody s_number_from) (defScope s_number_from) [] [] (He.ga K "number_from") fd
  g_number_from : mg "number_from" = some (.ref (He.ga K "number_from"))
  d_written : ∃ fd, FunD K "written" "written" (defArgs s_written) (defBody s_written) (defScope s_written) [] [] (He.ga K "written") fd
  g_written : mg "written" = some (.ref (He.ga K "written"))
  d_falling_of : ∃ fd, FunD K "falling_of" "falling_of" (defArgs s_falling_of) (defBody s_falling_of) (defScope s_falling_of) [] [] (He.ga K "falling_of") fd
  g_falling_of : mg "falling_of" = some (.ref (He.ga K "falling_of"))
  d_stepped : ∃ fd, FunD K "stepped" "stepped" (defArgs s_stepped) (defBody s_stepped) (defScope s_stepped) [] [] (He.ga K "stepped") fd
  g_stepped : mg "stepped" = some (.ref (He.ga K "stepped"))
  d_later : ∃ fd, FunD K "later" "later" (defArgs s_later) (defBody s_later) (defScope s_later) [] [] (He.ga K "later") fd
  g_later : mg "later" = some (.ref (He.ga K "later"))
  d_need_steps : ∃ fd, FunD K "need_steps" "need_steps" (defArgs s_need_steps) (defBody s_need_steps) (defScope s_need_steps) [] [] (He.ga K "need_steps") fd
  g_need_steps : mg "need_steps" = some (.ref (He.ga K "need_steps"))
  d__law_cell : ∃ fd, FunD K "_law_cell" "_law_cell" (defArgs s__law_cell) (defBody s__law_cell) (defScope s__law_cell) [] [] (He.ga K "_law_cell") fd
  g__law_cell : mg "_law_cell" = some (.ref (He.ga K "_law_cell"))
  d__law_drawn : ∃ fd, FunD K "_law_drawn" "_law_drawn" (defArgs s__law_drawn) (defBody s__law_drawn) (defScope s__law_drawn) [] [] (He.ga K "_law_drawn") fd
  g__law_drawn : mg "_law_drawn" = some (.ref (He.ga K "_law_drawn"))
  d__law_roll : ∃ fd, FunD K "_law_roll" "_law_roll" (defArgs s__law_roll) (defBody s__law_roll) (defScope s__law_roll) [] [] (He.ga K "_law_roll") fd
  g__law_roll : mg "_law_roll" = some (.ref (He.ga K "_law_roll"))
  d__law_rounds : ∃ fd, FunD K "_law_rounds" "_law_rounds" (defArgs s__law_rounds) (defBody s__law_rounds) (defScope s__law_rounds) [] [] (He.ga K "_law_rounds") fd
  g__law_rounds : mg "_law_rounds" = some (.ref (He.ga K "_law_rounds"))
  d__law_term : ∃ fd, FunD K "_law_term" "_law_term" (defArgs s__law_term) (defBody s__law_term) (defScope s__law_term) [] [] (He.ga K "_law_term") fd
  g__law_term : mg "_law_term" = some (.ref (He.ga K "_law_term"))
  d__law_told : ∃ fd, FunD K "_law_told" "_law_told" (defArgs s__law_told) (defBody s__law_told) (defScope s__law_told) [] [] (He.ga K "_law_told") fd
  g__law_told : mg "_law_told" = some (.ref (He.ga K "_law_told"))
  d__law_any_base : ∃ fd, FunD K "_law_any_base" "_law_any_base" (defArgs s__law_any_base) (defBody s__law_any_base) (defScope s__law_any_base) [] [] (He.ga K "_law_any_base") fd
  g__law_any_base : mg "_law_any_base" = some (.ref (He.ga K "_law_any_base"))
  d__law_any_row : ∃ fd, FunD K "_law_any_row" "_law_any_row" (defArgs s__law_any_row) (defBody s__law_any_row) (defScope s__law_any_row) [] [] (He.ga K "_law_any_row") fd
  g__law_any_row : mg "_law_any_row" = some (.ref (He.ga K "_law_any_row"))
  d__law_written : ∃ fd, FunD K "_law_written" "_law_written" (defArgs s__law_written) (defBody s__law_written) (defScope s__law_written) [] [] (He.ga K "_law_written") fd
  g__law_written : mg "_law_written" = some (.ref (He.ga K "_law_written"))
  d__law_step : ∃ fd, FunD K "_law_step" "_law_step" (defArgs s__law_step) (defBody s__law_step) (defScope s__law_step) [] [] (He.ga K "_law_step") fd
  g__law_step : mg "_law_step" = some (.ref (He.ga K "_law_step"))
  d__law_done : ∃ fd, FunD K "_law_done" "_law_done" (defArgs s__law_done) (defBody s__law_done) (defScope s__law_done) [] [] (He.ga K "_law_done") fd
  g__law_done : mg "_law_done" = some (.ref (He.ga K "_law_done"))
  d__law_next : ∃ fd, FunD K "_law_next" "_law_next" (defArgs s__law_next) (defBody s__law_next) (defScope s__law_next) [] [] (He.ga K "_law_next") fd
  g__law_next : mg "_law_next" = some (.ref (He.ga K "_law_next"))
  d__law_turn : ∃ fd, FunD K "_law_turn" "_law_turn" (defArgs s__law_turn) (defBody s__law_turn) (defScope s__law_turn) [] [] (He.ga K "_law_turn") fd
  g__law_turn : mg "_law_turn" = some (.ref (He.ga K "_law_turn"))
  d_law : ∃ fd, FunD K "law" "law" (defArgs s_law) (defBody s_law) (defScope s_law) [] [] (He.ga K "law") fd
  g_law : mg "law" = some (.ref (He.ga K "law"))
  x_DigitError : Xc K mg "DigitError"
  x_InvalidBase : Xc K mg "InvalidBase"
  x_InvalidRow : Xc K mg "InvalidRow"
  x_InvalidLength : Xc K mg "InvalidLength"
  x_InvalidNumber : Xc K mg "InvalidNumber"
  x_InvalidSteps : Xc K mg "InvalidSteps"
  x_InvalidPlace : Xc K mg "InvalidPlace"
  x_InvalidDigit : Xc K mg "InvalidDigit"
  x_InvalidText : Xc K mg "InvalidText"
  x_TooLarge : Xc K mg "TooLarge"
  x_TooGreat : Xc K mg "TooGreat"
  x_NothingToUndo : Xc K mg "NothingToUndo"
  e_DigitError : PySem.W.exmOne K (.ref (He.ga K "DigitError")) (.ref (He.ga K "DigitError")) = some true
  e_InvalidBase : PySem.W.exmOne K (.ref (He.ga K "InvalidBase")) (.ref (He.ga K "DigitError")) = some true
  e_InvalidRow : PySem.W.exmOne K (.ref (He.ga K "InvalidRow")) (.ref (He.ga K "DigitError")) = some true
  e_InvalidLength : PySem.W.exmOne K (.ref (He.ga K "InvalidLength")) (.ref (He.ga K "DigitError")) = some true
  e_InvalidNumber : PySem.W.exmOne K (.ref (He.ga K "InvalidNumber")) (.ref (He.ga K "DigitError")) = some true
  e_InvalidSteps : PySem.W.exmOne K (.ref (He.ga K "InvalidSteps")) (.ref (He.ga K "DigitError")) = some true
  e_InvalidPlace : PySem.W.exmOne K (.ref (He.ga K "InvalidPlace")) (.ref (He.ga K "DigitError")) = some true
  e_InvalidDigit : PySem.W.exmOne K (.ref (He.ga K "InvalidDigit")) (.ref (He.ga K "DigitError")) = some true
  e_InvalidText : PySem.W.exmOne K (.ref (He.ga K "InvalidText")) (.ref (He.ga K "DigitError")) = some true
  e_TooLarge : PySem.W.exmOne K (.ref (He.ga K "TooLarge")) (.ref (He.ga K "DigitError")) = some true
  e_TooGreat : PySem.W.exmOne K (.ref (He.ga K "TooGreat")) (.ref (He.ga K "DigitError")) = some true
  e_NothingToUndo : PySem.W.exmOne K (.ref (He.ga K "NothingToUndo")) (.ref (He.ga K "DigitError")) = some true
  w_g : mg "Walk" = some (.ref (He.ga K "Walk"))
  w_c : Cls K (He.ga K "Walk")
  w_k : Mk K (He.ga K "Walk") (He.ma K (He.ga K "Walk") "__init__")
  w_na_base : NoAttr K (He.ga K "Walk") "base"
  w_na_now : NoAttr K (He.ga K "Walk") "now"
  w_na_earlier : NoAttr K (He.ga K "Walk") "earlier"
  w_na_undone : NoAttr K (He.ga K "Walk") "undone"
  w_d___init__ : ∃ fd, FunD K "__init__" "Walk.__init__" (defArgs s_Walk___init__) (defBody s_Walk___init__) (defScope s_Walk___init__) [] [] (He.ma K (He.ga K "Walk") "__init__") fd
  w_m_change : Meth K (He.ga K "Walk") "change" (He.ma K (He.ga K "Walk") "change")
  w_d_change : ∃ fd, FunD K "change" "Walk.change" (defArgs s_Walk_change) (defBody s_Walk_change) (defScope s_Walk_change) [] [] (He.ma K (He.ga K "Walk") "change") fd
  w_m_go : Meth K (He.ga K "Walk") "go" (He.ma K (He.ga K "Walk") "go")
  w_d_go : ∃ fd, FunD K "go" "Walk.go" (defArgs s_Walk_go) (defBody s_Walk_go) (defScope s_Walk_go) [] [] (He.ma K (He.ga K "Walk") "go") fd
  w_m_put : Meth K (He.ga K "Walk") "put" (He.ma K (He.ga K "Walk") "put")
  w_d_put : ∃ fd, FunD K "put" "Walk.put" (defArgs s_Walk_put) (defBody s_Walk_put) (defScope s_Walk_put) [] [] (He.ma K (He.ga K "Walk") "put") fd
  w_m_row : Meth K (He.ga K "Walk") "row" (He.ma K (He.ga K "Walk") "row")
  w_d_row : ∃ fd, FunD K "row" "Walk.row" (defArgs s_Walk_row) (defBody s_Walk_row) (defScope s_Walk_row) [] [] (He.ma K (He.ga K "Walk") "row") fd
  w_m_undo : Meth K (He.ga K "Walk") "undo" (He.ma K (He.ga K "Walk") "undo")
  w_d_undo : ∃ fd, FunD K "undo" "Walk.undo" (defArgs s_Walk_undo) (defBody s_Walk_undo) (defScope s_Walk_undo) [] [] (He.ma K (He.ga K "Walk") "undo") fd
  w_m_redo : Meth K (He.ga K "Walk") "redo" (He.ma K (He.ga K "Walk") "redo")
  w_d_redo : ∃ fd, FunD K "redo" "Walk.redo" (defArgs s_Walk_redo) (defBody s_Walk_redo) (defScope s_Walk_redo) [] [] (He.ma K (He.ga K "Walk") "redo") fd
  w_m___len__ : Meth K (He.ga K "Walk") "__len__" (He.ma K (He.ga K "Walk") "__len__")
  w_d___len__ : ∃ fd, FunD K "__len__" "Walk.__len__" (defArgs s_Walk___len__) (defBody s_Walk___len__) (defScope s_Walk___len__) [] [] (He.ma K (He.ga K "Walk") "__len__") fd
end DD

namespace DD
open PySem L2
variable [Nu] {P : Program} {w : World} {K : PySem.W.Frag} {mg : Str → Option Value} {base : Heap}
theorem sc_is_whole : FnScope ["value", "low", "high"] ["value", "low", "high"] (defScope s_is_whole) := ⟨rfl, rfl, rfl, by decide +kernel, rfl, by decide +kernel, by decide +kernel⟩
abbrev sp_is_whole (K : PySem.W.Frag) : Sp := spF (α := PyData × Int × Int) (fun x => [x.1, .int x.2.1, .int x.2.2]) (fun _ => True) (fun x => .rt (.bool (isW x.1 x.2.1 x.2.2)))
theorem ok_is_whole (T : Txt K mg) : Fc P w K mg base "is_whole" ["value", "low", "high"] 1 (sp_is_whole K) := by
  refine fc_X (st := s_is_whole) T.d_is_whole T.g_is_whole sc_is_whole (fun _ => rfl) (by decide) (fun _ _ _ _ _ _ us hl => match us, hl with | [_, _, _], _ => rfl) fun cdv A outer s H E hr O y hd => ?_
  obtain ⟨v, lo, hi⟩ := y
  refine dss_one (ds_retd (d := .bool (isInt v && (!isBool v && isW v lo hi))) (de_and (de_isi rfl T.n_isinstance rfl T.n_int b_int (de_var 0 rfl rfl (.inl rfl)) (kit_int v)) fun h1 =>
    de_and (de_not (de_isi rfl T.n_isinstance rfl T.n_bool b_bool (de_var 0 rfl rfl (.inl rfl)) (kit_bool v))) fun h2 => de_one ?_) ?_)
  · cases v with
    | int i => exact de_chain op_le op_le (de_var 1 rfl rfl (.inl rfl)) (de_var 0 rfl rfl (.inl rfl)) (fun _ => (de_var 2 rfl rfl (.inl rfl))) rb_le (fun _ => rb_le)
    | bool b => cases h2
    | _ => cases h1
  · show Out.rt _ = Out.rt _
    cases v <;> rfl

theorem sc_need_base : FnScope ["base"] ["base"] (defScope s_need_base) := ⟨rfl, rfl, rfl, by decide +kernel, rfl, by decide +kernel, by decide +kernel⟩
abbrev sp_need_base (K : PySem.W.Frag) : Sp := spF (α := PyData) (fun x => [x]) (fun _ => True) (fun x => fNB K x)
theorem ok_need_base (T : Txt K mg) : Fc P w K mg base "need_base" ["base"] 2 (sp_need_base K) := by
  refine fc_X (st := s_need_base) T.d_need_base T.g_need_base sc_need_base (fun _ => rfl) (by decide) (fun _ _ _ _ _ _ us hl => match us, hl with | [_], _ => rfl) fun cdv A outer s H E hr O y hd => ?_
  refine dss_one (ds_ifd (k := !isW y 2 12) (dt_not (dt_val (de_f (y, 2, 12) (ok_is_whole T) rfl (da_cons (de_var 0 rfl rfl (.inl rfl)) (da_cons de_int (da_cons de_int da_nil))) trivial rfl))) (fun h => dss_one (ds_raise T.x_InvalidBase ?_ rfl)) fun h => dss_nil ?_)
  · show Out.ex _ = fNB K y
    unfold fNB
    cases e : isW y 2 12 with
    | true => rw [e] at h; cases h
    | false => rfl
  · show Out.rt _ = fNB K y
    unfold fNB
    cases e : isW y 2 12 with
    | true => rfl
    | false => rw [e] at h; cases h

theorem sc_good : FnScope ["base", "value", "one"] ["base", "value"] (defScope s_good) := ⟨rfl, rfl, rfl, by decide +kernel, rfl, by decide +kernel, by decide +kernel⟩
abbrev sp_good (K : PySem.W.Frag) : Sp := spF (α := Int × PyData) (fun x => [.int x.1, x.2]) (fun _ => True) (fun x => .rt (.bool (rowOk x.1 x.2)))
theorem ok_good (T : Txt K mg) : Fc P w K mg base "good" ["base", "value"] 2 (sp_good K) := by
  refine fc_X (st := s_good) T.d_good T.g_good sc_good (fun _ => rfl) (by decide) (fun _ _ _ _ _ _ us hl => match us, hl with | [_, _], _ => rfl) fun cdv A outer s H E hr O y hd => ?_
  obtain ⟨b, v⟩ := y
  refine dss_one (ds_retd (d := .bool (rowOk b v)) ?_ rfl)
  cases v with
  | tuple ds =>
    refine DE.to (de_and (k := true) (de_isi rfl T.n_isinstance rfl T.n_tuple b_tuple (de_var 1 rfl rfl (.inl rfl)) rfl) fun _ => de_and (k := decide ((1 : Int) ≤ ds.length) && decide ((ds.length : Int) ≤ 8)) (de_chain op_le op_le de_int (de_lenT rfl T.n_len (de_var 1 rfl rfl (.inl rfl))) (fun _ => de_int) rb_le fun _ => rb_le) fun h => de_one (P := fun x => x = .bool (ds.all fun d => isW d 0 (b - 1))) ?_) ?_
    · rw [Bool.and_eq_true, decide_eq_true_iff, decide_eq_true_iff] at h
      refine DE.to (de_all (bs := ds.map fun d => isW d 0 (b - 1)) rfl T.n_all (DE.to (de_lc 2 (fun d => .bool (isW d 0 (b - 1))) sc_good.nd (blkOk_by (by show blkC ["base", "value", "one"] (defScope s_good) _ _ = true; decide +kernel)) (dit_tup (de_var 1 rfl rfl (.inl rfl))) (by omega) (fun s H Cc cl fp => .inl rfl) rfl (fun k d hd s H Cc cl fp O' le' => de_f (d, 0, b - 1) (ok_is_whole T) rfl (da_cons (de_var 2 rfl rfl (.inl rfl)) (da_cons de_int (da_cons (de_sub (de_var 0 rfl rfl (.inr (.inl rfl))) de_int) da_nil))) trivial rfl) (fun a => rfl) (fun d a => rfl) (fun s H Cc cl fp => .inr rfl)) ?_)) ?_
      · rw [List.map_map]; rfl
      · rw [List.all_map]; rfl
    · rw [Bool.true_and]; rfl
  | _ => exact DE.to (de_and (k := false) (k' := false) (de_isi rfl T.n_isinstance rfl T.n_tuple b_tuple (de_var 1 rfl rfl (.inl rfl)) rfl) fun h => by cases h) rfl

theorem sc_need_row : FnScope ["base", "row"] ["base", "row"] (defScope s_need_row) := ⟨rfl, rfl, rfl, by decide +kernel, rfl, by decide +kernel, by decide +kernel⟩
abbrev sp_need_row (K : PySem.W.Frag) : Sp := spF (α := PyData × PyData) (fun x => [x.1, x.2]) (fun _ => True) (fun x => fNR K x.1 x.2)
theorem ok_need_row (T : Txt K mg) : Fc P w K mg base "need_row" ["base", "row"] 3 (sp_need_row K) := by
  refine fc_X (st := s_need_row) T.d_need_row T.g_need_row sc_need_row (fun _ => rfl) (by decide) (fun _ _ _ _ _ _ us hl => match us, hl with | [_, _], _ => rfl) fun cdv A outer s H E hr O y hd => ?_
  obtain ⟨b, v⟩ := y
  refine dss_cons (ds_call b (ok_need_base T) rfl (da_cons (de_var 0 rfl rfl (.inl rfl)) da_nil) trivial ?_)
  show thenO (fNB K b) _ _
  unfold fNB
  cases h : isW b 2 12 with
  | false =>
    rw [if_neg (by decide)]
    show Out.ex _ = fNR K b v
    unfold fNR
    rw [h, if_neg (by decide)]
  | true =>
    rw [if_pos rfl]
    obtain ⟨i, rfl, hi⟩ := base_iff.mp h
    refine dss_one (ds_ifd (dt_not (dt_val (de_f (i, v) (ok_good T) rfl (da_cons (de_var 0 rfl rfl (.inl rfl)) (da_cons (de_var 1 rfl rfl (.inl rfl)) da_nil)) trivial rfl))) (fun q => dss_one (ds_raise T.x_InvalidRow ?_ rfl)) fun q => dss_nil ?_)
    · show Out.ex _ = fNR K (.int i) v
      unfold fNR
      have q : rowOk i v = false := by cases e : rowOk i v with | false => rfl | true => rw [e] at q; cases q
      rw [h, if_pos rfl, q, if_neg (by decide)]; rfl
    · show Out.rt _ = fNR K (.int i) v
      unfold fNR
      have q : rowOk i v = true := by cases e : rowOk i v with | true => rfl | false => rw [e] at q; cases q
      rw [h, if_pos rfl, q, if_pos rfl]

theorem sc_number_from : FnScope ["base", "row", "found", "digit"] ["base", "row"] (defScope s_number_from) := ⟨rfl, rfl, rfl, by decide +kernel, rfl, by decide +kernel, by decide +kernel⟩
abbrev sp_number_from (K : PySem.W.Frag) : Sp := spF (α := Int × Bool × List Int) (fun x => [.int x.1, sq x.2.1 x.2.2]) (fun x => Base x.1 ∧ x.2.2.length ≤ 8 ∧ Dg x.1 x.2.2) (fun x => .rt (.int (numI x.1 x.2.2)))
theorem ok_number_from (T : Txt K mg) : Fc P w K mg base "number_from" ["base", "row"] 1 (sp_number_from K) := by
  refine fc_X (st := s_number_from) T.d_number_from T.g_number_from sc_number_from (fun _ => rfl) (by decide) (fun _ _ _ _ _ _ us hl => match us, hl with | [_, _], _ => rfl) fun cdv A outer s H E hr O y hd => ?_
  obtain ⟨b, t, ns⟩ := y
  obtain ⟨hb, hn, hd⟩ := hd
  simp only at hb hn hd
  refine dss_cons (ds_setd 2 de_int ?_ sc_number_from.nd rfl (.inl rfl))
  have it : ∀ (C : Ct) Ξ ρ tg e, DEd C Ξ ρ e (sq t ns) → DItd C Ξ ρ tg e (iv ns) := fun C Ξ ρ tg e h => by
    cases t with
    | true => exact dit_tup h
    | false => exact dit_list h
  refine dss_cons (ds_for (it _ _ _ _ _ (de_var 1 rfl rfl (.inl rfl))) (fun _ k ρ => ∃ sv, ρ = [.dat (.int b), .dat (sq t ns), .dat (.int (numI b (ns.take k))), sv]) (fun _ _ => ⟨.no, rfl⟩) (fun ds k d ρ' e hk _ => dg_name 3 sc_number_from.nd rfl (.inl rfl)) ?_ ?_ (passes_of rfl))
  · rintro ds k d ρ' rfl hk ⟨sv, rfl⟩
    obtain ⟨n, hk2, rfl⟩ := iv_at hk
    refine dss_one (ds_setd 2 (de_add (de_mul (de_var 2 rfl rfl (.inl rfl)) (de_var 0 rfl rfl (.inl rfl)) (.inr (by obtain ⟨h1, h2⟩ := hb; omega))) (de_var 3 rfl rfl (.inl rfl))) ⟨.dat (.int n), ?_⟩ sc_number_from.nd rfl (.inl rfl))
    rw [take_snoc hk2, numI_app]
    rfl
  · rintro ds ρ' rfl ⟨sv, rfl⟩
    refine dss_one (ds_retd (de_var 2 rfl rfl (.inl rfl)) ?_)
    show Out.rt _ = Out.rt _
    rw [iv_len, List.take_length]

theorem sc_written : FnScope ["base", "length", "number", "found", "turn", "digit"] ["base", "length", "number"] (defScope s_written) := ⟨rfl, rfl, rfl, by decide +kernel, rfl, by decide +kernel, by decide +kernel⟩
abbrev sp_written (K : PySem.W.Frag) : Sp := spF (α := Int × Nat × Int) (fun x => [.int x.1, .int x.2.1, .int x.2.2]) (fun x => Base x.1 ∧ x.2.1 ≤ 8) (fun x => .rt (tI (wrI x.1 x.2.1 x.2.2 [])))
theorem ok_written (T : Txt K mg) : Fc P w K mg base "written" ["base", "length", "number"] 1 (sp_written K) := by
  refine fc_X (st := s_written) T.d_written T.g_written sc_written (fun _ => rfl) (by decide) (fun _ _ _ _ _ _ us hl => match us, hl with | [_, _, _], _ => rfl) fun cdv A outer s H E hr O y hd => ?_
  obtain ⟨b, n, m⟩ := y
  obtain ⟨hb, hn⟩ := hd
  simp only at hb hn
  refine dss_cons (ds_setd 3 (de_tup da_nil) ?_ sc_written.nd rfl (.inl rfl))
  refine dss_cons (ds_for (dit_range rfl T.n_range (de_var 1 rfl rfl (.inl rfl)) (by simp only; omega)) (fun _ k ρ => k ≤ n ∧ ∃ m' acc s1 s2, wrI b (n - k) m' acc = wrI b n m [] ∧ acc.length = k ∧ ρ = [.dat (.int b), .dat (.int n), .dat (.int m'), .dat (tI acc), s1, s2]) (fun _ _ => ⟨Nat.zero_le _, m, [], .no, .no, rfl, rfl, rfl⟩) (fun ds k d ρ' e hk _ => dg_name 4 sc_written.nd rfl (.inl rfl)) ?_ ?_ (passes_of rfl))
  · rintro ds k d ρ' rfl hk ⟨hk1, m', acc, s1, s2, e, el, rfl⟩
    have hlt : k < n := by
      have := (List.getElem?_eq_some_iff.mp hk).1
      rw [rangeD_len] at this
      exact this
    obtain ⟨j, hj⟩ : ∃ j, n - k = j + 1 := ⟨n - k - 1, by omega⟩
    rw [hj] at e
    refine dss_cons (ds_pard 2 5 (da_cons (de_div (de_var 2 rfl rfl (.inl rfl)) (de_var 0 rfl rfl (.inl rfl)) ⟨by have := hb.1; omega, ?_⟩) (da_cons (de_mod (de_var 2 rfl rfl (.inl rfl)) (de_var 0 rfl rfl (.inl rfl)) (by have := hb.1; omega)) da_nil)) ?_ sc_written.nd rfl rfl (by decide) rfl rfl rfl)
    · have := hb.1
      have h2 : b.natAbs ≤ 12 := by have := hb.2; omega
      have : b.natAbs.log2 ≤ b.natAbs := by
        rcases Nat.eq_zero_or_pos b.natAbs with z | z
        · rw [z]; decide
        · exact Nat.le_of_lt (Nat.lt_of_lt_of_le Nat.lt_two_pow_self (Nat.log2_self_le (by omega)))
      omega
    refine dss_one (ds_setd 3 (de_catT (ys := iv acc) (de_tup (da_cons (de_var 5 rfl rfl (.inl rfl)) da_nil) (by show 1 ≤ _; omega)) (de_var 3 rfl rfl (.inl rfl)) (by rw [iv_len]; show 1 + acc.length ≤ _; omega)) ⟨hlt, m' / b, m' % b :: acc, _, _, ?_, by rw [List.length_cons, el], rfl⟩ sc_written.nd rfl (.inl rfl))
    have : n - (k + 1) = j := by omega
    rw [this]
    exact e
  · rintro ds ρ' rfl ⟨_, m', acc, s1, s2, e, el, rfl⟩
    refine dss_one (ds_retd (de_var 3 rfl rfl (.inl rfl)) ?_)
    show Out.rt _ = Out.rt _
    rw [rangeD_len, show n - (n : Int).toNat = 0 by omega] at e
    rw [← e]
    rfl

theorem sc_falling_of : FnScope ["row"] ["row"] (defScope s_falling_of) := ⟨rfl, rfl, rfl, by decide +kernel, rfl, by decide +kernel, by decide +kernel⟩
abbrev sp_falling_of (K : PySem.W.Frag) : Sp := spF (α := List Int) (fun x => [tI x]) (fun _ => True) (fun x => .rt (tI (falI x)))
theorem ok_falling_of (T : Txt K mg) : Fc P w K mg base "falling_of" ["row"] 1 (sp_falling_of K) := by
  refine fc_X (st := s_falling_of) T.d_falling_of T.g_falling_of sc_falling_of (fun _ => rfl) (by decide) (fun _ _ _ _ _ _ us hl => match us, hl with | [_], _ => rfl) fun cdv A outer s H E hr O y hd => ?_
  refine dss_one (ds_retd (DE.to (de_tupRev rfl T.n_tuple rfl T.n_reversed (de_sortT (Ct.un _) rfl T.n_sorted (de_var 0 rfl rfl (.inl rfl)) (can_iv _))) ?_) rfl)
  rw [sort_iv, iv_rev]
  rfl

theorem sc_stepped : FnScope ["base", "row"] ["base", "row"] (defScope s_stepped) := ⟨rfl, rfl, rfl, by decide +kernel, rfl, by decide +kernel, by decide +kernel⟩
abbrev sp_stepped (K : PySem.W.Frag) : Sp := spF (α := Int × List Int) (fun x => [.int x.1, tI x.2]) (fun x => Base x.1 ∧ Row x.1 x.2) (fun x => .rt (tI (stepI x.1 x.2)))
theorem ok_stepped (T : Txt K mg) : Fc P w K mg base "stepped" ["base", "row"] 3 (sp_stepped K) := by
  refine fc_X (st := s_stepped) T.d_stepped T.g_stepped sc_stepped (fun _ => rfl) (by decide) (fun _ _ _ _ _ _ us hl => match us, hl with | [_, _], _ => rfl) fun cdv A outer s H E hr O y hd => ?_
  obtain ⟨b, ns⟩ := y
  obtain ⟨hb, hr⟩ := hd
  simp only at hb hr
  have hl := hr.1
  refine dss_one (ds_retd (de_f (b, ns.length, numI b (falI ns) - numI b (srtI ns)) (ok_written T) rfl (da_cons (de_var 0 rfl rfl (.inl rfl)) (da_cons (DE.to (de_lenT rfl T.n_len (de_var 1 rfl rfl (.inl rfl))) (by rw [iv_len])) (da_cons (de_sub (de_f (b, true, falI ns) (ok_number_from T) rfl (da_cons (de_var 0 rfl rfl (.inl rfl)) (da_cons (de_f ns (ok_falling_of T) rfl (da_cons (de_var 1 rfl rfl (.inl rfl)) da_nil) trivial rfl) da_nil)) ⟨hb, by rw [falI_len]; exact hl.2, hr.2.fal⟩ rfl) (de_f (b, false, srtI ns) (ok_number_from T) rfl (da_cons (de_var 0 rfl rfl (.inl rfl)) (da_cons (DE.to (de_sortT (Ct.un _) rfl T.n_sorted (de_var 1 rfl rfl (.inl rfl)) (can_iv _)) (by rw [sort_iv]; rfl)) da_nil)) ⟨hb, by rw [srtI_len]; exact hl.2, hr.2.srt⟩ rfl)) da_nil))) ⟨hb, hl.2⟩ rfl) rfl)

theorem sc_later : FnScope ["base", "row", "steps", "turn"] ["base", "row", "steps"] (defScope s_later) := ⟨rfl, rfl, rfl, by decide +kernel, rfl, by decide +kernel, by decide +kernel⟩
abbrev sp_later (K : PySem.W.Frag) : Sp := spF (α := Int × List Int × Nat) (fun x => [.int x.1, tI x.2.1, .int x.2.2]) (fun x => Base x.1 ∧ Row x.1 x.2.1 ∧ x.2.2 ≤ 1000) (fun x => .rt (tI (orb x.1 x.2.1 x.2.2)))
theorem ok_later (T : Txt K mg) : Fc P w K mg base "later" ["base", "row", "steps"] 4 (sp_later K) := by
  refine fc_X (st := s_later) T.d_later T.g_later sc_later (fun _ => rfl) (by decide) (fun _ _ _ _ _ _ us hl => match us, hl with | [_, _, _], _ => rfl) fun cdv A outer s H E hr O y hd => ?_
  obtain ⟨b, r, n⟩ := y
  obtain ⟨hb, hr', hn⟩ := hd
  simp only at hb hr' hn
  have b1 : 1 ≤ b := by have := hb.1; omega
  refine dss_cons (ds_for (dit_range rfl T.n_range (de_var 2 rfl rfl (.inl rfl)) (by simp only; omega)) (fun _ k ρ => ∃ sv, ρ = [.dat (.int b), .dat (tI (orb b r k)), .dat (.int n), sv]) (fun _ _ => ⟨.no, rfl⟩) (fun ds k d ρ' e hk _ => dg_name 3 sc_later.nd rfl (.inl rfl)) ?_ ?_ (passes_of rfl))
  · rintro ds k d ρ' rfl hk ⟨sv, rfl⟩
    exact dss_one (ds_setd 1 (de_f (b, orb b r k) (ok_stepped T) rfl (da_cons (de_var 0 rfl rfl (.inl rfl)) (da_cons (de_var 1 rfl rfl (.inl rfl)) da_nil)) ⟨hb, orb_row b1 hr' k⟩ rfl) ⟨.dat d, rfl⟩ sc_later.nd rfl (.inl rfl))
  · rintro ds ρ' rfl ⟨sv, rfl⟩
    refine dss_one (ds_retd (de_var 1 rfl rfl (.inl rfl)) ?_)
    show Out.rt _ = Out.rt _
    rw [rangeD_len]
    rfl

def fNSt (K : PySem.W.Frag) (v : PyData) : Out := if isW v 0 100 = true then .rt .none else .ex (He.ga K "InvalidSteps")
theorem sc_need_steps : FnScope ["steps"] ["steps"] (defScope s_need_steps) := ⟨rfl, rfl, rfl, by decide +kernel, rfl, by decide +kernel, by decide +kernel⟩
abbrev sp_need_steps (K : PySem.W.Frag) : Sp := spF (α := PyData) (fun x => [x]) (fun _ => True) (fun x => fNSt K x)
theorem ok_need_steps (T : Txt K mg) : Fc P w K mg base "need_steps" ["steps"] 2 (sp_need_steps K) := by
  refine fc_X (st := s_need_steps) T.d_need_steps T.g_need_steps sc_need_steps (fun _ => rfl) (by decide) (fun _ _ _ _ _ _ us hl => match us, hl with | [_], _ => rfl) fun cdv A outer s H E hr O y hd => ?_
  refine dss_one (ds_ifd (k := !isW y 0 100) (dt_not (dt_val (de_f (y, 0, 100) (ok_is_whole T) rfl (da_cons (de_var 0 rfl rfl (.inl rfl)) (da_cons de_int (da_cons de_int da_nil))) trivial rfl))) (fun h => dss_one (ds_raise T.x_InvalidSteps ?_ rfl)) fun h => dss_nil ?_)
  · show Out.ex _ = fNSt K y
    unfold fNSt
    cases e : isW y 0 100 with
    | true => rw [e] at h; cases h
    | false => rfl
  · show Out.rt _ = fNSt K y
    unfold fNSt
    cases e : isW y 0 100 with
    | true => rfl
    | false => rw [e] at h; cases h

/-! ## the class Walk -/
def wk4 (x0 x1 x2 x3 : PyData) : Fds := [("base", x0), ("now", x1), ("earlier", x2), ("undone", x3)]
section
variable {x0 x1 x2 x3 d : PyData}
theorem wk_base : (wk4 x0 x1 x2 x3).lookup ("base" : Str) = some x0 := rfl
theorem wk_now : (wk4 x0 x1 x2 x3).lookup ("now" : Str) = some x1 := rfl
theorem wk_earlier : (wk4 x0 x1 x2 x3).lookup ("earlier" : Str) = some x2 := rfl
theorem wk_undone : (wk4 x0 x1 x2 x3).lookup ("undone" : Str) = some x3 := rfl
theorem wp_now : putFD "now" d (wk4 x0 x1 x2 x3) = wk4 x0 d x2 x3 := rfl
theorem wp_earlier : putFD "earlier" d (wk4 x0 x1 x2 x3) = wk4 x0 x1 d x3 := rfl
theorem wp_undone : putFD "undone" d (wk4 x0 x1 x2 x3) = wk4 x0 x1 x2 d := rfl
end
abbrev rowsP (l : List (List Int)) : PyData := .list (l.map tI)
/-- base, row, earlier, undone -/
abbrev WkS := Int × List Int × List (List Int) × List (List Int)
def wkF (z : WkS) : Fds := wk4 (.int z.1) (tI z.2.1) (rowsP z.2.2.1) (rowsP z.2.2.2)
structure WkOk (z : WkS) : Prop where
  hb : Base z.1
  hr : Row z.1 z.2.1
  few : z.2.2.1.length + z.2.2.2.length ≤ 1000
  he : ∀ r ∈ z.2.2.1, Row z.1 r
  hu : ∀ r ∈ z.2.2.2, Row z.1 r
def wkTo (z : WkS) (r : List Int) : WkS := (z.1, r, z.2.2.1 ++ [z.2.1], [])
theorem WkOk.to {z : WkS} (h : WkOk z) {r : List Int} (hr : Row z.1 r) (hl : z.2.2.1.length + z.2.2.2.length ≤ 999) : WkOk (wkTo z r) := by
  refine ⟨h.hb, hr, ?_, fun x hx => ?_, fun x hx => nomatch hx⟩
  · show (z.2.2.1 ++ [z.2.1]).length + 0 ≤ 1000
    rw [List.length_append]
    show z.2.2.1.length + 1 + 0 ≤ 1000
    omega
  · rcases List.mem_append.mp hx with hx | hx
    · exact h.he x hx
    · rw [List.mem_singleton.mp hx]; exact h.hr
abbrev wC (K : PySem.W.Frag) : Addr := He.ga K "Walk"
abbrev slotW (K : PySem.W.Frag) (q : Addr) (z : WkS) : SV := .thg q (objT (wC K) (wkF z))
theorem mt_of {α : Type} {enc : α → List PyData} {fs : α → Fds} {Dom : α → Prop} {R : α → OutM → Prop} {cl : Addr} {m qual : Str} {st : Stmt} {f : Addr} {N ps : List Str} {k : Nat} (D : ∃ fd, FunD K m qual (defArgs st) (defBody st) (defScope st) [] [] f fd) (hm : Meth K cl m f) (S : FnScope N ps (defScope st)) (hn : ∀ y, 1 + (enc y).length = ps.length) (hN : ps.length ≤ N.length)
    (hb : ∀ (kV doc pm : Value) (an : Option Addr) (cdv ct : Value) (us : List Value), us.length = ps.length → bindArgs (PySem.W.fnOf m qual (defArgs st) (defBody st) (defScope st) .none kV doc pm an cdv ct) ⟨us, []⟩ = pure (ps.zip us))
    (body : ∀ cdv A outer s H E hr O p (h : Pass O (fun _ => false) H p) y, Dom y → WSs (mC P w K mg base N qual (defScope st) f cdv A outer s H E k hr O (fun _ => false) p h) (outM 0 p cl (R y)) (.thg p (objT cl (fs y)) :: rho (N.length - 1) (enc y)) (defBody st)) : Mt P w K mg base cl m ps (k + 1) (spM cl noX enc fs Dom R) := by
  obtain ⟨fd, F⟩ := D
  refine ⟨f, fd, hm, FunD.bindsN F hb, fn_M (np := 0) F S (fun pre U H ⟨e, _⟩ => by rw [e]; rfl) (fun y => by rw [Nat.zero_add]; exact hn y) hN fun cdv A outer s H E hr O U p h y pre hd ⟨e1, e2⟩ => ?_⟩
  subst e1
  subst e2
  exact body cdv A outer s H E hr O p h y hd
/-! ### change -/
theorem sc_Walk_change : FnScope ["self", "row"] ["self", "row"] (defScope s_Walk_change) := ⟨rfl, rfl, rfl, by decide +kernel, rfl, by decide +kernel, by decide +kernel⟩
abbrev sp_change (K : PySem.W.Frag) : Sp := spM (α := WkS × List Int) (wC K) noX (fun y => [tI y.2]) (fun y => wkF y.1) (fun y => WkOk y.1) (fun y o => o = .rt (tI y.2) (wkF (wkTo y.1 y.2)))
theorem ok_change (T : Txt K mg) : Mt P w K mg base (wC K) "change" ["self", "row"] 1 (sp_change K) := by
  refine mt_of T.w_d_change T.w_m_change sc_Walk_change (fun _ => rfl) (by decide) (fun _ _ _ _ _ _ us hl => match us, hl with | [_, _], _ => rfl) fun cdv A outer s H E hr O p h y hd => ?_
  obtain ⟨z, r⟩ := y
  have hd : WkOk z := hd
  have hfew := hd.few
  refine ws_cons (ws_fld (P := fun d => d = rowsP (z.2.2.1 ++ [z.2.1])) 0 rfl rfl (.inl rfl) T.w_c T.w_na_earlier (by show 4 < 900; omega) (DE.to (de_catL (xs := z.2.2.1.map tI) (ys := [tI z.2.1]) (de_fld 0 rfl rfl (.inl rfl) T.w_c T.w_na_earlier rfl) (de_lst (da_cons (de_fld 0 rfl rfl (.inl rfl) T.w_c T.w_na_now rfl) da_nil) (by show 1 ≤ _; omega)) (by rw [List.length_map]; show z.2.2.1.length + 1 ≤ _; omega)) (by rw [rowsP, List.map_append]; rfl)) ?_)
  rintro d rfl
  refine ws_cons (ws_fld (P := fun d => d = rowsP []) 0 rfl rfl (.inl rfl) T.w_c T.w_na_undone (by show 4 < 900; omega) (de_lst da_nil) ?_)
  rintro d rfl
  refine ws_cons (ws_fld (P := fun d => d = tI r) 0 rfl rfl (.inl rfl) T.w_c T.w_na_now (by show 4 < 900; omega) (de_var 1 rfl rfl (.inl rfl)) ?_)
  rintro d rfl
  exact ws_one (ws_retd (de_var 1 rfl rfl (.inl rfl)) ⟨_, rfl, rfl⟩)
/-! ### row, len -/
theorem sc_Walk_row : FnScope ["self"] ["self"] (defScope s_Walk_row) := ⟨rfl, rfl, rfl, by decide +kernel, rfl, by decide +kernel, by decide +kernel⟩
abbrev sp_row (K : PySem.W.Frag) : Sp := spM (α := WkS) (wC K) noX (fun _ => []) wkF WkOk (fun z o => o = .rt (tI z.2.1) (wkF z))
theorem ok_row (T : Txt K mg) : Mt P w K mg base (wC K) "row" ["self"] 1 (sp_row K) := by
  refine mt_of T.w_d_row T.w_m_row sc_Walk_row (fun _ => rfl) (by decide) (fun _ _ _ _ _ _ us hl => match us, hl with | [_], _ => rfl) fun cdv A outer s H E hr O p h z hd => ?_
  exact ws_one (ws_retd (de_fld 0 rfl rfl (.inl rfl) T.w_c T.w_na_now rfl) ⟨_, rfl, rfl⟩)
theorem sc_Walk_len : FnScope ["self"] ["self"] (defScope s_Walk___len__) := ⟨rfl, rfl, rfl, by decide +kernel, rfl, by decide +kernel, by decide +kernel⟩
abbrev sp_wlen (K : PySem.W.Frag) : Sp := spM (α := WkS) (wC K) noX (fun _ => []) wkF WkOk (fun z o => o = .rt (.int (z.2.2.1.length : Int)) (wkF z))
theorem ok_wlen (T : Txt K mg) : Mt P w K mg base (wC K) "__len__" ["self"] 1 (sp_wlen K) := by
  refine mt_of T.w_d___len__ T.w_m___len__ sc_Walk_len (fun _ => rfl) (by decide) (fun _ _ _ _ _ _ us hl => match us, hl with | [_], _ => rfl) fun cdv A outer s H E hr O p h z hd => ?_
  exact ws_one (ws_retd (DE.to (de_lenL (ds := z.2.2.1.map tI) rfl T.n_len (de_fld 0 rfl rfl (.inl rfl) T.w_c T.w_na_earlier rfl)) (by rw [List.length_map])) ⟨_, rfl, rfl⟩)
theorem isW_int {v : PyData} {lo hi : Int} (h : isW v lo hi = true) : ∃ i : Int, v = .int i ∧ lo ≤ i ∧ i ≤ hi := by
  cases v with
  | int i =>
    unfold isW at h
    rw [Bool.and_eq_true, decide_eq_true_iff, decide_eq_true_iff] at h
    exact ⟨i, rfl, h⟩
  | _ => cases h
/-! ### put -/
theorem sc_Walk_put : FnScope ["self", "place", "digit"] ["self", "place", "digit"] (defScope s_Walk_put) := ⟨rfl, rfl, rfl, by decide +kernel, rfl, by decide +kernel, by decide +kernel⟩
def putI (r : List Int) (i : Nat) (d : Int) : List Int := r.take i ++ d :: r.drop (i + 1)
def putR (K : PySem.W.Frag) (z : WkS) (u v : PyData) : OutM := if isW u 0 ((z.2.1.length : Int) - 1) = true then (if isW v 0 (z.1 - 1) = true then .rt (tI (putI z.2.1 (unI u).toNat (unI v))) (wkF (wkTo z (putI z.2.1 (unI u).toNat (unI v)))) else .ex (He.ga K "InvalidDigit") (wkF z)) else .ex (He.ga K "InvalidPlace") (wkF z)
theorem put_row {b : Int} {r : List Int} {i : Nat} {d : Int} (h : Row b r) (hi : i < r.length) (hd : 0 ≤ d ∧ d < b) : Row b (putI r i d) := by
  refine ⟨?_, fun n hn => ?_⟩
  · unfold putI
    rw [List.length_append, List.length_cons, List.length_take, List.length_drop]
    have := h.1
    omega
  · unfold putI at hn
    rcases List.mem_append.mp hn with hn | hn
    · exact h.2 n (List.mem_of_mem_take hn)
    · rcases List.mem_cons.mp hn with rfl | hn
      · exact hd
      · exact h.2 n (List.mem_of_mem_drop hn)
abbrev sp_put (K : PySem.W.Frag) : Sp := spM (α := WkS × PyData × PyData) (wC K) noX (fun y => [y.2.1, y.2.2]) (fun y => wkF y.1) (fun y => WkOk y.1) (fun y o => o = putR K y.1 y.2.1 y.2.2)
theorem ok_put (T : Txt K mg) : Mt P w K mg base (wC K) "put" ["self", "place", "digit"] 2 (sp_put K) := by
  refine mt_of T.w_d_put T.w_m_put sc_Walk_put (fun _ => rfl) (by decide) (fun _ _ _ _ _ _ us hl => match us, hl with | [_, _, _], _ => rfl) fun cdv A outer s H E hr O p h y hd => ?_
  obtain ⟨z, u, v⟩ := y
  have hd : WkOk z := hd
  have hl := hd.hr.1
  refine ws_cons (ws_ifd (k := !isW u 0 ((z.2.1.length : Int) - 1)) (dt_not (dt_val (de_f (u, 0, (z.2.1.length : Int) - 1) (ok_is_whole T) rfl (da_cons (de_var 1 rfl rfl (.inl rfl)) (da_cons de_int (da_cons (de_sub (DE.to (de_lenT (ds := iv z.2.1) rfl T.n_len (de_fld 0 rfl rfl (.inl rfl) T.w_c T.w_na_now rfl)) (by rw [iv_len])) de_int) da_nil))) trivial rfl))) (fun hu => ws_one (ws_raise T.x_InvalidPlace ⟨_, rfl, ?_⟩ rfl)) fun hu => ws_nil ?_)
  · show _ = putR K z u v
    unfold putR
    rw [if_neg (by cases e : isW u 0 ((z.2.1.length : Int) - 1) with | false => decide | true => rw [e] at hu; cases hu)]
    rfl
  have hu : isW u 0 ((z.2.1.length : Int) - 1) = true := by cases e : isW u 0 ((z.2.1.length : Int) - 1) with | true => rfl | false => rw [e] at hu; cases hu
  refine ws_cons (ws_ifd (k := !isW v 0 (z.1 - 1)) (dt_not (dt_val (de_f (v, 0, z.1 - 1) (ok_is_whole T) rfl (da_cons (de_var 2 rfl rfl (.inl rfl)) (da_cons de_int (da_cons (de_sub (de_fld 0 rfl rfl (.inl rfl) T.w_c T.w_na_base rfl) de_int) da_nil))) trivial rfl))) (fun hv => ws_one (ws_raise T.x_InvalidDigit ⟨_, rfl, ?_⟩ rfl)) fun hv => ws_nil ?_)
  · show _ = putR K z u v
    unfold putR
    rw [if_pos hu, if_neg (by cases e : isW v 0 (z.1 - 1) with | false => decide | true => rw [e] at hv; cases hv)]
    rfl
  have hv : isW v 0 (z.1 - 1) = true := by cases e : isW v 0 (z.1 - 1) with | true => rfl | false => rw [e] at hv; cases hv
  obtain ⟨i, rfl, i0, i1⟩ := isW_int hu
  obtain ⟨i, rfl⟩ : ∃ j : Nat, i = (j : Int) := ⟨i.toNat, by omega⟩
  obtain ⟨g, rfl, g0, g1⟩ := isW_int hv
  have hrow : Row z.1 (putI z.2.1 i g) := put_row hd.hr (by omega) (by omega)
  refine ws_one (ws_retE (ew_meth 0 (z, putI z.2.1 i g) rfl (ok_change T) rfl (.inl rfl) T.w_c rfl (da_cons (DE.to (de_catT (xs := iv (z.2.1.take i ++ [g])) (ys := iv (z.2.1.drop (i + 1))) (DE.to (de_catT (xs := iv (z.2.1.take i)) (ys := [.int g]) (DE.to (de_slT (de_fld 0 rfl rfl (.inl rfl) T.w_c T.w_na_now rfl) do_none (do_some (de_var 1 rfl rfl (.inl rfl)))) ?_) (de_tup (da_cons (de_var 2 rfl rfl (.inl rfl)) da_nil) (by show 1 ≤ _; omega)) ?_) (by rw [iv_app]; rfl)) (DE.to (de_slT (de_fld 0 rfl rfl (.inl rfl) T.w_c T.w_na_now rfl) (do_some (de_add (de_var 1 rfl rfl (.inl rfl)) de_int)) do_none) ?_) ?_) ?_) da_nil) hd (fun d fs' e => ?_) (fun c fs' e => by cases e)))
  · rw [cutD_to (by rw [iv_len]; show i ≤ z.2.1.length; omega)]
    unfold iv
    rw [List.map_take]
  · rw [iv_len, List.length_take]; show _ + 1 ≤ _; omega
  · rw [show ((i : Int) + 1) = ((i + 1 : Nat) : Int) by omega, cutD_from (by rw [iv_len]; show i + 1 ≤ z.2.1.length; omega)]
    unfold iv
    rw [List.map_drop]
  · rw [iv_len, iv_len, List.length_append, List.length_take, List.length_drop]; show _ + 1 + _ ≤ _; omega
  · rw [← iv_app, List.append_assoc]
    rfl
  · injection e with e1 e2
    subst e1 e2
    refine ⟨_, rfl, ?_⟩
    show _ = putR K z (.int (i : Int)) (.int g)
    unfold putR
    rw [if_pos hu, if_pos hv]
    rfl
/-! ### undo, redo -/
def undoR (K : PySem.W.Frag) (z : WkS) : OutM := match z.2.2.1.getLast? with
  | some r => .rt (tI r) (wkF (z.1, r, z.2.2.1.dropLast, z.2.2.2 ++ [z.2.1]))
  | none => .ex (He.ga K "NothingToUndo") (wkF z)
def redoR (K : PySem.W.Frag) (z : WkS) : OutM := match z.2.2.2.getLast? with
  | some r => .rt (tI r) (wkF (z.1, r, z.2.2.1 ++ [z.2.1], z.2.2.2.dropLast))
  | none => .ex (He.ga K "NothingToUndo") (wkF z)
theorem all_map_rows (l : List (List Int)) : AllRows (l.map tI) := fun d hd => by obtain ⟨r, _, e⟩ := List.mem_map.mp hd; exact ⟨r, e.symm⟩
theorem sh_rowsP (l : List (List Int)) : SeqAt.shaped (rowsP l) = true := sh_rows (all_map_rows l)
theorem eqv_rowsP (l : List (List Int)) : PyData.eqv (rowsP l) (.list []) = decide (l = []) := by
  cases l with
  | nil => rfl
  | cons r l =>
    rw [decide_eq_false (by simp)]
    show PyData.eqv (.list (tI r :: l.map tI)) (.list []) = false
    rw [PyData.eqv, PyData.eqvAll]
theorem last_at {l : List (List Int)} {r : List Int} (h : l.getLast? = some r) : atI (l.map tI) (-1) = some (tI r) := by
  rw [List.getLast?_eq_getElem?] at h
  have hl : l ≠ [] := fun e => by rw [e] at h; cases h
  have hp := List.length_pos_iff.mpr hl
  unfold atI ixN
  rw [List.length_map, if_neg (by decide), if_pos (by omega)]
  rw [show ((-1 : Int) + (l.length : Int)).toNat = l.length - 1 by omega, Option.bind_some, List.getElem?_map, h]
  rfl
theorem cut_last (l : List (List Int)) : cutD (l.map tI) none (some (-1)) = l.dropLast.map tI := by
  unfold cutD
  rw [List.length_map, List.dropLast_eq_take, List.map_take]
  show ((l.map tI).drop (HT.sIx l.length 0 none)).take (HT.sIx l.length l.length (some (-1)) - HT.sIx l.length 0 none) = _
  have e1 : HT.sIx l.length 0 none = 0 := rfl
  have e2 : HT.sIx l.length l.length (some (-1)) = l.length - 1 := by
    unfold HT.sIx
    simp only
    split <;> omega
  rw [e1, e2]
  rfl
theorem sc_Walk_undo : FnScope ["self"] ["self"] (defScope s_Walk_undo) := ⟨rfl, rfl, rfl, by decide +kernel, rfl, by decide +kernel, by decide +kernel⟩
abbrev sp_undo (K : PySem.W.Frag) : Sp := spM (α := WkS) (wC K) noX (fun _ => []) wkF WkOk (fun z o => o = undoR K z)
theorem ok_undo (T : Txt K mg) : Mt P w K mg base (wC K) "undo" ["self"] 1 (sp_undo K) := by
  refine mt_of T.w_d_undo T.w_m_undo sc_Walk_undo (fun _ => rfl) (by decide) (fun _ _ _ _ _ _ us hl => match us, hl with | [_], _ => rfl) fun cdv A outer s H E hr O p h z hd => ?_
  have hd : WkOk z := hd
  have hfew := hd.few
  refine ws_cons (ws_ifd (k := decide (z.2.2.1 = [])) (DT.to (dt_eqD (sh_rowsP z.2.2.1) (y := .list []) rfl (de_fld 0 rfl rfl (.inl rfl) T.w_c T.w_na_earlier rfl) (de_lst da_nil)) (eqv_rowsP _)) (fun hu => ws_one (ws_raise T.x_NothingToUndo ⟨_, rfl, ?_⟩ rfl)) fun hu => ws_nil ?_)
  · show _ = undoR K z
    unfold undoR
    rw [of_decide_eq_true hu]
    rfl
  have hne := of_decide_eq_false hu
  obtain ⟨r, hr'⟩ : ∃ r, z.2.2.1.getLast? = some r := ⟨_, List.getLast?_eq_some_getLast hne⟩
  refine ws_cons (ws_fld (P := fun d => d = rowsP (z.2.2.2 ++ [z.2.1])) 0 rfl rfl (.inl rfl) T.w_c T.w_na_undone (by show 4 < 900; omega) (DE.to (de_catL (xs := z.2.2.2.map tI) (ys := [tI z.2.1]) (de_fld 0 rfl rfl (.inl rfl) T.w_c T.w_na_undone rfl) (de_lst (da_cons (de_fld 0 rfl rfl (.inl rfl) T.w_c T.w_na_now rfl) da_nil) (by show 1 ≤ _; omega)) (by rw [List.length_map]; show z.2.2.2.length + 1 ≤ _; omega)) (by rw [rowsP, List.map_append]; rfl)) ?_)
  rintro d rfl
  refine ws_cons (ws_fld (P := fun d => d = tI r) 0 rfl rfl (.inl rfl) T.w_c T.w_na_now (by show 4 < 900; omega) (de_ixL (ds := z.2.2.1.map tI) (i := -1) (de_fld 0 rfl rfl (.inl rfl) T.w_c T.w_na_earlier rfl) (de_neg de_int) (last_at hr')) ?_)
  rintro d rfl
  refine ws_cons (ws_fld (P := fun d => d = rowsP z.2.2.1.dropLast) 0 rfl rfl (.inl rfl) T.w_c T.w_na_earlier (by show 4 < 900; omega) (DE.to (de_slL (ds := z.2.2.1.map tI) (de_fld 0 rfl rfl (.inl rfl) T.w_c T.w_na_earlier rfl) do_none (do_some (de_neg de_int))) (by rw [cut_last])) ?_)
  rintro d rfl
  refine ws_one (ws_retd (de_fld 0 rfl rfl (.inl rfl) T.w_c T.w_na_now rfl) ⟨_, rfl, ?_⟩)
  show _ = undoR K z
  unfold undoR
  rw [hr']
  rfl
theorem sc_Walk_redo : FnScope ["self"] ["self"] (defScope s_Walk_redo) := ⟨rfl, rfl, rfl, by decide +kernel, rfl, by decide +kernel, by decide +kernel⟩
abbrev sp_redo (K : PySem.W.Frag) : Sp := spM (α := WkS) (wC K) noX (fun _ => []) wkF WkOk (fun z o => o = redoR K z)
theorem ok_redo (T : Txt K mg) : Mt P w K mg base (wC K) "redo" ["self"] 1 (sp_redo K) := by
  refine mt_of T.w_d_redo T.w_m_redo sc_Walk_redo (fun _ => rfl) (by decide) (fun _ _ _ _ _ _ us hl => match us, hl with | [_], _ => rfl) fun cdv A outer s H E hr O p h z hd => ?_
  have hd : WkOk z := hd
  have hfew := hd.few
  refine ws_cons (ws_ifd (k := decide (z.2.2.2 = [])) (DT.to (dt_eqD (sh_rowsP z.2.2.2) (y := .list []) rfl (de_fld 0 rfl rfl (.inl rfl) T.w_c T.w_na_undone rfl) (de_lst da_nil)) (eqv_rowsP _)) (fun hu => ws_one (ws_raise T.x_NothingToUndo ⟨_, rfl, ?_⟩ rfl)) fun hu => ws_nil ?_)
  · show _ = redoR K z
    unfold redoR
    rw [of_decide_eq_true hu]
    rfl
  have hne := of_decide_eq_false hu
  obtain ⟨r, hr'⟩ : ∃ r, z.2.2.2.getLast? = some r := ⟨_, List.getLast?_eq_some_getLast hne⟩
  refine ws_cons (ws_fld (P := fun d => d = rowsP (z.2.2.1 ++ [z.2.1])) 0 rfl rfl (.inl rfl) T.w_c T.w_na_earlier (by show 4 < 900; omega) (DE.to (de_catL (xs := z.2.2.1.map tI) (ys := [tI z.2.1]) (de_fld 0 rfl rfl (.inl rfl) T.w_c T.w_na_earlier rfl) (de_lst (da_cons (de_fld 0 rfl rfl (.inl rfl) T.w_c T.w_na_now rfl) da_nil) (by show 1 ≤ _; omega)) (by rw [List.length_map]; show z.2.2.1.length + 1 ≤ _; omega)) (by rw [rowsP, List.map_append]; rfl)) ?_)
  rintro d rfl
  refine ws_cons (ws_fld (P := fun d => d = tI r) 0 rfl rfl (.inl rfl) T.w_c T.w_na_now (by show 4 < 900; omega) (de_ixL (ds := z.2.2.2.map tI) (i := -1) (de_fld 0 rfl rfl (.inl rfl) T.w_c T.w_na_undone rfl) (de_neg de_int) (last_at hr')) ?_)
  rintro d rfl
  refine ws_cons (ws_fld (P := fun d => d = rowsP z.2.2.2.dropLast) 0 rfl rfl (.inl rfl) T.w_c T.w_na_undone (by show 4 < 900; omega) (DE.to (de_slL (ds := z.2.2.2.map tI) (de_fld 0 rfl rfl (.inl rfl) T.w_c T.w_na_undone rfl) do_none (do_some (de_neg de_int))) (by rw [cut_last])) ?_)
  rintro d rfl
  refine ws_one (ws_retd (de_fld 0 rfl rfl (.inl rfl) T.w_c T.w_na_now rfl) ⟨_, rfl, ?_⟩)
  show _ = redoR K z
  unfold redoR
  rw [hr']
  rfl

/-! ### go -/
theorem sc_Walk_go : FnScope ["self", "steps"] ["self", "steps"] (defScope s_Walk_go) := ⟨rfl, rfl, rfl, by decide +kernel, rfl, by decide +kernel, by decide +kernel⟩
def goR (K : PySem.W.Frag) (z : WkS) (v : PyData) : OutM := if isW v 0 100 = true then .rt (tI (orb z.1 z.2.1 (unI v).toNat)) (wkF (wkTo z (orb z.1 z.2.1 (unI v).toNat))) else .ex (He.ga K "InvalidSteps") (wkF z)
abbrev sp_go (K : PySem.W.Frag) : Sp := spM (α := WkS × PyData) (wC K) noX (fun y => [y.2]) (fun y => wkF y.1) (fun y => WkOk y.1) (fun y o => o = goR K y.1 y.2)
theorem ok_go (T : Txt K mg) : Mt P w K mg base (wC K) "go" ["self", "steps"] 5 (sp_go K) := by
  refine mt_of T.w_d_go T.w_m_go sc_Walk_go (fun _ => rfl) (by decide) (fun _ _ _ _ _ _ us hl => match us, hl with | [_, _], _ => rfl) fun cdv A outer s H E hr O p h y hd => ?_
  obtain ⟨z, v⟩ := y
  have hd : WkOk z := hd
  refine ws_cons (ws_call v (ok_need_steps T) rfl (da_cons (de_var 1 rfl rfl (.inl rfl)) da_nil) trivial ?_)
  show thenOW (fNSt K v) _ _
  unfold fNSt
  cases hv : isW v 0 100 with
  | false =>
    rw [if_neg (by decide)]
    refine ⟨_, rfl, ?_⟩
    show _ = goR K z v
    unfold goR
    rw [hv, if_neg (by decide)]
  | true =>
    rw [if_pos rfl]
    obtain ⟨n, rfl, n0, n1⟩ := isW_int hv
    have hrow : Row z.1 (orb z.1 z.2.1 n.toNat) := orb_row (by have := hd.hb.1; omega) hd.hr _
    refine ws_one (ws_retE (ew_meth 0 (z, orb z.1 z.2.1 n.toNat) rfl (ok_change T) rfl (.inl rfl) T.w_c rfl (da_cons (de_f (z.1, z.2.1, n.toNat) (ok_later T) rfl (da_cons (de_fld 0 rfl rfl (.inl rfl) T.w_c T.w_na_base rfl) (da_cons (de_fld 0 rfl rfl (.inl rfl) T.w_c T.w_na_now rfl) (da_cons (DE.to (de_var 1 rfl rfl (.inl rfl)) (show PyData.int n = .int ((n.toNat : Nat) : Int) by rw [Int.toNat_of_nonneg n0])) da_nil))) ⟨hd.hb, hd.hr, by show n.toNat ≤ 1000; omega⟩ rfl) da_nil) hd (fun d fs' e => ?_) (fun c fs' e => by cases e)))
    injection e with e1 e2
    subst e1 e2
    refine ⟨_, rfl, ?_⟩
    show _ = goR K z (.int n)
    unfold goR
    rw [hv, if_pos rfl]
    rfl

/-! ## the class Walk: what only reads, and making -/
theorem mtR_of {α : Type} {enc : α → List PyData} {fs : α → Fds} {Dom : α → Prop} {g : α → Out} {cl : Addr} {m qual : Str} {st : Stmt} {f : Addr} {N ps : List Str} {k : Nat} (D : ∃ fd, FunD K m qual (defArgs st) (defBody st) (defScope st) [] [] f fd) (hm : Meth K cl m f) (S : FnScope N ps (defScope st)) (hn : ∀ y, (enc y).length + 1 = ps.length) (hN : ps.length ≤ N.length) (hg : ∀ y, Dom y → (∃ d, g y = .rt d) ∨ ∃ c, g y = .ex c)
    (hb : ∀ (kV doc pm : Value) (an : Option Addr) (cdv ct : Value) (us : List Value), us.length = ps.length → bindArgs (PySem.W.fnOf m qual (defArgs st) (defBody st) (defScope st) .none kV doc pm an cdv ct) ⟨us, []⟩ = pure (ps.zip us))
    (body : ∀ cdv A outer s H E hr O p y, Dom y → ObjAt cl (fs y) (hid O H) H p → DSs (fnC P w K mg base N qual (defScope st) f cdv A outer s H E k hr O) (fun o => o = g y) (.raw (.ref p) :: rho (N.length - 1) (enc y)) (defBody st)) : Mt P w K mg base cl m ps (k + 1) (spR cl enc fs Dom g) := by
  obtain ⟨fd, F⟩ := D
  exact ⟨f, fd, hm, FunD.bindsN F hb, fn_R F S hn hN hg body⟩
abbrev spr_row (K : PySem.W.Frag) : Sp := spR (α := WkS) (wC K) (fun _ => []) wkF WkOk (fun z => .rt (tI z.2.1))
theorem rd_row (T : Txt K mg) : Mt P w K mg base (wC K) "row" ["self"] 1 (spr_row K) := by
  refine mtR_of T.w_d_row T.w_m_row sc_Walk_row (fun _ => rfl) (by decide) (fun z _ => .inl ⟨_, rfl⟩) (fun _ _ _ _ _ _ us hl => match us, hl with | [_], _ => rfl) fun cdv A outer s H E hr O p z hd ho => ?_
  exact dss_one (ds_retd (de_fldR 0 rfl rfl ho rfl (.inl rfl) T.w_c T.w_na_now rfl) rfl)
abbrev spr_wlen (K : PySem.W.Frag) : Sp := spR (α := WkS) (wC K) (fun _ => []) wkF WkOk (fun z => .rt (.int (z.2.2.1.length : Int)))
theorem rd_wlen (T : Txt K mg) : Mt P w K mg base (wC K) "__len__" ["self"] 1 (spr_wlen K) := by
  refine mtR_of T.w_d___len__ T.w_m___len__ sc_Walk_len (fun _ => rfl) (by decide) (fun z _ => .inl ⟨_, rfl⟩) (fun _ _ _ _ _ _ us hl => match us, hl with | [_], _ => rfl) fun cdv A outer s H E hr O p z hd ho => ?_
  exact dss_one (ds_retd (DE.to (de_lenL (ds := z.2.2.1.map tI) rfl T.n_len (de_fldR 0 rfl rfl ho rfl (.inl rfl) T.w_c T.w_na_earlier rfl)) (by rw [List.length_map])) rfl)
def putX (K : PySem.W.Frag) (z : WkS) (u : PyData) : Out := if isW u 0 ((z.2.1.length : Int) - 1) = true then .ex (He.ga K "InvalidDigit") else .ex (He.ga K "InvalidPlace")
abbrev spr_put (K : PySem.W.Frag) : Sp := spR (α := WkS × PyData × PyData) (wC K) (fun y => [y.2.1, y.2.2]) (fun y => wkF y.1) (fun y => WkOk y.1 ∧ (isW y.2.1 0 ((y.1.2.1.length : Int) - 1) && isW y.2.2 0 (y.1.1 - 1)) = false) (fun y => putX K y.1 y.2.1)
theorem rd_put (T : Txt K mg) : Mt P w K mg base (wC K) "put" ["self", "place", "digit"] 2 (spr_put K) := by
  refine mtR_of T.w_d_put T.w_m_put sc_Walk_put (fun _ => rfl) (by decide) (fun y _ => .inr (by show ∃ c, putX K y.1 y.2.1 = _; unfold putX; split <;> exact ⟨_, rfl⟩)) (fun _ _ _ _ _ _ us hl => match us, hl with | [_, _, _], _ => rfl) fun cdv A outer s H E hr O p y hd ho => ?_
  obtain ⟨z, u, v⟩ := y
  obtain ⟨hd, hno⟩ := hd
  simp only at hd hno ho
  have hl := hd.hr.1
  refine dss_cons (ds_ifd (k := !isW u 0 ((z.2.1.length : Int) - 1)) (dt_not (dt_val (de_f (u, 0, (z.2.1.length : Int) - 1) (ok_is_whole T) rfl (da_cons (de_var 1 rfl rfl (.inl rfl)) (da_cons de_int (da_cons (de_sub (DE.to (de_lenT (ds := iv z.2.1) rfl T.n_len (de_fldR 0 rfl rfl ho rfl (.inl rfl) T.w_c T.w_na_now rfl)) (by rw [iv_len])) de_int) da_nil))) trivial rfl))) (fun hu => dss_one (ds_raise T.x_InvalidPlace ?_ rfl)) fun hu => dss_nil ?_)
  · show Out.ex _ = putX K z u
    unfold putX
    rw [if_neg (by cases e : isW u 0 ((z.2.1.length : Int) - 1) with | false => decide | true => rw [e] at hu; cases hu)]
    rfl
  have hu : isW u 0 ((z.2.1.length : Int) - 1) = true := by cases e : isW u 0 ((z.2.1.length : Int) - 1) with | true => rfl | false => rw [e] at hu; cases hu
  rw [hu, Bool.true_and] at hno
  refine dss_cons (ds_ifd (k := !isW v 0 (z.1 - 1)) (dt_not (dt_val (de_f (v, 0, z.1 - 1) (ok_is_whole T) rfl (da_cons (de_var 2 rfl rfl (.inl rfl)) (da_cons de_int (da_cons (de_sub (de_fldR 0 rfl rfl ho rfl (.inl rfl) T.w_c T.w_na_base rfl) de_int) da_nil))) trivial rfl))) (fun hv => dss_one (ds_raise T.x_InvalidDigit ?_ rfl)) fun hv => ?_)
  · show Out.ex _ = putX K z u
    unfold putX
    rw [if_pos hu]
    rfl
  · rw [hno] at hv; cases hv
abbrev spr_redo (K : PySem.W.Frag) : Sp := spR (α := WkS) (wC K) (fun _ => []) wkF (fun z => z.2.2.2 = []) (fun _ => .ex (He.ga K "NothingToUndo"))
theorem rd_redo (T : Txt K mg) : Mt P w K mg base (wC K) "redo" ["self"] 1 (spr_redo K) := by
  refine mtR_of T.w_d_redo T.w_m_redo sc_Walk_redo (fun _ => rfl) (by decide) (fun z _ => .inr ⟨_, rfl⟩) (fun _ _ _ _ _ _ us hl => match us, hl with | [_], _ => rfl) fun cdv A outer s H E hr O p z hd ho => ?_
  have hd : z.2.2.2 = [] := hd
  exact dss_cons (ds_ifd (k := true) (DT.to (dt_eqD (sh_rowsP z.2.2.2) (y := .list []) rfl (de_fldR 0 rfl rfl ho rfl (.inl rfl) T.w_c T.w_na_undone rfl) (de_lst da_nil)) (by rw [eqv_rowsP, hd]; rfl)) (fun _ => dss_one (ds_raise T.x_NothingToUndo rfl rfl)) fun h => by cases h)
/-! ### __init__ -/
theorem sc_Walk_init : FnScope ["self", "base", "row"] ["self", "base", "row"] (defScope s_Walk___init__) := ⟨rfl, rfl, rfl, by decide +kernel, rfl, by decide +kernel, by decide +kernel⟩
def iniR (K : PySem.W.Frag) (b v : PyData) (o : OutM) : Prop := match fNR K b v with
  | .ex c => ∃ fs, o = .ex c fs
  | _ => o = .rt .none (wk4 b v (rowsP []) (rowsP []))
theorem iniR_ok {b : Int} {r : List Int} (hb : Base b) (hr : Row b r) {o : OutM} (h : iniR K (.int b) (tI r) o) : o = .rt .none (wkF (b, r, [], [])) := by
  unfold iniR at h
  rw [fNR_ok hb hr] at h
  exact h
abbrev sp_ini (K : PySem.W.Frag) : Sp := spM (α := PyData × PyData) (wC K) noX (fun y => [y.1, y.2]) (fun _ => []) (fun _ => True) (fun y o => iniR K y.1 y.2 o)
theorem ok_ini (T : Txt K mg) : Ini P w K mg base (wC K) ["self", "base", "row"] 4 (sp_ini K) := by
  obtain ⟨fd, F⟩ := T.w_d___init__
  refine ⟨_, fd, T.w_k, FunD.bindsN F (fun _ _ _ _ _ _ us hl => match us, hl with | [_, _, _], _ => rfl), fn_M (np := 0) F sc_Walk_init (fun pre U H ⟨e, _⟩ => by rw [e]; rfl) (fun y => rfl) (by decide) fun cdv A outer s H E hr O U p h y pre hd ⟨e1, e2⟩ => ?_⟩
  subst e1
  subst e2
  obtain ⟨b, v⟩ := y
  refine ws_cons (ws_call (b, v) (ok_need_row T) rfl (da_cons (de_var 1 rfl rfl (.inl rfl)) (da_cons (de_var 2 rfl rfl (.inl rfl)) da_nil)) trivial ?_)
  show thenOW (fNR K b v) _ _
  have key : (∃ c, fNR K b v = .ex c) ∨ fNR K b v = .rt .none := by
    unfold fNR
    repeat' split
    all_goals first | exact .inr rfl | exact .inl ⟨_, rfl⟩
  rcases key with ⟨c, e⟩ | e
  · rw [e]
    refine ⟨_, rfl, ?_⟩
    show iniR K b v _
    unfold iniR
    rw [e]
    exact ⟨_, rfl⟩
  · rw [e]
    refine ws_cons (ws_fld (P := fun d => d = b) 0 rfl rfl (.inl rfl) T.w_c T.w_na_base (by show 0 < 900; omega) (de_var 1 rfl rfl (.inl rfl)) ?_)
    rintro d rfl
    refine ws_cons (ws_fld (P := fun d => d = v) 0 rfl rfl (.inl rfl) T.w_c T.w_na_now (by show 1 < 900; omega) (de_var 2 rfl rfl (.inl rfl)) ?_)
    rintro d rfl
    refine ws_cons (ws_fld (P := fun d => d = rowsP []) 0 rfl rfl (.inl rfl) T.w_c T.w_na_earlier (by show 2 < 900; omega) (de_lst da_nil) ?_)
    rintro d rfl
    refine ws_one (ws_fld (P := fun d => d = rowsP []) 0 rfl rfl (.inl rfl) T.w_c T.w_na_undone (by show 3 < 900; omega) (de_lst da_nil) ?_)
    rintro x rfl
    refine ⟨_, rfl, ?_⟩
    show iniR K _ _ _
    unfold iniR
    rw [e]
    rfl

abbrev spr_go (K : PySem.W.Frag) : Sp := spR (α := WkS × PyData) (wC K) (fun y => [y.2]) (fun y => wkF y.1) (fun y => isW y.2 0 100 = false) (fun _ => .ex (He.ga K "InvalidSteps"))
theorem rd_go (T : Txt K mg) : Mt P w K mg base (wC K) "go" ["self", "steps"] 3 (spr_go K) := by
  refine mtR_of T.w_d_go T.w_m_go sc_Walk_go (fun _ => rfl) (by decide) (fun y _ => .inr ⟨_, rfl⟩) (fun _ _ _ _ _ _ us hl => match us, hl with | [_, _], _ => rfl) fun cdv A outer s H E hr O p y hd ho => ?_
  obtain ⟨z, v⟩ := y
  have hd : isW v 0 100 = false := hd
  refine dss_cons (ds_call v (ok_need_steps T) rfl (da_cons (de_var 1 rfl rfl (.inl rfl)) da_nil) trivial ?_)
  show thenO (fNSt K v) _ _
  unfold fNSt
  rw [hd, if_neg (by decide)]
  rfl
end DD

namespace DD
open PySem L2
variable [Nu] {P : Program} {w : World} {K : PySem.W.Frag} {mg : Str → Option Value} {base : Heap}
def anyI : PyData → Prop := fun d => ∃ i, d = .int i
/-! ## _law_cell -/
theorem sc__law_cell : FnScope ["_law_script", "_law_k"] ["_law_script", "_law_k"] (defScope s__law_cell) := ⟨rfl, rfl, rfl, by decide +kernel, rfl, by decide +kernel, by decide +kernel⟩
theorem toDI {C : Ct} {Ξ : Addr → Prop} {ρ : Rho} {e : Expr} {i : Int} (h : DEd C Ξ ρ e (.int i)) : DI C Ξ ρ e fun _ => True := h.imp fun _ e => ⟨i, e, trivial⟩
theorem DE.any {C : Ct} {Ξ : Addr → Prop} {ρ : Rho} {e : Expr} {A : Int → Prop} (h : DI C Ξ ρ e A) : DE C Ξ ρ e anyI := h.imp fun _ ⟨i, e, _⟩ => ⟨i, e⟩
abbrev sp__law_cell (K : PySem.W.Frag) : Sp := spS (α := Nat) (fun k => [.int k]) (fun ns _ => ns.length ≤ 100) (fun _ => anyI) K
theorem ok__law_cell (T : Txt K mg) : Fc P w K mg base "_law_cell" ["_law_script", "_law_k"] 1 (sp__law_cell K) := by
  refine fc_S (st := s__law_cell) T.d__law_cell T.g__law_cell sc__law_cell (fun _ => rfl) (by decide) (fun _ _ _ _ _ _ us hl => match us, hl with | [_, _], _ => rfl) fun cdv A outer s H E hr O y a ns hd hq => ?_
  refine dss_cons (ds_ifd (de_nilS 0 rfl rfl hq rfl (.inl rfl)) (fun h => dss_one (ds_ret (DE.any (toDI (de_mul (de_var 1 rfl rfl (.inl rfl)) de_int (.inr (by decide))))) fun d r => ⟨d, rfl, r⟩)) fun h => dss_nil ?_)
  have hne : ns ≠ [] := of_decide_eq_false h
  have hl : 0 < ns.length := List.length_pos_iff.mpr hne
  have hlen : ns.length ≤ 100 := hd
  have h1 : (0 : Int) ≤ (y : Int) % ns.length ∧ (y : Int) % ns.length < ns.length := ⟨Int.emod_nonneg _ (by omega), Int.emod_lt_of_pos _ (by omega)⟩
  obtain ⟨n, hn⟩ : ∃ n, atI ns ((y : Int) % ns.length) = some n := by
    refine ⟨ns[((y : Int) % ns.length).toNat]'(by omega), ?_⟩
    unfold atI ixN
    rw [if_pos h1.1, if_pos (by omega)]
    exact List.getElem?_eq_getElem _
  refine dss_one (ds_ret (DE.any (toDI (de_add (de_ixScr 0 hn rfl rfl hq rfl (.inl rfl) (de_mod (de_var 1 rfl rfl (.inl rfl)) (de_lenScr 0 rfl rfl hq rfl (.inl rfl) rfl T.n_len) (by omega))) (de_mul (de_div (de_var 1 rfl rfl (.inl rfl)) (de_lenScr 0 rfl rfl hq rfl (.inl rfl) rfl T.n_len) ⟨by omega, ?_⟩) de_int (.inr (by decide)))))) fun d r => ⟨d, rfl, r⟩)
  have : ((ns.length : Int).natAbs).log2 ≤ ns.length := by
    rw [Int.natAbs_natCast]
    exact Nat.le_of_lt (Nat.lt_of_lt_of_le Nat.lt_two_pow_self (Nat.log2_self_le (by omega)))
  omega
/-! ## _law_drawn -/
theorem sc__law_drawn : FnScope ["_law_cell_here", "_law_k", "_law_more"] ["_law_cell_here", "_law_k"] (defScope s__law_drawn) := ⟨rfl, rfl, rfl, by decide +kernel, rfl, by decide +kernel, by decide +kernel⟩
abbrev sp__law_drawn (K : PySem.W.Frag) : Sp := spX (α := Int × Int) (fun x => [.int x.1, .int x.2]) (fun _ => True) (fun _ o => ∃ i : Int, o = .rt (.int i))
theorem ok__law_drawn (T : Txt K mg) : Fc P w K mg base "_law_drawn" ["_law_cell_here", "_law_k"] 1 (sp__law_drawn K) := by
  refine fc_X (st := s__law_drawn) T.d__law_drawn T.g__law_drawn sc__law_drawn (fun _ => rfl) (by decide) (fun _ _ _ _ _ _ us hl => match us, hl with | [_, _], _ => rfl) fun cdv A outer s H E hr O y hd => ?_
  obtain ⟨c, k⟩ := y
  have lg : ∀ {m b : Int} {n : Nat}, 0 ≤ m → m < b → b = 2 ^ n → m.natAbs.log2 ≤ n := fun {m b n} h0 h1 hb => by
    by_cases hz : m.natAbs = 0
    · rw [hz]; exact Nat.zero_le _
    · have : m.natAbs < 2 ^ n := by
        have : (m.natAbs : Int) < (2 ^ n : Nat) := by rw [Int.natAbs_of_nonneg h0]; rw [hb] at h1; simpa using h1
        exact Int.ofNat_lt.mp this
      exact Nat.le_of_lt ((Nat.log2_lt hz).mpr this)
  refine dss_cons (ds_set 2 (P := fun d => ∃ m : Int, d = .int m ∧ 0 ≤ m ∧ m < 340282366920938463463374607431768211507) ((de_mod (de_add (de_mul (de_var 0 rfl rfl (.inl rfl)) de_int (.inr (by decide))) (de_mul (de_add (de_var 1 rfl rfl (.inl rfl)) de_int) de_int (.inr (by decide)))) de_int (by decide)).imp fun d e => ⟨_, e, Int.emod_nonneg _ (by decide), Int.emod_lt_of_pos _ (by decide)⟩) ?_ sc__law_drawn.nd rfl (.inl rfl))
  rintro d ⟨m, rfl, m0, m1⟩
  have l1 := lg (b := 2 ^ 130) (n := 130) m0 (by omega) (by simp)
  refine dss_cons (ds_set 2 (P := fun d => ∃ m : Int, d = .int m ∧ 0 ≤ m ∧ m < 340282366920938463463374607431768211297) ((de_mod (de_mulW (de_var 2 rfl rfl (.inl rfl)) (de_var 2 rfl rfl (.inl rfl)) (show m.natAbs.log2 + m.natAbs.log2 < 1000000 by omega)) de_int (by decide)).imp fun d e => ⟨_, e, Int.emod_nonneg _ (by decide), Int.emod_lt_of_pos _ (by decide)⟩) ?_ sc__law_drawn.nd rfl (.inl rfl))
  rintro d ⟨m2, rfl, n0, n1⟩
  have k0 : 0 ≤ m2 % 18446744073709551557 ∧ m2 % 18446744073709551557 < 18446744073709551557 := ⟨Int.emod_nonneg _ (by decide), Int.emod_lt_of_pos _ (by decide)⟩
  have k1 : 0 ≤ m2 / 18446744073709551557 ∧ m2 / 18446744073709551557 < 2 ^ 70 := ⟨Int.ediv_nonneg n0 (by decide), Int.ediv_lt_of_lt_mul (by decide) (by omega)⟩
  have b1 := lg (m := m2 % 18446744073709551557 + 1) (b := 2 ^ 65) (n := 65) (by omega) (by omega) (by simp)
  have b2 := lg (m := m2 / 18446744073709551557 + 1) (b := 2 ^ 71) (n := 71) (by omega) (by omega) (by simp)
  have b3 := lg (m := m2) (b := 2 ^ 130) (n := 130) n0 (by omega) (by simp)
  have b4 : ((m2 % 18446744073709551557 + 1) * (m2 / 18446744073709551557 + 1)).natAbs.log2 ≤ 136 := by
    refine lg (b := 2 ^ 136) (Int.mul_nonneg (by omega) (by omega)) ?_ (by simp)
    have : (m2 % 18446744073709551557 + 1) * (m2 / 18446744073709551557 + 1) ≤ 18446744073709551557 * (m2 / 18446744073709551557 + 1) := Int.mul_le_mul_of_nonneg_right (by omega) (by omega)
    omega
  refine dss_cons (ds_set 2 (P := anyI) ((de_mulW (de_mulW (de_add (de_mod (de_var 2 rfl rfl (.inl rfl)) de_int (by decide)) de_int) (de_add (de_div (de_var 2 rfl rfl (.inl rfl)) de_int ⟨by decide, by decide +kernel⟩) de_int) (show _ + _ < 1000000 by omega)) (de_var 2 rfl rfl (.inl rfl)) (show _ + _ < 1000000 by omega)).imp fun d e => ⟨_, e⟩) ?_ sc__law_drawn.nd rfl (.inl rfl))
  rintro d ⟨m3, rfl⟩
  exact dss_one (ds_ret (DE.any (toDI (de_mod (de_var 2 rfl rfl (.inl rfl)) de_int (by decide)))) fun d r => by obtain ⟨i, e⟩ := r; exact ⟨i, by rw [e]⟩)
/-! ## _law_roll -/
theorem log_small {m : Int} (h0 : 0 < m) (h1 : m ≤ 1000000) : m.natAbs.log2 < 9000 := by
  have : m.natAbs.log2 ≤ 20 := by
    have := (Nat.log2_lt (n := m.natAbs) (k := 21) (by omega)).mpr (by omega)
    omega
  omega
theorem sc__law_roll : FnScope ["_law_dice", "_law_many", "_law_told_here"] ["_law_dice", "_law_many"] (defScope s__law_roll) := ⟨rfl, rfl, rfl, by decide +kernel, rfl, by decide +kernel, by decide +kernel⟩
abbrev sp__law_roll : Sp := spC (α := Int) (fun m => [.int m]) (fun m => 0 < m ∧ m ≤ 1000000) (fun m d => ∃ r : Int, d = .int r ∧ 0 ≤ r ∧ r < m)
theorem ok__law_roll (T : Txt K mg) : Fc P w K mg base "_law_roll" ["_law_dice", "_law_many"] 2 sp__law_roll := by
  refine fc_C (st := s__law_roll) T.d__law_roll T.g__law_roll sc__law_roll (fun _ => rfl) (by decide) (fun _ _ _ _ _ _ us hl => match us, hl with | [_, _], _ => rfl) fun cdv A outer s H E hr O m a hd hc => ?_
  obtain ⟨h0, h1⟩ := hd
  have hU : (dicC P w K mg base ["_law_dice", "_law_many", "_law_told_here"] "_law_roll" (defScope s__law_roll) (He.ga K "_law_roll") cdv A outer s H E 1 hr O a).U a = true := beq_self_eq_true a
  refine dss_cons (ds_if (B := fun _ => True) ((dt_cmpI op_ge rfl (di_cell 0 (by decide) (by decide) rfl hU hc rfl (.inl rfl) de_int) (de_pow de_int de_int ⟨by decide, by decide, by decide⟩) (fun i _ => rb_ge)).imp fun _ _ => trivial) (fun _ => ?_) fun _ => dss_nil ?_)
  · refine dss_cons (ds_set 2 (P := fun d => ∃ r : Int, d = .int r ∧ 0 ≤ r ∧ r < m) ((di_mod (di_cell 0 (by decide) (by decide) rfl hU hc rfl (.inl rfl) de_int) (DE.toI (de_var 1 rfl rfl (.inl rfl))) (fun j e => by rw [e]; exact h0)).imp fun d ⟨k, e, i, j, _, ej, ek⟩ => ⟨k, e, by rw [ek, ej]; exact ⟨Int.emod_nonneg _ (by omega), Int.emod_lt_of_pos _ h0⟩⟩) ?_ sc__law_roll.nd rfl (.inl rfl))
    rintro d ⟨r, rfl, r0, r1⟩
    refine dss_cons (ds_cell 0 (by decide) (by decide) rfl hU hc rfl (.inl rfl) (di_div (di_cell 0 (by decide) (by decide) rfl hU hc rfl (.inl rfl) de_int) (de_var 1 rfl rfl (.inl rfl)) ⟨h0, log_small h0 h1⟩) ?_)
    exact dss_one (ds_retd (de_var 2 rfl rfl (.inl rfl)) ⟨_, rfl, r, rfl, r0, r1⟩)
  · refine dss_cons (ds_cell 0 (by decide) (by decide) rfl hU hc rfl (.inl rfl) ((di_add (di_cell 0 (by decide) (by decide) rfl hU hc rfl (.inl rfl) de_int) (DE.toI de_int)).imp fun d ⟨k, e, _⟩ => ⟨k, e, trivial⟩) ?_)
    refine dss_one (ds_ret (P := fun d => ∃ r : Int, d = .int r ∧ 0 ≤ r ∧ r < m) ((di_mod (di_div (A := fun _ => True) (C := dicC P w K mg base ["_law_dice", "_law_many", "_law_told_here"] "_law_roll" (defScope s__law_roll) (He.ga K "_law_roll") cdv A outer s H E 1 hr O a) ?_ de_int ⟨by decide, by decide +kernel⟩) (DE.toI (de_var 1 rfl rfl (.inl rfl))) (fun j e => by rw [e]; exact h0)).imp fun d ⟨k, e, i, j, _, ej, ek⟩ => ⟨k, e, by rw [ek, ej]; exact ⟨Int.emod_nonneg _ (by omega), Int.emod_lt_of_pos _ h0⟩⟩) fun d r => ⟨d, rfl, r⟩)
    exact di_call2 (ok__law_drawn T) (Nat.le_of_ble_eq_true rfl) rfl (di_cell 0 (by decide) (by decide) rfl hU hc rfl (.inl rfl) de_int) (di_cell 0 (by decide) (by decide) rfl hU hc rfl (.inl rfl) de_int) (fun i j => trivial)
/-! ## _law_rounds -/
theorem sc__law_rounds : FnScope ["_law_script", "_law_most", "_law_k"] ["_law_script", "_law_most"] (defScope s__law_rounds) := ⟨rfl, rfl, rfl, by decide +kernel, rfl, by decide +kernel, by decide +kernel⟩
abbrev sp__law_rounds (K : PySem.W.Frag) : Sp := spS (α := Int) (fun m => [.int m]) (fun ns m => ns.length ≤ 100 ∧ 1 ≤ m ∧ m ≤ 100) (fun _ d => ∃ cs : List Int, d = .list (cs.map dcD)) K
theorem ok__law_rounds (T : Txt K mg) : Fc P w K mg base "_law_rounds" ["_law_script", "_law_most"] 2 (sp__law_rounds K) := by
  refine fc_S (st := s__law_rounds) T.d__law_rounds T.g__law_rounds sc__law_rounds (fun _ => rfl) (by decide) (fun _ _ _ _ _ _ us hl => match us, hl with | [_, _], _ => rfl) fun cdv A outer s H E hr O m a ns hd hq => ?_
  obtain ⟨hl, h1, h2⟩ := hd
  refine dss_one (ds_ret (P := fun d => ∃ cs : List Int, d = .list (cs.map dcD)) (DE.imp (de_lcG (js := [2]) (ρ1 := fun d => [.raw (.ref a), .dat (.int m), .dat d]) (fun _ => true) (fun d e => ∃ c, e = dcD c) sc__law_rounds.nd (blkOk_by (own := [("_law_k", 2)]) (by show blkC ["_law_script", "_law_most", "_law_k"] (defScope s__law_rounds) _ _ = true; decide +kernel)) (dit_range rfl T.n_range (de_max2 rfl T.n_max de_int (de_min2 rfl T.n_min (de_var 1 rfl rfl (.inl rfl)) (de_lenScr 0 rfl rfl hq rfl (.inr (.inl rfl)) rfl T.n_len))) ?_) ?_ ?_ (fun j h => h) (fun a => rfl)) ?_) fun d h => ⟨d, rfl, h⟩)
  · split <;> split <;> omega
  · rintro ds rfl
    rw [rangeD_len]
    split <;> split <;> omega
  · rintro ds rfl k d hk s H Cc cl fp O' le'
    obtain ⟨hk1, hk2⟩ := List.getElem?_eq_some_iff.mp hk
    rw [rangeD_len] at hk1
    have hk3 := rangeD_at (lo := 0) hk1
    rw [hk3] at hk
    injection hk with hk
    subst hk
    rw [show (0 : Int) + (k : Nat) = ((k : Nat) : Int) by omega]
    refine ⟨fun a => rfl, dg_name 2 sc__law_rounds.nd rfl (.inl rfl), dts_nil, fun _ => ?_⟩
    refine DE.imp (de_lstG (P := fun l => ∃ c : Int, l = [.int c, .int 0]) (da_consG (P1 := anyI) (de_scr 0 (ns := ns) k (ok__law_cell T) rfl rfl hq rfl rfl (.inr (.inl rfl)) (da_cons (de_var 2 rfl rfl (.inl rfl)) da_nil) hl (fun d h => h)) fun d ⟨c, ec⟩ => da_consG (P1 := fun d => d = .int 0) de_int fun d' e' => da_nilG ⟨[d, d'], rfl, c, by rw [ec, e']⟩) (fun l ⟨c, e⟩ => by rw [e]; show 2 ≤ _; omega)) fun d ⟨l, e, c, e2⟩ => ⟨c, by rw [e, e2]; rfl⟩
  · rintro d ⟨ds, es, hds, m, rfl⟩
    unfold Made at m
    rw [List.filter_eq_self.mpr (fun _ _ => rfl)] at m
    suffices h : ∃ cs : List Int, es = cs.map dcD by obtain ⟨cs, e⟩ := h; exact ⟨cs, by rw [e]⟩
    clear hds
    induction m with
    | nil => exact ⟨[], rfl⟩
    | cons r _ ih =>
      obtain ⟨c, e⟩ := r
      obtain ⟨cs, e2⟩ := ih
      exact ⟨c :: cs, by rw [e, e2]; rfl⟩
/-! ## _law_any_base -/
def LBase (b : Int) : Prop := b ∈ ([2, 3, 4, 5, 7, 10, 11, 12] : List Int)
theorem LBase.b {b : Int} (h : LBase b) : Base b := by
  unfold LBase at h
  simp only [List.mem_cons, List.not_mem_nil, or_false] at h
  unfold Base
  omega
theorem sc__law_any_base : FnScope ["_law_dice"] ["_law_dice"] (defScope s__law_any_base) := ⟨rfl, rfl, rfl, by decide +kernel, rfl, by decide +kernel, by decide +kernel⟩
abbrev sp__law_any_base : Sp := spC (α := Unit) (fun m => []) (fun m => True) (fun m d => ∃ b : Int, d = .int b ∧ LBase b)
theorem ok__law_any_base (T : Txt K mg) : Fc P w K mg base "_law_any_base" ["_law_dice"] 3 sp__law_any_base := by
  refine fc_C (st := s__law_any_base) T.d__law_any_base T.g__law_any_base sc__law_any_base (fun _ => rfl) (by decide) (fun _ _ _ _ _ _ us hl => match us, hl with | [_], _ => rfl) fun cdv A outer s H E hr O m a hd hc => ?_
  have hU : (dicC P w K mg base ["_law_dice"] "_law_any_base" (defScope s__law_any_base) (He.ga K "_law_any_base") cdv A outer s H E 2 hr O a).U a = true := beq_self_eq_true a
  refine dss_one (ds_ret (P := fun d => ∃ b : Int, d = .int b ∧ LBase b) (de_ixLI (A := fun i => 0 ≤ i ∧ i < 9) (de_lst (da_cons de_int (da_cons de_int (da_cons de_int (da_cons de_int (da_cons de_int (da_cons de_int (da_cons de_int (da_cons de_int (da_cons de_int da_nil)))))))))) ((de_dice 0 9 (ok__law_roll T) rfl hU hc rfl rfl (.inl rfl) (da_cons de_int da_nil) (by decide) (fun d h => h)).imp fun d ⟨r, e, h⟩ => ⟨r, e, h⟩) fun i hi => ?_) fun d h => ⟨d, rfl, h⟩)
  have hc : i = 0 ∨ i = 1 ∨ i = 2 ∨ i = 3 ∨ i = 4 ∨ i = 5 ∨ i = 6 ∨ i = 7 ∨ i = 8 := by omega
  rcases hc with rfl | rfl | rfl | rfl | rfl | rfl | rfl | rfl | rfl
  · exact ⟨_, rfl, 2, rfl, by unfold LBase; simp⟩
  · exact ⟨_, rfl, 3, rfl, by unfold LBase; simp⟩
  · exact ⟨_, rfl, 4, rfl, by unfold LBase; simp⟩
  · exact ⟨_, rfl, 5, rfl, by unfold LBase; simp⟩
  · exact ⟨_, rfl, 7, rfl, by unfold LBase; simp⟩
  · exact ⟨_, rfl, 10, rfl, by unfold LBase; simp⟩
  · exact ⟨_, rfl, 10, rfl, by unfold LBase; simp⟩
  · exact ⟨_, rfl, 11, rfl, by unfold LBase; simp⟩
  · exact ⟨_, rfl, 12, rfl, by unfold LBase; simp⟩

/-! ## _law_any_row -/
theorem sc__law_any_row : FnScope ["_law_dice", "_law_base", "_law_most", "_law_top", "_law_turn_here"] ["_law_dice", "_law_base", "_law_most"] (defScope s__law_any_row) := ⟨rfl, rfl, rfl, by decide +kernel, rfl, by decide +kernel, by decide +kernel⟩
abbrev sp__law_any_row : Sp := spC (α := Int × Int) (fun z => [.int z.1, .int z.2]) (fun z => Base z.1 ∧ 1 ≤ z.2 ∧ z.2 ≤ 8) (fun z d => ∃ ns, d = tI ns ∧ Row z.1 ns ∧ ns.length ≤ z.2)
theorem ok__law_any_row (T : Txt K mg) : Fc P w K mg base "_law_any_row" ["_law_dice", "_law_base", "_law_most"] 3 sp__law_any_row := by
  refine fc_C (st := s__law_any_row) T.d__law_any_row T.g__law_any_row sc__law_any_row (fun _ => rfl) (by decide) (fun _ _ _ _ _ _ us hl => match us, hl with | [_, _, _], _ => rfl) fun cdv A outer s H E hr O z a hd hc => ?_
  obtain ⟨b, m⟩ := z
  obtain ⟨hb, hm1, hm2⟩ := hd
  simp only at hb hm1 hm2
  have hU : (dicC P w K mg base ["_law_dice", "_law_base", "_law_most", "_law_top", "_law_turn_here"] "_law_any_row" (defScope s__law_any_row) (He.ga K "_law_any_row") cdv A outer s H E 2 hr O a).U a = true := beq_self_eq_true a
  refine dss_cons (ds_set 3 (P := fun d => ∃ t : Int, d = .int t ∧ 2 ≤ t ∧ t ≤ b) (de_if (B := fun _ => True) ((dt_cmpI (A := fun i => 0 ≤ i ∧ i < 3) op_gt rfl ((de_dice 0 3 (ok__law_roll T) rfl hU hc rfl rfl (.inr (.inl rfl)) (da_cons de_int da_nil) (by decide) (fun d h => h)).imp fun d ⟨r, e, h⟩ => ⟨r, e, h⟩) de_int (fun i _ => rb_gt)).imp fun _ _ => trivial) (fun _ => DE.imp (de_var 1 rfl rfl (.inl rfl)) fun d e => ⟨b, e, hb.1, Int.le_refl _⟩) (fun _ => de_int.imp fun d e => ⟨2, e, by decide, hb.1⟩)) ?_ sc__law_any_row.nd rfl (.inr rfl))
  rintro d ⟨t, rfl, t1, t2⟩
  refine dss_one (ds_ret (P := fun d => ∃ ds, d = .tuple ds ∧ ∃ ns, ds = iv ns ∧ Row b ns ∧ ns.length ≤ m) (de_tupleLG (P := fun ds => ∃ ns, ds = iv ns ∧ Row b ns ∧ ns.length ≤ m) rfl T.n_tuple (DE.imp (de_lcG (js := [4]) (Pd := fun ds => ∃ i, (1 ≤ i ∧ i ≤ m) ∧ ds = rangeD 0 i.toNat) (ρ1 := fun d => [.raw (.ref a), .dat (.int b), .dat (.int m), .dat (.int t), .dat d]) (fun _ => true) (fun d e => ∃ r : Int, e = .int r ∧ 0 ≤ r ∧ r < t) sc__law_any_row.nd (blkOk_by (own := [("_law_turn_here", 4)]) (by show blkC ["_law_dice", "_law_base", "_law_most", "_law_top", "_law_turn_here"] (defScope s__law_any_row) _ _ = true; decide +kernel)) (dit_rangeG (A := fun i => 1 ≤ i ∧ i ≤ m) rfl T.n_range (DE.imp (di_add (DE.toI de_int) (DE.imp (P' := fun d => ∃ i, d = .int i ∧ (0 ≤ i ∧ i < m)) (de_dice 0 m (ok__law_roll T) rfl hU hc rfl rfl (.inr (.inl rfl)) (da_cons (de_var 2 rfl rfl (.inl rfl)) da_nil) (by exact ⟨by omega, by omega⟩) (fun d h => h)) fun d ⟨r, e, h⟩ => ⟨r, e, h⟩)) fun d ⟨k, e, i, j, ei, ej, ek⟩ => ⟨k, e, by omega⟩) (fun i h => by omega)) ?_ ?_ (fun j h => h) (fun a => rfl)) ?_)) ?_)
  · rintro ds ⟨i, h, rfl⟩
    rw [rangeD_len]
    omega
  · rintro ds _ k d hk s H Cc cl fp O' le'
    refine ⟨fun a => rfl, dg_name 4 sc__law_any_row.nd rfl (.inl rfl), dts_nil, fun _ => ?_⟩
    exact de_dice 0 t (ok__law_roll T) rfl hU hc rfl rfl (.inr (.inl rfl)) (da_cons (de_var 3 rfl rfl (.inr (.inl rfl))) da_nil) ⟨by omega, by have := hb.2; omega⟩ (fun d h => h)
  · rintro d ⟨ds, es, ⟨i, hi, rfl⟩, mk, rfl⟩
    refine ⟨es, rfl, ?_⟩
    unfold Made at mk
    rw [List.filter_eq_self.mpr (fun _ _ => rfl)] at mk
    have hlen := mk.length
    rw [rangeD_len] at hlen
    suffices h : ∃ ns, es = iv ns ∧ Dg b ns by
      obtain ⟨ns, e, h⟩ := h
      have : es.length = ns.length := by rw [e, iv_len]
      exact ⟨ns, e, ⟨⟨by omega, by omega⟩, h⟩, by omega⟩
    clear hlen
    revert mk
    generalize rangeD 0 i.toNat = ds
    intro mk
    induction mk with
    | nil => exact ⟨[], rfl, fun _ h => nomatch h⟩
    | cons r _ ih =>
      obtain ⟨c, e, c0, c1⟩ := r
      obtain ⟨ns, e2, h⟩ := ih
      refine ⟨c :: ns, by rw [e, e2]; rfl, fun n hn => ?_⟩
      rcases List.mem_cons.mp hn with rfl | hn
      · omega
      · exact h n hn
  · rintro d ⟨ds, rfl, ns, rfl, h⟩
    exact ⟨_, rfl, ns, rfl, h⟩

theorem sc__law_written : FnScope ["_law_base", "_law_size", "_law_number", "_law_found", "_law_turn_here"] ["_law_base", "_law_size", "_law_number"] (defScope s__law_written) := ⟨rfl, rfl, rfl, by decide +kernel, rfl, by decide +kernel, by decide +kernel⟩
abbrev sp__law_written (K : PySem.W.Frag) : Sp := spF (α := Int × Nat × Int) (fun x => [.int x.1, .int x.2.1, .int x.2.2]) (fun x => Base x.1 ∧ x.2.1 ≤ 8) (fun x => .rt (tI (wrI x.1 x.2.1 x.2.2 [])))
theorem ok__law_written (T : Txt K mg) : Fc P w K mg base "_law_written" ["_law_base", "_law_size", "_law_number"] 1 (sp__law_written K) := by
  refine fc_X (st := s__law_written) T.d__law_written T.g__law_written sc__law_written (fun _ => rfl) (by decide) (fun _ _ _ _ _ _ us hl => match us, hl with | [_, _, _], _ => rfl) fun cdv A outer s H E hr O y hd => ?_
  obtain ⟨b, n, m⟩ := y
  obtain ⟨hb, hn⟩ := hd
  simp only at hb hn
  have b2 := hb.1
  refine dss_cons (ds_setd 3 (de_lst da_nil) ?_ sc__law_written.nd rfl (.inl rfl))
  refine dss_cons (ds_for (dit_range rfl T.n_range (de_var 1 rfl rfl (.inl rfl)) (by simp only; omega)) (fun _ k ρ => k ≤ n ∧ ∃ m' acc s1, wrI b (n - k) m' acc = wrI b n m [] ∧ acc.length = k ∧ ρ = [.dat (.int b), .dat (.int n), .dat (.int m'), .dat (lI acc), s1]) (fun _ _ => ⟨Nat.zero_le _, m, [], .no, rfl, rfl, rfl⟩) (fun ds k d ρ' e hk _ => dg_name 4 sc__law_written.nd rfl (.inl rfl)) ?_ ?_ (passes_of rfl))
  · rintro ds k d ρ' rfl hk ⟨hk1, m', acc, s1, e, el, rfl⟩
    have hlt : k < n := by
      have := (List.getElem?_eq_some_iff.mp hk).1
      rw [rangeD_len] at this
      exact this
    obtain ⟨j, hj⟩ : ∃ j, n - k = j + 1 := ⟨n - k - 1, by omega⟩
    rw [hj] at e
    refine dss_cons (ds_setd 3 (de_catL (ys := iv acc) (de_lst (da_cons (de_mod (de_var 2 rfl rfl (.inl rfl)) (de_var 0 rfl rfl (.inl rfl)) (by omega)) da_nil) (by show 1 ≤ _; omega)) (de_var 3 rfl rfl (.inl rfl)) (by rw [iv_len]; show 1 + acc.length ≤ _; omega)) ?_ sc__law_written.nd rfl (.inl rfl))
    refine dss_one (ds_setd 2 (de_div (de_var 2 rfl rfl (.inl rfl)) (de_var 0 rfl rfl (.inl rfl)) ⟨by omega, log_small (by omega) (by have := hb.2; omega)⟩) ⟨hlt, m' / b, m' % b :: acc, _, ?_, by rw [List.length_cons, el], rfl⟩ sc__law_written.nd rfl (.inl rfl))
    have : n - (k + 1) = j := by omega
    rw [this]
    exact e
  · rintro ds ρ' rfl ⟨_, m', acc, s1, e, el, rfl⟩
    refine dss_one (ds_retd (de_tupleL rfl T.n_tuple (de_var 3 rfl rfl (.inl rfl))) ?_)
    show Out.rt _ = Out.rt _
    rw [rangeD_len, show n - (n : Int).toNat = 0 by omega] at e
    rw [← e]
    rfl

theorem sc__law_step : FnScope ["_law_base", "_law_row", "_law_some", "_law_total", "_law_at"] ["_law_base", "_law_row"] (defScope s__law_step) := ⟨rfl, rfl, rfl, by decide +kernel, rfl, by decide +kernel, by decide +kernel⟩
abbrev sp__law_step (K : PySem.W.Frag) : Sp := spF (α := Int × List Int) (fun x => [.int x.1, tI x.2]) (fun x => Base x.1 ∧ Row x.1 x.2) (fun x => .rt (tI (stepI x.1 x.2)))
theorem ok__law_step (T : Txt K mg) : Fc P w K mg base "_law_step" ["_law_base", "_law_row"] 2 (sp__law_step K) := by
  refine fc_X (st := s__law_step) T.d__law_step T.g__law_step sc__law_step (fun _ => rfl) (by decide) (fun _ _ _ _ _ _ us hl => match us, hl with | [_, _], _ => rfl) fun cdv A outer s H E hr O y hd => ?_
  obtain ⟨b, ns⟩ := y
  obtain ⟨hb, hr⟩ := hd
  simp only at hb hr
  have hl := hr.1
  have hsl := srtI_len ns
  refine dss_cons (ds_pard 2 3 (d := lI (srtI ns)) (da_cons (DE.to (de_sortT (Ct.un _) rfl T.n_sorted (de_var 1 rfl rfl (.inl rfl)) (can_iv _)) (by rw [sort_iv])) (da_cons de_int da_nil)) ?_ sc__law_step.nd rfl rfl (by decide) rfl rfl rfl)
  refine dss_cons (ds_for (dit_range rfl T.n_range (de_lenL rfl T.n_len (de_var 2 rfl rfl (.inl rfl))) (by rw [iv_len, hsl]; omega)) (fun _ k ρ => ∃ sv, ρ = [.dat (.int b), .dat (tI ns), .dat (lI (srtI ns)), .dat (.int (numI b ((difI (srtI ns)).take k))), sv]) (fun _ _ => ⟨.no, rfl⟩) (fun ds k d ρ' e hk _ => dg_name 4 sc__law_step.nd rfl (.inl rfl)) ?_ ?_ (passes_of rfl))
  · rintro ds k d ρ' rfl hk ⟨sv, rfl⟩
    obtain ⟨hk1, _⟩ := List.getElem?_eq_some_iff.mp hk
    rw [rangeD_len, iv_len, hsl] at hk1
    have hk3 := rangeD_at (lo := 0) (n := ((iv (srtI ns)).length : Int).toNat) (k := k) (by rw [iv_len, hsl]; exact hk1)
    rw [hk3] at hk
    injection hk with hk
    subst hk
    rw [show (0 : Int) + (k : Nat) = ((k : Nat) : Int) by omega]
    refine dss_one (ds_setd 3 (de_sub (de_add (de_mul (de_var 3 rfl rfl (.inl rfl)) (de_var 0 rfl rfl (.inl rfl)) (.inr (by obtain ⟨h1, h2⟩ := hb; omega))) (de_ixL (de_var 2 rfl rfl (.inl rfl)) (de_sub (de_neg de_int) (de_var 4 rfl rfl (.inl rfl))) (atI_neg (by rw [iv_len, hsl]; omega) (by rw [iv_len]; exact iv_getD (by omega))))) (de_ixL (de_var 2 rfl rfl (.inl rfl)) (de_var 4 rfl rfl (.inl rfl)) (atI_pos (iv_getD (by omega))))) ⟨.dat (.int k), ?_⟩ sc__law_step.nd rfl (.inl rfl))
    have e : (difI (srtI ns))[k]? = some (gapAt (srtI ns) k) := by
      unfold difI
      rw [List.getElem?_map, List.getElem?_range (by omega)]
      rfl
    rw [take_snoc e, numI_app]
    unfold gapAt
    rw [← Int.add_sub_assoc]
    rfl
  · rintro ds ρ' rfl ⟨sv, rfl⟩
    rw [rangeD_len, iv_len, hsl, show ((ns.length : Int)).toNat = (difI (srtI ns)).length by unfold difI; rw [List.length_map, List.length_range, hsl]; omega, List.take_length]
    refine dss_one (ds_retd (de_f (b, ns.length, numI b (difI (srtI ns))) (ok__law_written T) rfl (da_cons (de_var 0 rfl rfl (.inl rfl)) (da_cons (DE.to (de_lenT rfl T.n_len (de_var 1 rfl rfl (.inl rfl))) (by rw [iv_len])) (da_cons (de_var 3 rfl rfl (.inl rfl)) da_nil))) ⟨hb, hl.2⟩ rfl) ?_)
    show Out.rt _ = Out.rt _
    rw [step_dif]

open PySem.Spec PyProof.Rows L2H HotX LamX
theorem sc__law_term : FnScope ["_law_e", "_law_flags", "_law_kinds", "_law_flag"] ["_law_e"] (defScope s__law_term) := ⟨rfl, rfl, rfl, by decide +kernel, rfl, by decide +kernel, by decide +kernel⟩
theorem sc__law_told : FnScope ["_law_deed", "_law_e"] ["_law_deed"] (defScope s__law_told) := ⟨rfl, rfl, rfl, by decide +kernel, rfl, by decide +kernel, by decide +kernel⟩
theorem term_body {P : Program} {w : World} {K : PySem.W.Frag} {mg : Str → Option Value} {base : Heap} (T : Txt K mg) (Ex : Exs K mg) {f : Addr} {cdv : Value} {A : Around} {outer : List PySem.Env} {s : Shared} {H : Hp} {a : Addr} {oe : Obj} {x : Str} (hx : x ∈ xnm) (hz : L2N.Zn (.ref (He.ga K x)) none oe) (hf : ∃ vs, oe.data = .fields vs) {k : Nat} (hr : RoomH k (A.deeper (envOfC "_law_term" (defScope s__law_term) s.heap.objs.size f cdv))) (hot : Hot1 A (a, oe)) :
    DSs (hotC C8.CX0 P w K mg base ["_law_e", "_law_flags", "_law_kinds", "_law_flag"] "_law_term" (defScope s__law_term) f cdv A outer s H C8.E0 (a, oe) k hr) (fun o => o = .rt (errD x)) [.raw (.ref a), .no, .no, .no] (defBody s__law_term) := by
  generalize hC : hotC C8.CX0 P w K mg base ["_law_e", "_law_flags", "_law_kinds", "_law_flag"] "_law_term" (defScope s__law_term) f cdv A outer s H C8.E0 (a, oe) k hr = C
  have hotc : HotC C.X := by rw [← hC]; exact ⟨(a, oe), hot, List.mem_cons_self⟩
  have hu := C.un
  subst hC
  have isE : ∀ {F : Out → Prop} (ρ : Rho) (y : Str) (p1 p2 p pos : Pos), y ∈ xnm → gt ρ 0 = .raw (.ref a) → (y == ("__debug__" : Str)) = false → Gl (hotC C8.CX0 P w K mg base ["_law_e", "_law_flags", "_law_kinds", "_law_flag"] "_law_term" (defScope s__law_term) f cdv A outer s H C8.E0 (a, oe) k hr).X y →
      DEd (hotC C8.CX0 P w K mg base ["_law_e", "_law_flags", "_law_kinds", "_law_flag"] "_law_term" (defScope s__law_term) f cdv A outer s H C8.E0 (a, oe) k hr) (xi F) ρ (.Call (.Name "isinstance" p) [.Name "_law_e" p1, .Name y p2] [] pos) (.bool (decide (x = y))) := fun ρ y p1 p2 p pos hy h0 hd hg =>
    de_isE 0 (Ex.c x hx) hz.zc hf List.mem_cons_self h0 rfl (.inl rfl) (pe_glob hg (Ex.g y hy) (v := .ref (He.ga K y)) rfl hd) (fun u r => r) (Ex.k x hx y hy) rfl T.n_isinstance
  have isV : ∀ {F : Out → Prop} (ρ : Rho) (p1 p2 p pos : Pos), gt ρ 0 = .raw (.ref a) →
      DEd (hotC C8.CX0 P w K mg base ["_law_e", "_law_flags", "_law_kinds", "_law_flag"] "_law_term" (defScope s__law_term) f cdv A outer s H C8.E0 (a, oe) k hr) (xi F) ρ (.Call (.Name "isinstance" p) [.Name "_law_e" p1, .Name "ValueError" p2] [] pos) (.bool true) := fun ρ p1 p2 p pos h0 =>
    de_isE 0 (c := .ty "ValueError") (Ex.c x hx) hz.zc hf List.mem_cons_self h0 rfl (.inl rfl) (pe_bltn rfl T.n_ValueError (by decide +kernel) (v := .ty "ValueError") rfl (by decide) (by decide)) (fun u r => r) (Ex.v x hx) rfl T.n_isinstance
  have m0 : ∀ {y : Str}, xnm.contains y = true → y ∈ xnm := fun {y} h => List.contains_iff_mem.mp h
  refine dss_cons (ds_setd 1 (de_lst (da_cons (isE _ "InvalidBase" _ _ _ _ (m0 (by decide +kernel)) rfl (by decide) rfl) (da_cons (isE _ "InvalidRow" _ _ _ _ (m0 (by decide +kernel)) rfl (by decide) rfl) (da_cons (isE _ "InvalidLength" _ _ _ _ (m0 (by decide +kernel)) rfl (by decide) rfl) da_nil))) (by show 3 ≤ _; omega)) ?_ sc__law_term.nd rfl (.inl rfl))
  refine dss_cons (ds_setd 1 (de_catL (de_var 1 rfl rfl (.inl rfl)) (de_lst (da_cons (isE _ "InvalidNumber" _ _ _ _ (m0 (by decide +kernel)) rfl (by decide) rfl) (da_cons (isE _ "InvalidSteps" _ _ _ _ (m0 (by decide +kernel)) rfl (by decide) rfl) (da_cons (isE _ "InvalidPlace" _ _ _ _ (m0 (by decide +kernel)) rfl (by decide) rfl) da_nil))) (by show 3 ≤ _; omega)) (by show 3 + 3 ≤ _; omega)) ?_ sc__law_term.nd rfl (.inl rfl))
  refine dss_cons (ds_setd 1 (de_catL (de_var 1 rfl rfl (.inl rfl)) (de_lst (da_cons (isE _ "InvalidDigit" _ _ _ _ (m0 (by decide +kernel)) rfl (by decide) rfl) (da_cons (isE _ "InvalidText" _ _ _ _ (m0 (by decide +kernel)) rfl (by decide) rfl) (da_cons (isE _ "TooLarge" _ _ _ _ (m0 (by decide +kernel)) rfl (by decide) rfl) da_nil))) (by show 3 ≤ _; omega)) (by show 6 + 3 ≤ _; omega)) ?_ sc__law_term.nd rfl (.inl rfl))
  refine dss_cons (ds_setd 1 (d := .list ((flg x).map .bool)) (DE.to (de_catL (de_var 1 rfl rfl (.inl rfl)) (de_lst (da_cons (isE _ "TooGreat" _ _ _ _ (m0 (by decide +kernel)) rfl (by decide) rfl) (da_cons (isE _ "NothingToUndo" _ _ _ _ (m0 (by decide +kernel)) rfl (by decide) rfl) da_nil)) (by show 2 ≤ _; omega)) (by show 9 + 2 ≤ _; omega)) rfl) ?_ sc__law_term.nd rfl (.inl rfl))
  refine dss_cons (ds_setd 2 (de_lst (da_cons de_str (da_cons de_str (da_cons de_str (da_cons de_str (da_cons de_str (da_cons de_str da_nil))))))) ?_ sc__law_term.nd rfl (.inl rfl))
  refine dss_cons (ds_setd 2 (d := .list (xnm.map .str)) (DE.to (de_catL (de_var 2 rfl rfl (.inl rfl)) (de_lst (da_cons de_str (da_cons de_str (da_cons de_str (da_cons de_str (da_cons de_str da_nil)))))) (by show 6 + 5 ≤ _; omega)) rfl) ?_ sc__law_term.nd rfl (.inl rfl))
  obtain ⟨j, hj, e1, e2, e3⟩ := xnm_ix x hx
  have hj := List.mem_range.mp hj
  have hl : (flg x).length = 11 := rfl
  have sh : SeqAt.shaped (.list ((flg x).map .bool)) = true := rfl
  refine dss_cons (ds_ifd (k := false) (dt_w (dw_or (k := false) (k' := false) (DT.to (dt_cmp (op_neD (by show _ < _; omega)) rfl (de_sumH hotc rfl T.n_sum (DE.to (de_flags 3 hotc sc__law_term.nd (blkOk_by (by show blkC ["_law_e", "_law_flags", "_law_kinds", "_law_flag"] (defScope s__law_term) _ _ = true; decide +kernel)) (de_var 1 rfl rfl (.inl rfl)) (by rw [hl]; decide) (by show 3 < 4; omega) rfl (fun _ _ _ _ _ => rfl) (fun _ _ _ _ _ => rfl) T.n_int) (show PyData.list _ = PyData.list (((flg x).map bI).map .int) by rw [List.map_map]; rfl))) de_int (rb_ne rfl rfl)) (by rw [flg_sum x hx]; rfl)) fun _ => dw_or1 (dt_not (dt_val (isV _ _ _ _ _ rfl))))) (fun h => by cases h) fun _ => dss_nil ?_)
  refine dss_one (ds_retd (de_tup (da_cons de_str (da_cons (de_ixL (de_var 2 rfl rfl (.inl rfl)) (de_index j (d := .bool true) (z := .bool true) (by show _ < _; omega) (de_var 1 rfl rfl (.inl rfl)) de_bl sh rfl ?_ rfl fun m z' hm h => ?_) (atI_map e2)) da_nil)) (by show 2 ≤ _; omega)) rfl)
  · show ((flg x).map PyData.bool)[j]? = _
    unfold flg
    rw [List.getElem?_map, List.getElem?_map, e1]
    show some (PyData.bool (decide (x = x))) = _
    rw [decide_eq_true rfl]
  · unfold flg at h
    rw [List.getElem?_map, List.getElem?_map] at h
    cases q : xnm[m]? with
    | none => rw [q] at h; cases h
    | some y =>
      rw [q] at h
      have h : some (PyData.bool (decide (x = y))) = some z' := h
      have ne : x ≠ y := fun e => e3 m (List.mem_range.mpr hm) (by rw [q, e])
      rw [decide_eq_false ne] at h
      injection h with h
      rw [← h]
      rfl
open PySem.Spec PyProof.Rows L2H HotX LamX
theorem PSs.imp2 {X : Cx} {b : List Stmt} {t t' : TS} (h : PSs X b t) (i : ∀ D σ H, t' D σ H → t D σ H) : PSs X b t' := ⟨fun pins s σ H D I z => h.run pins s σ H D I (i D σ H z)⟩
theorem pe_told {X : Cx} (T : Txt X.K X.mg) (Ex : Exs X.K X.mg) {c P : Addr} {k : Nat} {params : Arguments} {body : Expr} {scope : Scope} {p lpos pos : Pos} {te : Hp → XK → TE} (hg : Gl X "_law_told") (hcode : X.env.code = .ref c) (TB : TabB X.base X.mg c P) (hr : Room (k + 2) X.A) (L : LamS X.env.scope scope) (hdef : defaultsOf params X.env = ([], []))
    (hbind : ∀ (q : Str) (cl : List (Str × Addr)) (pm cv ctv : Value), bindArgs (PySem.W.kla_fn "<lambda>" q params body scope cl pm cv ctv) ⟨[], []⟩ = pure [])
    (hbody : ∀ (A : Around) (outer : List PySem.Env) (s : Shared) (H : Hp) (E : XK) (f c' : Addr), Room k (A.deeper (lamEnv X scope s.heap.objs.size f c')) → PE (lamN X A outer s H E scope f c') body (te H E)) :
    PE X (.Call (.Name "_law_told" p) [.Lambda params body scope lpos] [] pos) (tTold X.K P (X.env.qual ++ "<lambda>") te) := by
  refine ⟨fun pins s σ H Q I ⟨hT, h⟩ => ?_⟩
  obtain ⟨fd, F⟩ := T.d__law_told
  have hb := FunD.bindsN (ps := ["_law_deed"]) F (fun _ _ _ _ _ _ us hl => match us, hl with | [_], _ => rfl)
  obtain ⟨oc, od, dV, kV, doc, pm, an, cdv, ct, osl, rfl, lk, hcg, _, _⟩ := F.ex
  obtain ⟨fd2, F2⟩ := T.d__law_term
  have hb2 := FunD.bindsN (ps := ["_law_e"]) F2 (fun _ _ _ _ _ _ us hl => match us, hl with | [_], _ => rfl)
  refine wpAny_Call_Name_kw (ld_glob I hg T.g__law_told ?_ (by decide))
  refine PySem.W.callWith_K (h₀ := X.base) I.ok.mod.kin F.kp ?_ (by rfl) (by rfl)
  show wpAny _ _ (spliced ((false, eval (.Lambda params body scope lpos) X.env) :: backTo pos (starEach [] X.env))) _ _ s
  refine Calls.spliced_cons (lam_mk I TB hcode hT hdef (L.has I.ok) fun f c' pm' ctv H1 s' I1 lay hf hfn hfr hco => ?_)
  refine Calls.spliced_nil ⟨I1.kIn, ?_⟩
  have h := h H1 lay
  have rc : codeAny (model X.prog X.w) X.A (.call (.ref (He.ga X.K "_law_told")) ⟨[.ref f], []⟩) (CR C8.CX0 X.stack X.prog X.w H1 s' Q C8.E0) s' := by
    refine run_ofS (N := ["_law_deed", "_law_e"]) (ps := ["_law_deed"]) (us := [.ref f]) (vs := [.ref f]) lk hcg sc__law_told hr I1.env0 (by have z := hb s' [.ref f] I1.kIn rfl; exact z) (.cons rfl .nil) rfl fun hr' => ?_
    refine ⟨_, pss_one (L2N.ps_try_as (X := cxOf C8.CX0 X.prog X.w X.K X.mg X.base ["_law_deed", "_law_e"] "_law_told" (defScope s__law_told) (He.ga X.K "_law_told") cdv X.A X.stack s' H1 C8.E0) (c := .ref (He.ga X.K "DigitError")) (i := 1)
      (tb := fun W D σZ HZ => ∃ Ech : XK, σZ[0]? = some (some (.ref f)) ∧ HZ c' = some (CodeO c' (X.env.qual ++ "<lambda>")) ∧ (∀ cls d H', Ech cls d H' → W cls d σZ H') ∧ te HZ Ech σ HZ D.rt)
      (ts := fun a cls d D σ H => σ[1]? = some (some (.ref a)) ∧ ∃ x, x ∈ xnm ∧ cls = .ref (He.ga X.K x) ∧ d = none ∧ ∀ v H'', Same H H'' → NewAt H H'' v (errD x) → D.rt v H'')
      rfl rfl sc__law_told.nd rfl rfl ⟨rfl, by decide, .inl T.x_DigitError.g⟩ takes0N (fun W pn xe tk _ => ?_) (fun a oe cls d pn hz hf2 => ?_)), ?_⟩
    · refine ⟨fun pz sz σz Hz D Iz ⟨Ech, z1, z2, z3, z4⟩ => ?_⟩
      exact (pss_one (ps_ret (actN (CXg := C8.CX0) (Eg := C8.E0) (i := 0) (W := W) (E := Ech) (tb := fun H => te H Ech) I1 L hf hfn hfr (hbind _ _ _ _ _) tk hr' (fun A outer s H hr2 => hbody A outer s H Ech f c' hr2) (Ng := ["_law_deed", "_law_e"]) (a := "_law_deed") rfl (.inl rfl)))).run pz sz σz Hz D Iz ⟨z1, z2, z3, z4⟩
    · have hot : Hot1 (X.A.deeper (envOfC "_law_told" (defScope s__law_told) s'.heap.objs.size (He.ga X.K "_law_told") cdv) |>.mark (some (.ref a))) (a, oe) := by
        obtain ⟨vs, hv⟩ := hf2
        exact ⟨rfl, vs, hv, hz.2.2 vs hv⟩
      refine PSs.imp2 (pss_one (ps_ret (pe_callP (p := (a, oe)) (i := 1) (k := 0) (Ng := ["_law_e", "_law_flags", "_law_kinds", "_law_flag"]) (ps := ["_law_e"]) (G := fun v H Q => v = .ref a ∧ ∃ x, x ∈ xnm ∧ cls = .ref (He.ga X.K x) ∧ d = none ∧ ∀ v H'', Same H H'' → NewAt H H'' v (errD x) → Q v H'') hot List.mem_cons_self F2 rfl T.g__law_term hb2 sc__law_term rfl ⟨((roomH_of hr').mono (j := 0 + 1) (by omega)).dp, ((roomH_of hr').mono (j := 0 + 1) (by omega)).un⟩ rfl (.inl rfl) (fun cdv2 A2 outer2 s2 H2 Q2 v hr2 hot2 ⟨ev, x, hx, ec, ed, hq⟩ => ?_)))) fun D σ2 H2 ⟨z1, z2⟩ => ⟨_, z1, rfl, z2⟩
      subst ev ec ed
      refine ⟨_, pSs, term_body (P := X.prog) (w := X.w) (base := X.base) T Ex hx hz hf2 hr2 hot2 _ _ H2 (env_raw (C := hotC C8.CX0 X.prog X.w X.K X.mg X.base ["_law_e", "_law_flags", "_law_kinds", "_law_flag"] "_law_term" (defScope s__law_term) (He.ga X.K "_law_term") cdv2 A2 outer2 s2 H2 C8.E0 (a, oe) 0 hr2) (n := 3) (v := .ref a) (fun b hb => by intro e; have hb : (H2 b).isSome = true := hb; have e : H2 b = none := e; rw [e] at hb; cases hb) fun _ => rfl) ⟨fun _ _ _ f => (by cases f), fun d v H' f g r => ?_, fun _ _ _ f => (by cases f), fun _ _ _ f => (by cases f), fun _ _ _ f => (by cases f)⟩⟩
      injection f with f
      subst f
      refine hq v H' g.same ⟨r.up hid_le, ?_⟩
      obtain ⟨a', xs, rfl, h1, _⟩ := r.ref_tup
      have h2 : (H2 a').isSome = false := (hid_of h1).1
      exact ⟨a', rfl, by cases e : H2 a' with | none => rfl | some u => rw [e] at h2; cases h2⟩
    · refine ⟨_, rfl, hco, fun cls d H' ⟨x, hx, ec, ed, hq⟩ => ⟨true, by rw [ec]; exact Ex.m x hx, fun _ a na => ⟨rfl, x, hx, ec, ed, hq⟩, fun e => by cases e⟩, h⟩
  refine wpAny_call (codeAny_mono rc fun r s2 hq => ?_)
  cases r with
  | error e => exact (show False from hq).elim
  | ok fl =>
    cases fl with
    | ret u => exact I1.after hq
    | next => exact False.elim hq
    | brk => exact False.elim hq
    | cont => exact False.elim hq

/-! ## told, under owned slots -/
section
variable {C : Ct} {Ξ : Addr → Prop} {ρ : Rho} {params : Arguments} {body : Expr} {scope sc : Scope} {k : Nat} {p lpos pos : Pos} {Qn : Str}
theorem told_any {Ξ' : Str → Prop} {P : PyData → Prop} (T : Txt C.X.K C.X.mg) (Ex : Exs C.X.K C.X.mg) (W : LawOk C sc k Qn) (hL : lamSB sc scope = true) (hg : Gl C.X "_law_told") (hdef : defaultsOf params C.X.env = ([], [])) (hbind : ∀ (q : Str) (cl : List (Str × Addr)) (pm cv ctv : Value), bindArgs (PySem.W.kla_fn "<lambda>" q params body scope cl pm cv ctv) ⟨[], []⟩ = pure [])
    (hbody : ∀ A outer s H E f c' hr', DE (lamCo C ρ A outer s H E scope f c' k hr') (fun a => ∃ x, x ∈ xnm ∧ Ξ' x ∧ a = He.ga C.X.K x) ρ body P) :
    DE C Ξ ρ (.Call (.Name "_law_told" p) [.Lambda params body scope lpos] [] pos) (fun d => P d ∨ ∃ x, x ∈ xnm ∧ Ξ' x ∧ d = errD x) := fun σ H Ev Q q z => by
  obtain ⟨c, Pt, hcode, TB, hU, hP⟩ := W.ex
  have hT : TabS H Pt Qn := (Ev.gr.cell Pt (some Qn) hU hP).2
  refine ⟨_, pe_told T Ex hg hcode TB W.hr (lamS_by (by rw [W.hs]; exact hL)) hdef hbind (te := fun H1 E σ1 H2 Q => ∀ (A : Around) (outer : List PySem.Env) (s : Shared) (f c' : Addr), Room k (A.deeper (lamEnv C.X scope s.heap.objs.size f c')) → cE (lamN C.X A outer s H1 E scope f c') body σ1 H2 Q) (fun A outer s H E f c' hr' => ⟨fun pins s' σ' H' Q' I h => pE.run pins s' σ' H' Q' I (h A outer s f c' hr')⟩), by rw [W.hq]; exact hT, fun H1 lay A outer s f c' hr' => ?_⟩
  rw [W.hq] at lay
  have g1 := gr_laido hU hP.1.symm hT lay
  have E1 := Ev.grow g1
  refine hbody A outer s H1 _ f c' hr' σ H1 (env_lamo E1) Q (fun d v H2 pd g r => q d v H2 (.inl pd) (g1.trans g) r) (fun cc H2 ⟨x, hx, hξ, e⟩ g => ⟨x, hx, by rw [e], rfl, fun v H'' ss ra => ?_⟩)
  exact q _ v H'' (.inr ⟨x, hx, hξ, rfl⟩) ((g1.trans g).trans (Gr.of ss)) (new_vis (E1.grow g) ss ra)
theorem told_ex (x : Str) (hx : xnm.contains x = true) (T : Txt C.X.K C.X.mg) (Ex : Exs C.X.K C.X.mg) (W : LawOk C sc k Qn) (hL : lamSB sc scope = true) (hg : Gl C.X "_law_told") (hdef : defaultsOf params C.X.env = ([], [])) (hbind : ∀ (q : Str) (cl : List (Str × Addr)) (pm cv ctv : Value), bindArgs (PySem.W.kla_fn "<lambda>" q params body scope cl pm cv ctv) ⟨[], []⟩ = pure [])
    (hbody : ∀ A outer s H E f c' hr', DE (lamCo C ρ A outer s H E scope f c' k hr') (fun a => a = He.ga C.X.K x) ρ body fun _ => False) : DEd C Ξ ρ (.Call (.Name "_law_told" p) [.Lambda params body scope lpos] [] pos) (errD x) :=
  (told_any (Ξ' := fun y => y = x) (P := fun _ => False) T Ex W hL hg hdef hbind fun A outer s H E f c' hr' σ H' E' Q q z => hbody A outer s H E f c' hr' σ H' E' Q q fun c H2 f g => z c H2 ⟨x, List.contains_iff_mem.mp hx, rfl, f⟩ g).imp fun d' h => by
    rcases h with h | ⟨y, _, h, e⟩
    · exact h.elim
    · rw [e, h]
theorem sh_err (x : Str) (h : PyData.strOk x = true) : SeqAt.shaped (errD x) = true := by
  unfold SeqAt.shaped
  have e : PyData.strOk "error" = true := by decide +kernel
  simp [PyData.canLay0, PyData.canLayAll0, PyData.depth, PyData.depthAll, h, e]
theorem eqv_err (x : Str) : PyData.eqv (errD x) (errD x) = true := by simp [PyData.eqv, PyData.eqvAll]
/-- told(lambda: ..) != ("error", X), the lambda raises X -/
theorem told_ne (x : Str) {j1 j2 kt : Nat} {p1 p2 p3 pos2 : Pos} (hx : xnm.contains x = true) (hok : PyData.strOk x = true) (T : Txt C.X.K C.X.mg) (Ex : Exs C.X.K C.X.mg) (W : LawOk C sc k Qn) (hL : lamSB sc scope = true) (hg : Gl C.X "_law_told") (hdef : defaultsOf params C.X.env = ([], [])) (hbind : ∀ (q : Str) (cl : List (Str × Addr)) (pm cv ctv : Value), bindArgs (PySem.W.kla_fn "<lambda>" q params body scope cl pm cv ctv) ⟨[], []⟩ = pure [])
    (hbody : ∀ A outer s H E f c' hr', DE (lamCo C ρ A outer s H E scope f c' k hr') (fun a => a = He.ga C.X.K x) ρ body fun _ => False)
    (he1 : starEach [.Constant (.str "error") j1 p1, .Constant (.str x) j2 p2] C.X.env = (false, eval (.Constant (.str "error") j1 p1) C.X.env) :: starEach [.Constant (.str x) j2 p2] C.X.env := by rfl) (he2 : starEach [.Constant (.str x) j2 p2] C.X.env = (false, eval (.Constant (.str x) j2 p2) C.X.env) :: starEach [] C.X.env := by rfl) :
    DTd C Ξ ρ (.Compare (.Call (.Name "_law_told" p) [.Lambda params body scope lpos] [] pos) [.NotEq] [.Tuple [.Constant (.str "error") j1 p1, .Constant (.str x) j2 p2] kt p3] pos2) false :=
  DT.to (dt_neD (sh_err x hok) (sh_err x hok) (told_ex x hx T Ex W hL hg hdef hbind hbody) (de_tup (da_cons de_str (da_cons de_str da_nil he2) he1) (by show 2 ≤ _; omega)) rfl) (by rw [eqv_err]; rfl)
/-- the same, the lambda changing what is owned -/
def toldF (K : PySem.W.Frag) (ρ : Rho) (F : OutW → Prop) : OutW → Prop
  | .nx _ => False
  | .rt d ρ' => (∀ a, owns ρ' a = owns ρ a) ∧ F (.rt d ρ')
  | .ex c ρ' => (∀ a, owns ρ' a = owns ρ a) ∧ ∃ x, x ∈ xnm ∧ c = He.ga K x ∧ F (.rt (errD x) ρ')
theorem ew_told {F : OutW → Prop} (T : Txt C.X.K C.X.mg) (Ex : Exs C.X.K C.X.mg) (W : LawOk C sc k Qn) (hL : lamSB sc scope = true) (hg : Gl C.X "_law_told") (hdef : defaultsOf params C.X.env = ([], [])) (hbind : ∀ (q : Str) (cl : List (Str × Addr)) (pm cv ctv : Value), bindArgs (PySem.W.kla_fn "<lambda>" q params body scope cl pm cv ctv) ⟨[], []⟩ = pure [])
    (hx0 : ∀ σ H, Env C ρ σ H → ∀ a, owns ρ a = true → ∀ φ, H a ≠ some (.ext φ)) (hbody : ∀ A outer s H E f c' hr', EW (lamCo C ρ A outer s H E scope f c' k hr') (toldF C.X.K ρ F) ρ body) :
    EW C F ρ (.Call (.Name "_law_told" p) [.Lambda params body scope lpos] [] pos) := fun σ H Ev Q q z => by
  obtain ⟨c, Pt, hcode, TB, hU, hP⟩ := W.ex
  have hT : TabS H Pt Qn := (Ev.gr.cell Pt (some Qn) hU hP).2
  refine ⟨_, pe_told T Ex hg hcode TB W.hr (lamS_by (by rw [W.hs]; exact hL)) hdef hbind (te := fun H1 E σ1 H2 Q => ∀ (A : Around) (outer : List PySem.Env) (s : Shared) (f c' : Addr), Room k (A.deeper (lamEnv C.X scope s.heap.objs.size f c')) → cE (lamN C.X A outer s H1 E scope f c') body σ1 H2 Q) (fun A outer s H E f c' hr' => ⟨fun pins s' σ' H' Q' I h => pE.run pins s' σ' H' Q' I (h A outer s f c' hr')⟩), by rw [W.hq]; exact hT, fun H1 lay A outer s f c' hr' => ?_⟩
  rw [W.hq] at lay
  have g1 := gr_laido hU hP.1.symm hT lay
  have E1 := Ev.grow g1
  refine hbody A outer s H1 _ f c' hr' σ H1 (env_lamo E1) Q (fun d ρ' v H2 ⟨ho, f⟩ E2 r => q d ρ' v H2 f (env_unlamo E1 (hx0 σ H1 E1) ho E2) r) (fun cc ρ' H2 ⟨ho, x, hx, e, f⟩ E2 => ⟨x, hx, by rw [e], rfl, fun v H'' ss ra => ?_⟩)
  have E3 := env_unlamo E1 (hx0 σ H1 E1) ho E2
  exact q _ ρ' v H'' f (E3.grow (Gr.of ss)) (new_vis E3 ss ra)
end
end DD

namespace DD
open PySem L2
variable [Nu] {P : Program} {w : World} {K : PySem.W.Frag} {mg : Str → Option Value} {base : Heap}
open PySem.Spec PyProof.Rows L2H HotX LamX
/-! ## what an operation of a walk tells and leaves -/
abbrev P2 (K : PySem.W.Frag) : Addr := (He.cT K ("_law_done", none)).2
def opS (z : WkS) (nm : Str) (pl dg : Int) (st : Nat) : PyData × WkS :=
  if nm = "put" then (if isW (.int pl) 0 ((z.2.1.length : Int) - 1) = true then (if isW (.int dg) 0 (z.1 - 1) = true then (tI (putI z.2.1 pl.toNat dg), wkTo z (putI z.2.1 pl.toNat dg)) else (errD "InvalidDigit", z)) else (errD "InvalidPlace", z))
  else if nm = "go" then (tI (orb z.1 z.2.1 st), wkTo z (orb z.1 z.2.1 st))
  else if nm = "undo" then (match z.2.2.1.getLast? with
    | some r => (tI r, (z.1, r, z.2.2.1.dropLast, z.2.2.2 ++ [z.2.1]))
    | none => (errD "NothingToUndo", z))
  else (match z.2.2.2.getLast? with
    | some r => (tI r, (z.1, r, z.2.2.1 ++ [z.2.1], z.2.2.2.dropLast))
    | none => (errD "NothingToUndo", z))
structure OpOk (z : WkS) (nm : Str) (pl dg : Int) (st : Nat) : Prop where
  hz : WkOk z
  few : z.2.2.1.length + z.2.2.2.length ≤ 900
  hn : nm = "put" ∨ nm = "go" ∨ nm = "undo" ∨ nm = "redo"
  hp : 0 ≤ pl ∧ pl ≤ z.2.1.length
  hd : 0 ≤ dg ∧ dg ≤ z.1
  hs : st ≤ 3
def toldR (K : PySem.W.Frag) (o : OutM) (D : PyData × WkS) : Prop := (∀ d fs, o = .rt d fs → d = D.1 ∧ fs = wkF D.2) ∧ ∀ c fs, o = .ex c fs → ∃ x, x ∈ xnm ∧ c = He.ga K x ∧ errD x = D.1 ∧ fs = wkF D.2
theorem toldR_rt {K : PySem.W.Frag} {D : PyData × WkS} : toldR K (.rt D.1 (wkF D.2)) D := ⟨fun d fs e => (by injection e with e1 e2; exact ⟨e1.symm, e2.symm⟩), fun c fs e => (by cases e)⟩
theorem toldR_ex {K : PySem.W.Frag} {x : Str} {z : WkS} (hx : xnm.contains x = true) : toldR K (.ex (He.ga K x) (wkF z)) (errD x, z) := ⟨fun d fs e => (by cases e), fun c fs e => by injection e with e1 e2; exact ⟨x, List.contains_iff_mem.mp hx, e1.symm, rfl, e2.symm⟩⟩
theorem told_put {K : PySem.W.Frag} {z : WkS} {pl dg : Int} {st : Nat} : toldR K (putR K z (.int pl) (.int dg)) (opS z "put" pl dg st) := by
  unfold putR opS
  rw [if_pos rfl]
  split
  · split
    · exact toldR_rt (D := (tI _, _))
    · exact toldR_ex (x := "InvalidDigit") (by decide +kernel)
  · exact toldR_ex (x := "InvalidPlace") (by decide +kernel)
theorem told_go {K : PySem.W.Frag} {z : WkS} {pl dg : Int} {st : Nat} (h : st ≤ 3) : toldR K (goR K z (.int (st : Int))) (opS z "go" pl dg st) := by
  unfold goR
  rw [if_pos (by unfold isW; rw [Bool.and_eq_true, decide_eq_true_iff, decide_eq_true_iff]; omega)]
  unfold opS
  rw [if_neg (by decide), if_pos rfl]
  exact toldR_rt (D := (_, _))
theorem told_undo {K : PySem.W.Frag} {z : WkS} {pl dg : Int} {st : Nat} : toldR K (undoR K z) (opS z "undo" pl dg st) := by
  unfold undoR opS
  rw [if_neg (by decide), if_neg (by decide), if_pos rfl]
  cases z.2.2.1.getLast? with
  | some r => exact toldR_rt (D := (tI r, _))
  | none => exact toldR_ex (x := "NothingToUndo") (by decide +kernel)
theorem told_redo {K : PySem.W.Frag} {z : WkS} {pl dg : Int} {st : Nat} : toldR K (redoR K z) (opS z "redo" pl dg st) := by
  unfold redoR opS
  rw [if_neg (by decide), if_neg (by decide), if_neg (by decide)]
  cases z.2.2.2.getLast? with
  | some r => exact toldR_rt (D := (tI r, _))
  | none => exact toldR_ex (x := "NothingToUndo") (by decide +kernel)
/-! ### _law_done -/
theorem sc__law_done : FnScope ["_law_walk", "_law_name", "_law_place", "_law_digit", "_law_steps"] ["_law_walk", "_law_name", "_law_place", "_law_digit", "_law_steps"] (defScope s__law_done) := ⟨rfl, rfl, rfl, by decide +kernel, rfl, by decide +kernel, by decide +kernel⟩
abbrev doneX (K : PySem.W.Frag) : List V → (Addr → Bool) → Hp → Prop := fun pre U H => pre = [] ∧ U = (fun b => b == P2 K) ∧ Cell (some lamQ2) H (P2 K)
abbrev OpY := WkS × Str × Int × Int × Nat
abbrev sp__law_done (K : PySem.W.Frag) : Sp := spM (α := OpY) (wC K) (doneX K) (fun y => [.str y.2.1, .int y.2.2.1, .int y.2.2.2.1, .int (y.2.2.2.2 : Int)]) (fun y => wkF y.1) (fun y => OpOk y.1 y.2.1 y.2.2.1 y.2.2.2.1 y.2.2.2.2) (fun y o => o = .rt (opS y.1 y.2.1 y.2.2.1 y.2.2.2.1 y.2.2.2.2).1 (wkF (opS y.1 y.2.1 y.2.2.1 y.2.2.2.1 y.2.2.2.2).2))
theorem own_thg {p a : Addr} {t : Thg} {n : Nat} {ds : List PyData} (h : owns (.thg p t :: rho n ds) a = true) : a = p := by
  have h : ((some p == some a) || owns (rho n ds) a) = true := h
  rw [owns_rho, Bool.or_false] at h
  exact (Option.some.inj (eq_of_beq h)).symm
theorem ok__law_done (T : Txt K mg) (Ex : Exs K mg) (TB2 : TabB base mg (He.cT K ("_law_done", none)).1 (P2 K)) : Fc P w K mg base "_law_done" ["_law_walk", "_law_name", "_law_place", "_law_digit", "_law_steps"] 8 (sp__law_done K) := by
  obtain ⟨fd, F⟩ := T.d__law_done
  have hbn := FunD.bindsN (ps := ["_law_walk", "_law_name", "_law_place", "_law_digit", "_law_steps"]) F (fun _ _ _ _ _ _ us hl => match us, hl with | [_, _, _, _, _], _ => rfl)
  have kp := F.kp
  obtain ⟨oc, od, dV, kV, doc, pm, an, cdv, ct, osl, rfl, lk, hcd, _, _⟩ := F.ex
  obtain ⟨c, rfl⟩ := He.codeIn_ref hcd
  have e : (He.cT K ("_law_done", none)).1 = c := He.codeOf_eq (p := ("_law_done", none)) lk rfl
  rw [e] at TB2
  refine ⟨_, _, T.g__law_done, kp, hbn, fn_Mc (np := 0) lk hcd sc__law_done (fun pre U H ⟨e, _⟩ => by rw [e]; rfl) (fun _ => rfl) (by decide) fun A outer s H E hr O U p h y pre hd ⟨e1, e2, hc2⟩ ho => ?_⟩
  subst e1
  obtain ⟨z, nm, pl, dg, st⟩ := y
  have hd : OpOk z nm pl dg st := hd
  have hUP : U (P2 K) = true := by rw [e2]; exact beq_self_eq_true _
  have hc3 : Cell (some lamQ2) (rem p H) (P2 K) := hc2.rem (fun q => by rw [q, h.up] at hUP; cases hUP) (fun φ q => by obtain ⟨u, h1, dx, fv, e, _⟩ := ho; rw [h1, e] at q; cases q)
  have LW : LawOk (mC P w K mg base ["_law_walk", "_law_name", "_law_place", "_law_digit", "_law_steps"] "_law_done" (defScope s__law_done) (He.ga K "_law_done") (.ref c) A outer s H E 7 hr O U p h) (defScope s__law_done) 5 lamQ2 := ⟨⟨c, P2 K, rfl, TB2, hUP, hc3⟩, hr, rfl, rfl⟩
  have hx0 : ∀ {n : Nat} {ds : List PyData} σ H', Env (mC P w K mg base ["_law_walk", "_law_name", "_law_place", "_law_digit", "_law_steps"] "_law_done" (defScope s__law_done) (He.ga K "_law_done") (.ref c) A outer s H E 7 hr O U p h) (.thg p (objT (wC K) (wkF z)) :: rho n ds) σ H' → ∀ a, owns (.thg p (objT (wC K) (wkF z)) :: rho n ds) a = true → ∀ φ, H' a ≠ some (.ext φ) := fun σ H' E' a ha φ q => by
    rw [own_thg ha] at q
    obtain ⟨_, _, _, dx, fv, e1, _⟩ := E'.obj_of (i := 0) rfl
    rw [e1] at q
    cases q
  have fin : ∀ {o : OutM}, toldR K o (opS z nm pl dg st) → (∀ d fs', o = .rt d fs' → toldF K (.thg p (objT (wC K) (wkF z)) :: rho 4 [.str nm, .int pl, .int dg, .int (st : Int)]) (outM 0 p (wC K) (fun o => o = .rt (opS z nm pl dg st).1 (wkF (opS z nm pl dg st).2))) (.rt d ((.thg p (objT (wC K) (wkF z)) :: rho 4 [.str nm, .int pl, .int dg, .int (st : Int)]).set 0 (.thg p (objT (wC K) fs'))))) ∧ ∀ c fs', o = .ex c fs' → toldF K (.thg p (objT (wC K) (wkF z)) :: rho 4 [.str nm, .int pl, .int dg, .int (st : Int)]) (outM 0 p (wC K) (fun o => o = .rt (opS z nm pl dg st).1 (wkF (opS z nm pl dg st).2))) (.ex c ((.thg p (objT (wC K) (wkF z)) :: rho 4 [.str nm, .int pl, .int dg, .int (st : Int)]).set 0 (.thg p (objT (wC K) fs')))) := fun {o} ht => by
    refine ⟨fun d fs' eo => ?_, fun c fs' eo => ?_⟩
    · obtain ⟨e1, e2⟩ := ht.1 d fs' eo
      exact ⟨fun a => rfl, fs', rfl, by rw [e1, e2]⟩
    · obtain ⟨x, hx, e1, e2, e3⟩ := ht.2 c fs' eo
      exact ⟨fun a => rfl, x, hx, e1, fs', rfl, by rw [e2, e3]⟩
  rcases hd.hn with rfl | rfl | rfl | rfl
  · obtain ⟨f1, f2⟩ := fin told_put
    refine ws_cons (ws_ifd (k := true) (DT.to (dt_eqD (x := .str "put") (y := .str "put") (by decide +kernel) (by decide +kernel) (de_var 1 rfl rfl (.inl rfl)) de_str) (by decide +kernel)) (fun _ => ?_) (fun h => by cases h))
    exact ws_one (ws_retE (ew_told T Ex LW (by decide +kernel) rfl rfl (fun _ _ _ _ _ => rfl) hx0 fun A2 outer2 s2 H2 E2 f2' c2 hr2 => ew_meth 0 (z, PyData.int pl, PyData.int dg) rfl (ok_put T) rfl (.inr (.inr rfl)) T.w_c rfl (da_cons (de_var 2 rfl rfl (.inr (.inr rfl))) (da_cons (de_var 3 rfl rfl (.inr (.inr rfl))) da_nil)) hd.hz (fun d fs' e => f1 d fs' e.symm) (fun c fs' e => f2 c fs' e.symm)))
  · obtain ⟨f1, f2⟩ := fin (told_go hd.hs)
    refine ws_cons (ws_ifd (k := false) (DT.to (dt_eqD (x := .str "go") (y := .str "put") (by decide +kernel) (by decide +kernel) (de_var 1 rfl rfl (.inl rfl)) de_str) (by decide +kernel)) (fun h => by cases h) fun _ => ws_nil ?_)
    refine ws_cons (ws_ifd (k := true) (DT.to (dt_eqD (x := .str "go") (y := .str "go") (by decide +kernel) (by decide +kernel) (de_var 1 rfl rfl (.inl rfl)) de_str) (by decide +kernel)) (fun _ => ?_) (fun h => by cases h))
    exact ws_one (ws_retE (ew_told T Ex LW (by decide +kernel) rfl rfl (fun _ _ _ _ _ => rfl) hx0 fun A2 outer2 s2 H2 E2 f2' c2 hr2 => ew_meth 0 (z, PyData.int (st : Int)) rfl (ok_go T) rfl (.inr (.inr rfl)) T.w_c rfl (da_cons (de_var 4 rfl rfl (.inr (.inr rfl))) da_nil) hd.hz (fun d fs' e => f1 d fs' e.symm) (fun c fs' e => f2 c fs' e.symm)))
  · obtain ⟨f1, f2⟩ := fin told_undo
    refine ws_cons (ws_ifd (k := false) (DT.to (dt_eqD (x := .str "undo") (y := .str "put") (by decide +kernel) (by decide +kernel) (de_var 1 rfl rfl (.inl rfl)) de_str) (by decide +kernel)) (fun h => by cases h) fun _ => ws_nil ?_)
    refine ws_cons (ws_ifd (k := false) (DT.to (dt_eqD (x := .str "undo") (y := .str "go") (by decide +kernel) (by decide +kernel) (de_var 1 rfl rfl (.inl rfl)) de_str) (by decide +kernel)) (fun h => by cases h) fun _ => ws_nil ?_)
    refine ws_cons (ws_ifd (k := true) (DT.to (dt_eqD (x := .str "undo") (y := .str "undo") (by decide +kernel) (by decide +kernel) (de_var 1 rfl rfl (.inl rfl)) de_str) (by decide +kernel)) (fun _ => ?_) (fun h => by cases h))
    exact ws_one (ws_retE (ew_told T Ex LW (by decide +kernel) rfl rfl (fun _ _ _ _ _ => rfl) hx0 fun A2 outer2 s2 H2 E2 f2' c2 hr2 => ew_meth0 0 z rfl (ok_undo T) rfl (.inr (.inr rfl)) T.w_c rfl rfl hd.hz (fun d fs' e => f1 d fs' e.symm) (fun c fs' e => f2 c fs' e.symm)))
  · obtain ⟨f1, f2⟩ := fin told_redo
    refine ws_cons (ws_ifd (k := false) (DT.to (dt_eqD (x := .str "redo") (y := .str "put") (by decide +kernel) (by decide +kernel) (de_var 1 rfl rfl (.inl rfl)) de_str) (by decide +kernel)) (fun h => by cases h) fun _ => ws_nil ?_)
    refine ws_cons (ws_ifd (k := false) (DT.to (dt_eqD (x := .str "redo") (y := .str "go") (by decide +kernel) (by decide +kernel) (de_var 1 rfl rfl (.inl rfl)) de_str) (by decide +kernel)) (fun h => by cases h) fun _ => ws_nil ?_)
    refine ws_cons (ws_ifd (k := false) (DT.to (dt_eqD (x := .str "redo") (y := .str "undo") (by decide +kernel) (by decide +kernel) (de_var 1 rfl rfl (.inl rfl)) de_str) (by decide +kernel)) (fun h => by cases h) fun _ => ws_nil ?_)
    exact ws_one (ws_retE (ew_told T Ex LW (by decide +kernel) rfl rfl (fun _ _ _ _ _ => rfl) hx0 fun A2 outer2 s2 H2 E2 f2' c2 hr2 => ew_meth0 0 z rfl (ok_redo T) rfl (.inr (.inr rfl)) T.w_c rfl rfl hd.hz (fun d fs' e => f1 d fs' e.symm) (fun c fs' e => f2 c fs' e.symm)))
end DD

namespace DD
open PySem L2
variable [Nu] {P : Program} {w : World} {K : PySem.W.Frag} {mg : Str → Option Value} {base : Heap}
/-! ### _law_next -/
def nextD (b : Int) (r : List Int) (nm : Str) (pl dg : Int) (st : Nat) : PyData :=
  if nm = "put" then (if isW (.int pl) 0 ((r.length : Int) - 1) = true then (if isW (.int dg) 0 (b - 1) = true then tI (putI r pl.toNat dg) else errD "InvalidDigit") else errD "InvalidPlace") else tI (orb b r st)
theorem sc__law_next : FnScope ["_law_name", "_law_base", "_law_row", "_law_place", "_law_digit", "_law_steps", "_law_turn_here"] ["_law_name", "_law_base", "_law_row", "_law_place", "_law_digit", "_law_steps"] (defScope s__law_next) := ⟨rfl, rfl, rfl, by decide +kernel, rfl, by decide +kernel, by decide +kernel⟩
abbrev sp__law_next (K : PySem.W.Frag) : Sp := spF (α := Str × Int × List Int × Int × Int × Nat) (fun x => [.str x.1, .int x.2.1, tI x.2.2.1, .int x.2.2.2.1, .int x.2.2.2.2.1, .int (x.2.2.2.2.2 : Int)]) (fun x => (x.1 = "put" ∨ x.1 = "go") ∧ Base x.2.1 ∧ Row x.2.1 x.2.2.1 ∧ (0 ≤ x.2.2.2.1 ∧ x.2.2.2.1 ≤ x.2.2.1.length) ∧ (0 ≤ x.2.2.2.2.1 ∧ x.2.2.2.2.1 ≤ x.2.1) ∧ x.2.2.2.2.2 ≤ 3) (fun x => .rt (nextD x.2.1 x.2.2.1 x.1 x.2.2.2.1 x.2.2.2.2.1 x.2.2.2.2.2))
theorem ok__law_next (T : Txt K mg) : Fc P w K mg base "_law_next" ["_law_name", "_law_base", "_law_row", "_law_place", "_law_digit", "_law_steps"] 3 (sp__law_next K) := by
  refine fc_X (st := s__law_next) T.d__law_next T.g__law_next sc__law_next (fun _ => rfl) (by decide) (fun _ _ _ _ _ _ us hl => match us, hl with | [_, _, _, _, _, _], _ => rfl) fun cdv A outer s H E hr O y hd => ?_
  obtain ⟨nm, b, r, pl, dg, st⟩ := y
  obtain ⟨hn, hb, hrow, ⟨p0, p1⟩, ⟨d0, d1⟩, hs⟩ := hd
  simp only at hn hb hrow p0 p1 d0 d1 hs
  have hl := hrow.1
  have b1 : 1 ≤ b := by have := hb.1; omega
  rcases hn with rfl | rfl
  · refine dss_cons (ds_ifd (k := true) (DT.to (dt_eqD (x := .str "put") (y := .str "put") (by decide +kernel) (by decide +kernel) (de_var 0 rfl rfl (.inl rfl)) de_str) (by decide +kernel)) (fun _ => ?_) (fun h => by cases h))
    refine dss_cons (ds_ifd (k := decide (pl ≥ (r.length : Int))) (dt_cmp op_ge rfl (de_var 3 rfl rfl (.inl rfl)) (DE.to (de_lenT (ds := iv r) rfl T.n_len (de_var 2 rfl rfl (.inl rfl))) (by rw [iv_len])) rb_ge) (fun h => dss_one (ds_retd (de_tup (da_cons de_str (da_cons de_str da_nil)) (by show 2 ≤ _; omega)) ?_)) (fun h => dss_nil ?_))
    · have h : (r.length : Int) ≤ pl := of_decide_eq_true h
      show Out.rt _ = Out.rt (nextD b r "put" pl dg st)
      unfold nextD
      rw [if_pos rfl, if_neg (by unfold isW; rw [Bool.and_eq_true, decide_eq_true_iff, decide_eq_true_iff]; omega)]
    have h : ¬ (r.length : Int) ≤ pl := of_decide_eq_false h
    obtain ⟨i, rfl⟩ : ∃ i : Nat, pl = (i : Int) := ⟨pl.toNat, by omega⟩
    have hw : isW (.int (i : Int)) 0 ((r.length : Int) - 1) = true := by unfold isW; rw [Bool.and_eq_true, decide_eq_true_iff, decide_eq_true_iff]; omega
    refine dss_one (ds_retd (d := if decide (dg < b) = true then tI (putI r i dg) else errD "InvalidDigit") (de_ifd (k := decide (dg < b)) (dt_cmp op_lt rfl (de_var 4 rfl rfl (.inl rfl)) (de_var 1 rfl rfl (.inl rfl)) rb_lt) (fun hk => ?_) (fun hk => ?_)) ?_)
    · rw [if_pos hk]
      refine DE.to (de_catT (xs := iv (r.take i ++ [dg])) (ys := iv (r.drop (i + 1))) (DE.to (de_catT (xs := iv (r.take i)) (ys := [.int dg]) (DE.to (de_slT (ds := iv r) (de_var 2 rfl rfl (.inl rfl)) do_none (do_some (de_var 3 rfl rfl (.inl rfl)))) ?_) (de_tup (da_cons (de_var 4 rfl rfl (.inl rfl)) da_nil) (by show 1 ≤ _; omega)) ?_) (by rw [iv_app]; rfl)) (DE.to (de_slT (ds := iv r) (de_var 2 rfl rfl (.inl rfl)) (do_some (de_add (de_var 3 rfl rfl (.inl rfl)) de_int)) do_none) ?_) ?_) ?_
      · rw [cutD_to (by rw [iv_len]; omega)]
        unfold iv
        rw [List.map_take]
      · rw [iv_len, List.length_take]; show _ + 1 ≤ _; omega
      · rw [show ((i : Int) + 1) = ((i + 1 : Nat) : Int) by omega, cutD_from (by rw [iv_len]; omega)]
        unfold iv
        rw [List.map_drop]
      · rw [iv_len, iv_len, List.length_append, List.length_take, List.length_drop]; show _ + 1 + _ ≤ _; omega
      · rw [← iv_app, List.append_assoc]
        rfl
    · rw [if_neg (by rw [hk]; decide)]
      exact de_tup (da_cons de_str (da_cons de_str da_nil)) (by show 2 ≤ _; omega)
    · show Out.rt _ = Out.rt (nextD b r "put" (i : Int) dg st)
      unfold nextD
      rw [if_pos rfl, if_pos hw]
      by_cases q : dg < b
      · rw [if_pos (by rw [decide_eq_true q]), if_pos (by unfold isW; rw [Bool.and_eq_true, decide_eq_true_iff, decide_eq_true_iff]; omega), Int.toNat_natCast]
      · rw [if_neg (by rw [decide_eq_false q]; decide), if_neg (by unfold isW; rw [Bool.and_eq_true, decide_eq_true_iff, decide_eq_true_iff]; omega)]
  · refine dss_cons (ds_ifd (k := false) (DT.to (dt_eqD (x := .str "go") (y := .str "put") (by decide +kernel) (by decide +kernel) (de_var 0 rfl rfl (.inl rfl)) de_str) (by decide +kernel)) (fun h => by cases h) fun _ => dss_nil ?_)
    refine dss_cons (ds_for (dit_range rfl T.n_range (de_var 5 rfl rfl (.inl rfl)) (by simp only; omega)) (fun _ k ρ => ∃ sv, ρ = [.dat (.str "go"), .dat (.int b), .dat (tI (orb b r k)), .dat (.int pl), .dat (.int dg), .dat (.int (st : Int)), sv]) (fun _ _ => ⟨.no, rfl⟩) (fun ds k d ρ' e hk _ => dg_name 6 sc__law_next.nd rfl (.inl rfl)) ?_ ?_ (passes_of rfl))
    · rintro ds k d ρ' rfl hk ⟨sv, rfl⟩
      exact dss_one (ds_setd 2 (de_f (b, orb b r k) (ok__law_step T) rfl (da_cons (de_var 1 rfl rfl (.inl rfl)) (da_cons (de_var 2 rfl rfl (.inl rfl)) da_nil)) ⟨hb, orb_row b1 hrow k⟩ rfl) ⟨.dat d, rfl⟩ sc__law_next.nd rfl (.inl rfl))
    · rintro ds ρ' rfl ⟨sv, rfl⟩
      refine dss_one (ds_retd (de_var 2 rfl rfl (.inl rfl)) ?_)
      show Out.rt _ = Out.rt (nextD b r "go" pl dg st)
      unfold nextD
      rw [if_neg (by decide), rangeD_len]
      rfl
end DD

namespace DD
open PySem L2
variable [Nu] {P : Program} {w : World} {K : PySem.W.Frag} {mg : Str → Option Value} {base : Heap}
open PySem.Spec PyProof.Rows L2H HotX LamX
/-! ### _law_turn -/
abbrev turnN : List Str := ["_law_dice", "_law_walk", "_law_base", "_law_row", "_law_earlier", "_law_undone", "_law_name", "_law_place", "_law_digit", "_law_steps", "_law_made", "_law_onward", "_law_rest"]
abbrev turnP : List Str := ["_law_dice", "_law_walk", "_law_base", "_law_row", "_law_earlier", "_law_undone"]
theorem sc__law_turn : FnScope turnN turnP (defScope s__law_turn) := ⟨rfl, rfl, rfl, by decide +kernel, rfl, by decide +kernel, by decide +kernel⟩
abbrev turnX (K : PySem.W.Frag) : List V → (Addr → Bool) → Hp → Prop := fun pre U H => ∃ a, pre = [.ref a] ∧ U = (fun b => b == a || b == P2 K) ∧ Cell none H a ∧ Cell (some lamQ2) H (P2 K)
def turnT (D : PyData × WkS) : PyData := .tuple [D.1, D.1, tI D.2.2.1, rowsP D.2.2.2.1, rowsP D.2.2.2.2]
abbrev sp__law_turn (K : PySem.W.Frag) : Sp := spM (α := WkS) (wC K) (turnX K) (fun z => [.int z.1, tI z.2.1, rowsP z.2.2.1, rowsP z.2.2.2]) wkF (fun z => WkOk z ∧ z.2.2.1.length + z.2.2.2.length ≤ 900) (fun z o => ∃ nm pl dg st, OpOk z nm pl dg st ∧ o = .rt (turnT (opS z nm pl dg st)) (wkF (opS z nm pl dg st).2))
theorem op_next {z : WkS} {nm : Str} {pl dg : Int} {st : Nat} (h : OpOk z nm pl dg st) (hn : nm = "put" ∨ nm = "go") : (nextD z.1 z.2.1 nm pl dg st = (opS z nm pl dg st).1) ∧ ((∃ x, (x = "InvalidPlace" ∨ x = "InvalidDigit") ∧ opS z nm pl dg st = (errD x, z)) ∨ ∃ r, Row z.1 r ∧ opS z nm pl dg st = (tI r, wkTo z r)) := by
  have hl := h.hz.hr.1
  have b1 : 1 ≤ z.1 := by have := h.hz.hb.1; omega
  rcases hn with rfl | rfl
  · unfold nextD opS
    rw [if_pos rfl, if_pos rfl]
    by_cases q1 : isW (.int pl) 0 ((z.2.1.length : Int) - 1) = true
    · rw [if_pos q1, if_pos q1]
      by_cases q2 : isW (.int dg) 0 (z.1 - 1) = true
      · rw [if_pos q2, if_pos q2]
        refine ⟨rfl, .inr ⟨_, ?_, rfl⟩⟩
        obtain ⟨i, e1, i1, i2⟩ := isW_int q1
        injection e1 with e1
        obtain ⟨g, e2, g1, g2⟩ := isW_int q2
        injection e2 with e2
        exact put_row h.hz.hr (by omega) (by omega)
      · rw [if_neg q2, if_neg q2]
        exact ⟨rfl, .inl ⟨_, .inr rfl, rfl⟩⟩
    · rw [if_neg q1, if_neg q1]
      exact ⟨rfl, .inl ⟨_, .inl rfl, rfl⟩⟩
  · unfold nextD opS
    rw [if_neg (by decide), if_neg (by decide), if_pos rfl]
    exact ⟨rfl, .inr ⟨_, orb_row b1 h.hz.hr st, rfl⟩⟩
theorem op_undo {z : WkS} {pl dg : Int} {st : Nat} : opS z "undo" pl dg st = match z.2.2.1.getLast? with
    | some r => (tI r, (z.1, r, z.2.2.1.dropLast, z.2.2.2 ++ [z.2.1]))
    | none => (errD "NothingToUndo", z) := by
  unfold opS
  rw [if_neg (by decide), if_neg (by decide), if_pos rfl]
  all_goals (cases z.2.2.1.getLast? <;> rfl)
theorem op_redo {z : WkS} {pl dg : Int} {st : Nat} : opS z "redo" pl dg st = match z.2.2.2.getLast? with
    | some r => (tI r, (z.1, r, z.2.2.1 ++ [z.2.1], z.2.2.2.dropLast))
    | none => (errD "NothingToUndo", z) := by
  unfold opS
  rw [if_neg (by decide), if_neg (by decide), if_neg (by decide)]
  all_goals (cases z.2.2.2.getLast? <;> rfl)
theorem eqv_tup1 (n : Int) : PyData.eqv (.tuple [.int n]) (.tuple [.str "error"]) = false := by
  simp [PyData.eqv, PyData.eqvAll]
theorem ok__law_turn (T : Txt K mg) (Ex : Exs K mg) (TB2 : TabB base mg (He.cT K ("_law_done", none)).1 (P2 K)) : Fc P w K mg base "_law_turn" turnP 9 (sp__law_turn K) := by
  obtain ⟨fd, F⟩ := T.d__law_turn
  have hbn := FunD.bindsN (ps := turnP) F (fun _ _ _ _ _ _ us hl => match us, hl with | [_, _, _, _, _, _], _ => rfl)
  have kp := F.kp
  obtain ⟨oc, od, dV, kV, doc, pm, an, cdv, ct, osl, rfl, lk, hcd, _, _⟩ := F.ex
  refine ⟨_, _, T.g__law_turn, kp, hbn, fn_Mc (np := 1) lk hcd sc__law_turn (fun pre U H ⟨a, e, _⟩ => by rw [e]; rfl) (fun _ => rfl) (by decide) fun A outer s H E hr O U p h z pre hd ⟨a, e1, e2, hca, hc2⟩ ho => ?_⟩
  subst e1
  obtain ⟨hz, few⟩ := hd
  have hUa : U a = true := by rw [e2]; simp
  have hUP : U (P2 K) = true := by rw [e2]; simp
  have hx : ∀ φ, H p ≠ some (.ext φ) := fun φ q => by obtain ⟨u, h1, dx, fv, e, _⟩ := ho; rw [h1, e] at q; cases q
  have hc3 : Cell (some lamQ2) (rem p H) (P2 K) := hc2.rem (fun q => by rw [q, h.up] at hUP; cases hUP) hx
  have hca3 : Cell none (rem p H) a := hca.rem (fun q => by rw [q, h.up] at hUa; cases hUa) hx
  have hb := hz.hb
  have hl := hz.hr.1
  have b2 := hb.1
  have b12 := hb.2
  obtain ⟨C, eC⟩ : ∃ C, C = mC P w K mg base turnN "_law_turn" (defScope s__law_turn) (He.ga K "_law_turn") cdv A outer s H E 8 hr O U p h := ⟨_, rfl⟩
  refine ws_cons (ws_set 6 (P := fun d => ∃ nm : Str, d = .str nm ∧ (nm = "put" ∨ nm = "go" ∨ nm = "undo" ∨ nm = "redo")) (de_ixLI (ds := [.str "put", .str "put", .str "go", .str "undo", .str "undo", .str "redo", .str "redo"]) (A := fun i => 0 ≤ i ∧ i < 7) (de_lst (da_cons de_str (da_cons de_str (da_cons de_str (da_cons de_str (da_cons de_str (da_cons de_str (da_cons de_str da_nil)))))))) (DE.imp (de_dice 0 7 (ok__law_roll T) rfl hUa hca3 rfl rfl (.inl rfl) (da_cons de_int da_nil) (by decide) (fun d h => h)) fun d ⟨r, e, h⟩ => ⟨r, e, h⟩) fun i hi => ?_) ?_ sc__law_turn.nd rfl (.inl rfl))
  · have hc : i = 0 ∨ i = 1 ∨ i = 2 ∨ i = 3 ∨ i = 4 ∨ i = 5 ∨ i = 6 := by omega
    rcases hc with rfl | rfl | rfl | rfl | rfl | rfl | rfl
    · exact ⟨_, rfl, "put", rfl, by simp⟩
    · exact ⟨_, rfl, "put", rfl, by simp⟩
    · exact ⟨_, rfl, "go", rfl, by simp⟩
    · exact ⟨_, rfl, "undo", rfl, by simp⟩
    · exact ⟨_, rfl, "undo", rfl, by simp⟩
    · exact ⟨_, rfl, "redo", rfl, by simp⟩
    · exact ⟨_, rfl, "redo", rfl, by simp⟩
  rintro d ⟨nm, rfl, hnm⟩
  refine ws_cons (ws_par3 7 8 9 (P3 := fun d d' d'' => ∃ (pl dg : Int) (st : Nat), d = .int pl ∧ d' = .int dg ∧ d'' = .int (st : Int) ∧ (0 ≤ pl ∧ pl ≤ z.2.1.length) ∧ (0 ≤ dg ∧ dg ≤ z.1) ∧ st ≤ 3) ?_ ?_ sc__law_turn.nd rfl rfl rfl (by decide) (by decide) (by decide) rfl rfl rfl rfl)
  · refine da_consG (P1 := fun d => ∃ r : Int, d = .int r ∧ 0 ≤ r ∧ r < (z.2.1.length : Int) + 1) (de_dice 0 ((z.2.1.length : Int) + 1) (ok__law_roll T) rfl hUa hca3 rfl rfl (.inl rfl) (da_cons (de_add (DE.to (de_lenT (ds := iv z.2.1) rfl T.n_len (de_var 3 rfl rfl (.inl rfl))) (by rw [iv_len])) de_int) da_nil) ⟨by omega, by omega⟩ (fun d h => h)) fun d1 ⟨r1, h1, h1a, h1b⟩ => ?_
    refine da_consG (P1 := fun d => ∃ r : Int, d = .int r ∧ 0 ≤ r ∧ r < z.1 + 1) (de_dice 0 (z.1 + 1) (ok__law_roll T) rfl hUa hca3 rfl rfl (.inl rfl) (da_cons (de_add (de_var 2 rfl rfl (.inl rfl)) de_int) da_nil) ⟨by omega, by omega⟩ (fun d h => h)) fun d2 ⟨r2, h2, h2a, h2b⟩ => ?_
    refine da_consG (P1 := fun d => ∃ r : Int, d = .int r ∧ 0 ≤ r ∧ r < 4) (de_dice 0 4 (ok__law_roll T) rfl hUa hca3 rfl rfl (.inl rfl) (da_cons de_int da_nil) (by decide) (fun d h => h)) fun d3 ⟨r3, h3, h3a, h3b⟩ => ?_
    exact da_nilG ⟨[d1, d2, d3], rfl, d1, d2, d3, rfl, r1, r2, r3.toNat, h1, h2, by rw [h3, Int.toNat_of_nonneg h3a], ⟨h1a, by omega⟩, ⟨h2a, by omega⟩, by omega⟩
  rintro d d' d'' ⟨pl, dg, st, rfl, rfl, rfl, hpl, hdg, hst⟩
  have ok : OpOk z nm pl dg st := ⟨hz, few, hnm, hpl, hdg, hst⟩
  refine ws_cons (ws_setE 10 (ew_fun 1 (U' := fun b => b == P2 K) (z, nm, pl, dg, st) rfl (ok__law_done T Ex TB2) rfl rfl (.inl rfl) (fun σ H' E' => ⟨rfl, rfl, E'.gr.cell _ _ hUP hc3⟩) (fun b hb => by rw [eq_of_beq hb]; exact hUP) (da_cons (de_var 6 rfl rfl (.inl rfl)) (da_cons (de_var 7 rfl rfl (.inl rfl)) (da_cons (de_var 8 rfl rfl (.inl rfl)) (da_cons (de_var 9 rfl rfl (.inl rfl)) da_nil)))) ok (fun d fs' e => ?_) (fun c fs' e => by cases e)) sc__law_turn.nd rfl (.inl rfl))
  injection e with e1 e2
  subst e1 e2
  have res : ∀ {ρ' : Rho}, gt ρ' 1 = .thg p (objT (wC K) (wkF (opS z nm pl dg st).2)) → outM 1 p (wC K) (fun o => ∃ nm pl dg st, OpOk z nm pl dg st ∧ o = .rt (turnT (opS z nm pl dg st)) (wkF (opS z nm pl dg st).2)) (.rt (turnT (opS z nm pl dg st)) ρ') := fun {ρ'} hg => ⟨_, hg, nm, pl, dg, st, ok, rfl⟩
  have lrow : z.2.2.1.length ≤ 900 := by omega
  have lund : z.2.2.2.length ≤ 900 := by omega
  have few' : (z.2.2.1.map tI).length + 1 ≤ 16777216 := by rw [List.length_map]; omega
  have few2 : (z.2.2.2.map tI).length + 1 ≤ 16777216 := by rw [List.length_map]; omega
  have hadd : ∀ (l : List (List Int)) (r : List Int), PyData.list (l.map tI ++ [tI r]) = rowsP (l ++ [r]) := fun l r => by rw [rowsP, List.map_append]; rfl
  rcases hnm with rfl | rfl | rfl | rfl
  · refine ws_cons (ws_ifd (k := true) (DT.to (dt_inT (x := .str "put") (ds := [.str "put", .str "go"]) (by decide +kernel) (by decide +kernel) (de_var 6 rfl rfl (.inl rfl)) (de_tup (da_cons de_str (da_cons de_str da_nil)) (by show 2 ≤ _; omega))) (by decide +kernel)) (fun _ => ?_) (fun h => by cases h))
    refine ws_cons (ws_set 11 (P := fun d => d = (opS z "put" pl dg st).1) (DE.to (de_f (("put" : Str), z.1, z.2.1, pl, dg, st) (ok__law_next T) rfl (da_cons (de_var 6 rfl rfl (.inl rfl)) (da_cons (de_var 2 rfl rfl (.inl rfl)) (da_cons (de_var 3 rfl rfl (.inl rfl)) (da_cons (de_var 7 rfl rfl (.inl rfl)) (da_cons (de_var 8 rfl rfl (.inl rfl)) (da_cons (de_var 9 rfl rfl (.inl rfl)) da_nil)))))) ⟨.inl rfl, hb, hz.hr, hpl, hdg, hst⟩ rfl) (op_next ok (.inl rfl)).1) ?_ sc__law_turn.nd rfl (.inl rfl))
    rintro d rfl
    rcases (op_next ok (.inl rfl)).2 with ⟨x, hx, e⟩ | ⟨r, hr, e⟩
    · refine ws_cons (ws_ifd (k := true) (DT.to (dt_eqD (x := .tuple [.str "error"]) (y := .tuple [.str "error"]) (by decide +kernel) (by decide +kernel) (DE.to (de_slT (ds := [.str "error", .str x]) (DE.to (de_var 11 rfl rfl (.inl rfl)) (by rw [e])) do_none (do_some de_int)) (congrArg PyData.tuple (cutD_to (k := 1) (by show 1 ≤ 2; omega)))) (de_tup (da_cons de_str da_nil) (by show 1 ≤ _; omega))) (by decide +kernel)) (fun _ => ?_) (fun h => by cases h))
      exact ws_one (ws_retd (d := turnT (opS z "put" pl dg st)) (DE.to (de_tup (da_cons (de_var 10 rfl rfl (.inl rfl)) (da_cons (de_var 11 rfl rfl (.inl rfl)) (da_cons (de_var 3 rfl rfl (.inl rfl)) (da_cons (de_var 4 rfl rfl (.inl rfl)) (da_cons (de_var 5 rfl rfl (.inl rfl)) da_nil))))) (by show 5 ≤ _; omega)) (by unfold turnT; rw [e])) (res rfl))
    · obtain ⟨n, r', rfl⟩ : ∃ n r', r = n :: r' := by
        cases r with
        | nil => have := hr.1.1; simp at this
        | cons n r' => exact ⟨n, r', rfl⟩
      refine ws_cons (ws_ifd (k := false) (DT.to (dt_eqD (x := .tuple [.int n]) (y := .tuple [.str "error"]) rfl (by decide +kernel) (DE.to (de_slT (ds := iv (n :: r')) (DE.to (de_var 11 rfl rfl (.inl rfl)) (by rw [e])) do_none (do_some de_int)) (congrArg PyData.tuple (cutD_to (k := 1) (by rw [iv_len, List.length_cons]; omega)))) (de_tup (da_cons de_str da_nil) (by show 1 ≤ _; omega))) (eqv_tup1 n)) (fun h => by cases h) fun _ => ws_nil ?_)
      exact ws_one (ws_retd (d := turnT (opS z "put" pl dg st)) (DE.to (de_tup (da_cons (de_var 10 rfl rfl (.inl rfl)) (da_cons (de_var 11 rfl rfl (.inl rfl)) (da_cons (de_var 11 rfl rfl (.inl rfl)) (da_cons (DE.to (de_catL (xs := z.2.2.1.map tI) (ys := [tI z.2.1]) (de_var 4 rfl rfl (.inl rfl)) (de_lst (da_cons (de_var 3 rfl rfl (.inl rfl)) da_nil) (by show 1 ≤ _; omega)) few') (hadd _ _)) (da_cons (de_lst da_nil) da_nil))))) (by show 5 ≤ _; omega)) (by unfold turnT; rw [e]; rfl)) (res rfl))
  · refine ws_cons (ws_ifd (k := true) (DT.to (dt_inT (x := .str "go") (ds := [.str "put", .str "go"]) (by decide +kernel) (by decide +kernel) (de_var 6 rfl rfl (.inl rfl)) (de_tup (da_cons de_str (da_cons de_str da_nil)) (by show 2 ≤ _; omega))) (by decide +kernel)) (fun _ => ?_) (fun h => by cases h))
    refine ws_cons (ws_set 11 (P := fun d => d = (opS z "go" pl dg st).1) (DE.to (de_f (("go" : Str), z.1, z.2.1, pl, dg, st) (ok__law_next T) rfl (da_cons (de_var 6 rfl rfl (.inl rfl)) (da_cons (de_var 2 rfl rfl (.inl rfl)) (da_cons (de_var 3 rfl rfl (.inl rfl)) (da_cons (de_var 7 rfl rfl (.inl rfl)) (da_cons (de_var 8 rfl rfl (.inl rfl)) (da_cons (de_var 9 rfl rfl (.inl rfl)) da_nil)))))) ⟨.inr rfl, hb, hz.hr, hpl, hdg, hst⟩ rfl) (op_next ok (.inr rfl)).1) ?_ sc__law_turn.nd rfl (.inl rfl))
    rintro d rfl
    rcases (op_next ok (.inr rfl)).2 with ⟨x, hx, e⟩ | ⟨r, hr, e⟩
    · refine ws_cons (ws_ifd (k := true) (DT.to (dt_eqD (x := .tuple [.str "error"]) (y := .tuple [.str "error"]) (by decide +kernel) (by decide +kernel) (DE.to (de_slT (ds := [.str "error", .str x]) (DE.to (de_var 11 rfl rfl (.inl rfl)) (by rw [e])) do_none (do_some de_int)) (congrArg PyData.tuple (cutD_to (k := 1) (by show 1 ≤ 2; omega)))) (de_tup (da_cons de_str da_nil) (by show 1 ≤ _; omega))) (by decide +kernel)) (fun _ => ?_) (fun h => by cases h))
      exact ws_one (ws_retd (d := turnT (opS z "go" pl dg st)) (DE.to (de_tup (da_cons (de_var 10 rfl rfl (.inl rfl)) (da_cons (de_var 11 rfl rfl (.inl rfl)) (da_cons (de_var 3 rfl rfl (.inl rfl)) (da_cons (de_var 4 rfl rfl (.inl rfl)) (da_cons (de_var 5 rfl rfl (.inl rfl)) da_nil))))) (by show 5 ≤ _; omega)) (by unfold turnT; rw [e])) (res rfl))
    · obtain ⟨n, r', rfl⟩ : ∃ n r', r = n :: r' := by
        cases r with
        | nil => have := hr.1.1; simp at this
        | cons n r' => exact ⟨n, r', rfl⟩
      refine ws_cons (ws_ifd (k := false) (DT.to (dt_eqD (x := .tuple [.int n]) (y := .tuple [.str "error"]) rfl (by decide +kernel) (DE.to (de_slT (ds := iv (n :: r')) (DE.to (de_var 11 rfl rfl (.inl rfl)) (by rw [e])) do_none (do_some de_int)) (congrArg PyData.tuple (cutD_to (k := 1) (by rw [iv_len, List.length_cons]; omega)))) (de_tup (da_cons de_str da_nil) (by show 1 ≤ _; omega))) (eqv_tup1 n)) (fun h => by cases h) fun _ => ws_nil ?_)
      exact ws_one (ws_retd (d := turnT (opS z "go" pl dg st)) (DE.to (de_tup (da_cons (de_var 10 rfl rfl (.inl rfl)) (da_cons (de_var 11 rfl rfl (.inl rfl)) (da_cons (de_var 11 rfl rfl (.inl rfl)) (da_cons (DE.to (de_catL (xs := z.2.2.1.map tI) (ys := [tI z.2.1]) (de_var 4 rfl rfl (.inl rfl)) (de_lst (da_cons (de_var 3 rfl rfl (.inl rfl)) da_nil) (by show 1 ≤ _; omega)) few') (hadd _ _)) (da_cons (de_lst da_nil) da_nil))))) (by show 5 ≤ _; omega)) (by unfold turnT; rw [e]; rfl)) (res rfl))
  · refine ws_cons (ws_ifd (k := false) (DT.to (dt_inT (x := .str "undo") (ds := [.str "put", .str "go"]) (by decide +kernel) (by decide +kernel) (de_var 6 rfl rfl (.inl rfl)) (de_tup (da_cons de_str (da_cons de_str da_nil)) (by show 2 ≤ _; omega))) (by decide +kernel)) (fun h => by cases h) fun _ => ws_nil ?_)
    refine ws_cons (ws_set 12 (P := fun d => d = rowsP z.2.2.1) (de_ifd (k := true) (DT.to (dt_eqD (x := .str "undo") (y := .str "undo") (by decide +kernel) (by decide +kernel) (de_var 6 rfl rfl (.inl rfl)) de_str) (by decide +kernel)) (fun _ => (de_var 4 rfl rfl (.inl rfl))) (fun h => by cases h)) ?_ sc__law_turn.nd rfl (.inl rfl))
    rintro d rfl
    refine ws_cons (ws_ifd (k := decide (z.2.2.1 = [])) (DT.to (dt_eqD (sh_rowsP z.2.2.1) (y := .list []) rfl (de_var 12 rfl rfl (.inl rfl)) (de_lst da_nil)) (eqv_rowsP _)) (fun hu => ?_) fun hu => ws_nil ?_)
    · have e : opS z "undo" pl dg st = (errD "NothingToUndo", z) := by
        rw [op_undo, of_decide_eq_true hu]
        rfl
      exact ws_one (ws_retd (d := turnT (opS z "undo" pl dg st)) (DE.to (de_tup (da_cons (de_var 10 rfl rfl (.inl rfl)) (da_cons (de_tup (da_cons de_str (da_cons de_str da_nil)) (by show 2 ≤ _; omega)) (da_cons (de_var 3 rfl rfl (.inl rfl)) (da_cons (de_var 4 rfl rfl (.inl rfl)) (da_cons (de_var 5 rfl rfl (.inl rfl)) da_nil))))) (by show 5 ≤ _; omega)) (by unfold turnT; rw [e])) (res rfl))
    have hne := of_decide_eq_false hu
    obtain ⟨r, hr'⟩ : ∃ r, z.2.2.1.getLast? = some r := ⟨_, List.getLast?_eq_some_getLast hne⟩
    have e : opS z "undo" pl dg st = (tI r, (z.1, r, z.2.2.1.dropLast, z.2.2.2 ++ [z.2.1])) := by
      rw [op_undo, hr']
    refine ws_cons (ws_ifd (k := true) (DT.to (dt_eqD (x := .str "undo") (y := .str "undo") (by decide +kernel) (by decide +kernel) (de_var 6 rfl rfl (.inl rfl)) de_str) (by decide +kernel)) (fun _ => ?_) (fun h => by cases h))
    exact ws_one (ws_retd (d := turnT (opS z "undo" pl dg st)) (DE.to (de_tup (da_cons (de_var 10 rfl rfl (.inl rfl)) (da_cons (de_ixL (ds := z.2.2.1.map tI) (i := -1) (de_var 12 rfl rfl (.inl rfl)) (de_neg de_int) (last_at hr')) (da_cons (de_ixL (ds := z.2.2.1.map tI) (i := -1) (de_var 12 rfl rfl (.inl rfl)) (de_neg de_int) (last_at hr')) (da_cons (DE.to (de_slL (ds := z.2.2.1.map tI) (de_var 4 rfl rfl (.inl rfl)) do_none (do_some (de_neg de_int))) (by rw [cut_last])) (da_cons (DE.to (de_catL (xs := z.2.2.2.map tI) (ys := [tI z.2.1]) (de_var 5 rfl rfl (.inl rfl)) (de_lst (da_cons (de_var 3 rfl rfl (.inl rfl)) da_nil) (by show 1 ≤ _; omega)) few2) (hadd _ _)) da_nil))))) (by show 5 ≤ _; omega)) (by unfold turnT; rw [e])) (res rfl))
  · refine ws_cons (ws_ifd (k := false) (DT.to (dt_inT (x := .str "redo") (ds := [.str "put", .str "go"]) (by decide +kernel) (by decide +kernel) (de_var 6 rfl rfl (.inl rfl)) (de_tup (da_cons de_str (da_cons de_str da_nil)) (by show 2 ≤ _; omega))) (by decide +kernel)) (fun h => by cases h) fun _ => ws_nil ?_)
    refine ws_cons (ws_set 12 (P := fun d => d = rowsP z.2.2.2) (de_ifd (k := false) (DT.to (dt_eqD (x := .str "redo") (y := .str "undo") (by decide +kernel) (by decide +kernel) (de_var 6 rfl rfl (.inl rfl)) de_str) (by decide +kernel)) (fun h => by cases h) (fun _ => (de_var 5 rfl rfl (.inl rfl)))) ?_ sc__law_turn.nd rfl (.inl rfl))
    rintro d rfl
    refine ws_cons (ws_ifd (k := decide (z.2.2.2 = [])) (DT.to (dt_eqD (sh_rowsP z.2.2.2) (y := .list []) rfl (de_var 12 rfl rfl (.inl rfl)) (de_lst da_nil)) (eqv_rowsP _)) (fun hu => ?_) fun hu => ws_nil ?_)
    · have e : opS z "redo" pl dg st = (errD "NothingToUndo", z) := by
        rw [op_redo, of_decide_eq_true hu]
        rfl
      exact ws_one (ws_retd (d := turnT (opS z "redo" pl dg st)) (DE.to (de_tup (da_cons (de_var 10 rfl rfl (.inl rfl)) (da_cons (de_tup (da_cons de_str (da_cons de_str da_nil)) (by show 2 ≤ _; omega)) (da_cons (de_var 3 rfl rfl (.inl rfl)) (da_cons (de_var 4 rfl rfl (.inl rfl)) (da_cons (de_var 5 rfl rfl (.inl rfl)) da_nil))))) (by show 5 ≤ _; omega)) (by unfold turnT; rw [e])) (res rfl))
    have hne := of_decide_eq_false hu
    obtain ⟨r, hr'⟩ : ∃ r, z.2.2.2.getLast? = some r := ⟨_, List.getLast?_eq_some_getLast hne⟩
    have e : opS z "redo" pl dg st = (tI r, (z.1, r, z.2.2.1 ++ [z.2.1], z.2.2.2.dropLast)) := by
      rw [op_redo, hr']
    refine ws_cons (ws_ifd (k := false) (DT.to (dt_eqD (x := .str "redo") (y := .str "undo") (by decide +kernel) (by decide +kernel) (de_var 6 rfl rfl (.inl rfl)) de_str) (by decide +kernel)) (fun h => by cases h) fun _ => ws_nil ?_)
    exact ws_one (ws_retd (d := turnT (opS z "redo" pl dg st)) (DE.to (de_tup (da_cons (de_var 10 rfl rfl (.inl rfl)) (da_cons (de_ixL (ds := z.2.2.2.map tI) (i := -1) (de_var 12 rfl rfl (.inl rfl)) (de_neg de_int) (last_at hr')) (da_cons (de_ixL (ds := z.2.2.2.map tI) (i := -1) (de_var 12 rfl rfl (.inl rfl)) (de_neg de_int) (last_at hr')) (da_cons (DE.to (de_catL (xs := z.2.2.1.map tI) (ys := [tI z.2.1]) (de_var 4 rfl rfl (.inl rfl)) (de_lst (da_cons (de_var 3 rfl rfl (.inl rfl)) da_nil) (by show 1 ≤ _; omega)) few') (hadd _ _)) (da_cons (DE.to (de_slL (ds := z.2.2.2.map tI) (de_var 5 rfl rfl (.inl rfl)) do_none (do_some (de_neg de_int))) (by rw [cut_last])) da_nil))))) (by show 5 ≤ _; omega)) (by unfold turnT; rw [e])) (res rfl))
end DD

namespace DD
open PySem L2
variable [Nu] {P : Program} {w : World} {K : PySem.W.Frag} {mg : Str → Option Value} {base : Heap}
open PySem.Spec PyProof.Rows L2H HotX LamX
/-! ## the law -/
abbrev lawN : List Str := ["_law_script", "_law_dice", "_law_base", "_law_row", "_law_walk", "_law_earlier", "_law_undone", "_law_turn_here", "_law_made", "_law_due", "_law_bad"]
theorem sc_law : FnScope lawN ["_law_script"] (defScope s_law) := ⟨rfl, rfl, rfl, by decide +kernel, rfl, by decide +kernel, by decide +kernel⟩
theorem op_ok {z : WkS} {nm : Str} {pl dg : Int} {st : Nat} (h : OpOk z nm pl dg st) : WkOk (opS z nm pl dg st).2 ∧ (opS z nm pl dg st).2.1 = z.1 ∧ (opS z nm pl dg st).2.2.2.1.length + (opS z nm pl dg st).2.2.2.2.length ≤ z.2.2.1.length + z.2.2.2.length + 1 ∧ SeqAt.shaped (opS z nm pl dg st).1 = true := by
  have few := h.few
  have stay : ∀ {x : Str}, PyData.strOk x = true → opS z nm pl dg st = (errD x, z) → WkOk (opS z nm pl dg st).2 ∧ (opS z nm pl dg st).2.1 = z.1 ∧ (opS z nm pl dg st).2.2.2.1.length + (opS z nm pl dg st).2.2.2.2.length ≤ z.2.2.1.length + z.2.2.2.length + 1 ∧ SeqAt.shaped (opS z nm pl dg st).1 = true := fun {x} hx e => by
    rw [e]
    exact ⟨h.hz, rfl, Nat.le_succ _, sh_err x hx⟩
  rcases h.hn with q | q | q | q
  · rcases (op_next h (.inl q)).2 with ⟨x, hx, e⟩ | ⟨r, hr, e⟩
    · exact stay (by rcases hx with rfl | rfl <;> decide +kernel) e
    · rw [e]
      refine ⟨h.hz.to hr (by omega), rfl, ?_, shT r⟩
      show (z.2.2.1 ++ [z.2.1]).length + 0 ≤ _
      rw [List.length_append]
      show _ + 1 + 0 ≤ _
      omega
  · rcases (op_next h (.inr q)).2 with ⟨x, hx, e⟩ | ⟨r, hr, e⟩
    · exact stay (by rcases hx with rfl | rfl <;> decide +kernel) e
    · rw [e]
      refine ⟨h.hz.to hr (by omega), rfl, ?_, shT r⟩
      show (z.2.2.1 ++ [z.2.1]).length + 0 ≤ _
      rw [List.length_append]
      show _ + 1 + 0 ≤ _
      omega
  · subst q
    cases e : z.2.2.1.getLast? with
    | none => exact stay (x := "NothingToUndo") (by decide +kernel) (by rw [op_undo, e])
    | some r =>
      have e' : opS z "undo" pl dg st = (tI r, (z.1, r, z.2.2.1.dropLast, z.2.2.2 ++ [z.2.1])) := by rw [op_undo, e]
      have hm : r ∈ z.2.2.1 := List.mem_of_getLast? e
      have hl : z.2.2.1.dropLast.length + 1 = z.2.2.1.length := by rw [List.length_dropLast]; have := List.length_pos_of_mem hm; omega
      rw [e']
      refine ⟨⟨h.hz.hb, h.hz.he r hm, ?_, fun x hx => h.hz.he x (List.dropLast_subset _ hx), fun x hx => ?_⟩, rfl, ?_, shT r⟩
      · show z.2.2.1.dropLast.length + (z.2.2.2 ++ [z.2.1]).length ≤ 1000
        rw [List.length_append]
        show _ + (_ + 1) ≤ _
        omega
      · rcases List.mem_append.mp hx with hx | hx
        · exact h.hz.hu x hx
        · rw [List.mem_singleton.mp hx]; exact h.hz.hr
      · show z.2.2.1.dropLast.length + (z.2.2.2 ++ [z.2.1]).length ≤ _
        rw [List.length_append]
        show _ + (_ + 1) ≤ _
        omega
  · subst q
    cases e : z.2.2.2.getLast? with
    | none => exact stay (x := "NothingToUndo") (by decide +kernel) (by rw [op_redo, e])
    | some r =>
      have e' : opS z "redo" pl dg st = (tI r, (z.1, r, z.2.2.1 ++ [z.2.1], z.2.2.2.dropLast)) := by rw [op_redo, e]
      have hm : r ∈ z.2.2.2 := List.mem_of_getLast? e
      have hl : z.2.2.2.dropLast.length + 1 = z.2.2.2.length := by rw [List.length_dropLast]; have := List.length_pos_of_mem hm; omega
      rw [e']
      refine ⟨⟨h.hz.hb, h.hz.hu r hm, ?_, fun x hx => ?_, fun x hx => h.hz.hu x (List.dropLast_subset _ hx)⟩, rfl, ?_, shT r⟩
      · show (z.2.2.1 ++ [z.2.1]).length + z.2.2.2.dropLast.length ≤ 1000
        rw [List.length_append]
        show _ + 1 + _ ≤ _
        omega
      · rcases List.mem_append.mp hx with hx | hx
        · exact h.hz.he x hx
        · rw [List.mem_singleton.mp hx]; exact h.hz.hr
      · show (z.2.2.1 ++ [z.2.1]).length + z.2.2.2.dropLast.length ≤ _
        rw [List.length_append]
        show _ + 1 + _ ≤ _
        omega
theorem iniR_bad {K : PySem.W.Frag} {b : Int} (hb : Base b) {o : OutM} : iniR K (.int b) (tI []) o = ∃ fs, o = .ex (He.ga K "InvalidRow") fs := by
  have e : fNR K (.int b) (tI []) = .ex (He.ga K "InvalidRow") := by
    unfold fNR
    rw [hb.ok, if_pos rfl]
    rfl
  unfold iniR
  rw [e]
theorem law_turn (T : Txt K mg) (Ex : Exs K mg) {c Pt : Addr} (TB : TabB base mg c Pt) (TB2 : TabB base mg (He.cT K ("_law_done", none)).1 (P2 K)) (A : Around) (outer : List PySem.Env) (s : Shared) (H : Hp) (E : XK) (hr : Room 9 (A.deeper (envOfC "law" (defScope s_law) s.heap.objs.size (He.ga K "law") (.ref c)))) (U : Addr → Bool) (H1 : Hp) (a : Addr) (hUa : U a = true) (hca : Cell none H1 a) (hUP : U Pt = true) (hcP : Cell (some lamQ) H1 Pt) (hUP2 : U (P2 K) = true) (hcP2 : Cell (some lamQ2) H1 (P2 K)) :
    DSs (lawC P w K mg base lawN (defScope s_law) (He.ga K "law") (.ref c) A outer s H E 9 hr U H1) (turnF (fun ρ => ρ.length = lawN.length) fun _ => False) (.no :: .raw (.ref a) :: List.replicate 9 .no) (forBody (defBody s_law)) := by
  have LW : LawOk (lawC P w K mg base lawN (defScope s_law) (He.ga K "law") (.ref c) A outer s H E 9 hr U H1) (defScope s_law) 6 lamQ := ⟨⟨c, Pt, rfl, TB, hUP, hcP⟩, hr.mono (by omega), rfl, rfl⟩
  refine dss_cons (ds_set 2 (P := fun d => ∃ b : Int, d = .int b ∧ LBase b) (de_dice 1 () (ok__law_any_base T) rfl hUa hca rfl rfl (.inl rfl) da_nil trivial (fun d h => h)) ?_ sc_law.nd rfl (.inr rfl))
  rintro d ⟨b, rfl, hlb⟩
  have hb := hlb.b
  have b2 := hb.1
  have b12 := hb.2
  refine dss_cons (ds_set 3 (P := fun d => ∃ ns, d = tI ns ∧ Row b ns) (DE.imp (de_dice 1 (b, 8) (ok__law_any_row T) rfl hUa hca rfl rfl (.inl rfl) (da_cons (de_var 2 rfl rfl (.inr (.inl rfl))) (da_cons de_int da_nil)) ⟨hb, by show (1 : Int) ≤ 8; decide, by show (8 : Int) ≤ 8; decide⟩ (fun d h => h)) fun d ⟨ns, e, h, _⟩ => ⟨ns, e, h⟩) ?_ sc_law.nd rfl (.inl rfl))
  rintro d ⟨ns, rfl, hrow⟩
  have hz0 : WkOk (b, ns, [], []) := ⟨hb, hrow, by show 0 + 0 ≤ 1000; omega, fun r h => (nomatch h), fun r h => (nomatch h)⟩
  refine dss_cons (ds_newW 4 5 6 (fs := wkF (b, ns, [], [])) (PyData.int b, tI ns) (ok_ini T) (fun _ _ _ _ _ h => h) rfl T.w_g (da_cons (de_var 2 rfl rfl (.inr (.inl rfl))) (da_cons (de_var 3 rfl rfl (.inl rfl)) da_nil)) trivial (fun d fs' h => by have := iniR_ok hb hrow h; injection this with h1 h2; exact ⟨h1, h2⟩) (fun c fs' h => by have := iniR_ok hb hrow h; cases this) (fun q => ?_) sc_law.nd rfl rfl rfl (by show 4 < 11; omega) (.inr rfl) (.inl rfl) (.inl rfl) (.inl rfl) (.inl rfl) (.inl rfl))
  refine dss_cons (ds_for (dit_range (i := 16) rfl T.n_range de_int (by decide)) (fun _ k ρ => ∃ (r : List Int) (e u : List (List Int)) (s7 s8 s9 : SV), s7.addr = none ∧ s8.addr = none ∧ s9.addr = none ∧ WkOk (b, r, e, u) ∧ e.length + u.length ≤ k ∧ k ≤ 16 ∧ ρ = [.no, .raw (.ref a), .dat (.int b), .dat (tI r), slotW K q (b, r, e, u), .dat (rowsP e), .dat (rowsP u), s7, s8, s9, .no]) (fun _ _ => ⟨ns, [], [], .no, .no, .no, rfl, rfl, rfl, hz0, Nat.le_refl _, by omega, rfl⟩) (fun ds k d ρ' e hk _ => dg_name 7 sc_law.nd rfl (.inl rfl)) ?_ ?_ (passes_of rfl))
  · rintro ds k d ρ' rfl hk ⟨r, e, u, s7, s8, s9, a7, a8, a9, hz, few, hk16, rfl⟩
    have hkl := (List.getElem?_eq_some_iff.mp hk).1
    rw [rangeD_len] at hkl
    have hkl : k < 16 := hkl
    refine dss_cons (ds_turn 1 4 8 9 3 5 6 (a := a) (q := q) (U' := fun b' => b' == a || b' == P2 K) ((b, r, e, u) : WkS) (ok__law_turn T Ex TB2) rfl rfl rfl rfl (.inl rfl) rfl (.inr (.inl rfl)) (fun σ H' E' => ⟨a, rfl, rfl, E'.gr.cell _ _ hUa hca, E'.gr.cell _ _ hUP2 hcP2⟩) (fun x hx => by
      rcases Bool.or_eq_true_iff.mp hx with hx | hx
      · rw [eq_of_beq hx]; exact hUa
      · rw [eq_of_beq hx]; exact hUP2) (da_cons (de_var 2 rfl rfl (.inr (.inl rfl))) (da_cons (de_var 3 rfl rfl (.inl rfl)) (da_cons (de_var 5 rfl rfl (.inl rfl)) (da_cons (de_var 6 rfl rfl (.inl rfl)) da_nil)))) ⟨hz, by show e.length + u.length ≤ 900; omega⟩ (fun d fs' h => ?_) (fun c fs' ⟨_, _, _, _, _, h⟩ => by cases h) sc_law.nd rfl rfl rfl rfl rfl (.inl rfl) (.inl rfl) (.inl rfl) (.inl rfl) (.inl rfl) (.inl rfl) (.inl rfl) (.inl rfl) (.inl rfl) (.inl rfl))
    obtain ⟨nm, pl, dg, st, ok, h⟩ := h
    injection h with h1 h2
    subst h1 h2
    obtain ⟨g1, g2, g3, g4⟩ := op_ok ok
    generalize opS (b, r, e, u) nm pl dg st = D at g1 g2 g3 g4
    obtain ⟨D1, b', r', e', u'⟩ := D
    simp only at g2 g3 g4
    subst g2
    refine ⟨_, _, _, _, _, rfl, ?_⟩
    have lr : e'.length ≤ 1000 := by have := g1.few; simp only at this; omega
    refine dss_no (k := false || (false || false)) rfl (dt_w (dw_or (dt_neS g4 (de_var 8 rfl rfl (.inl rfl)) (de_var 9 rfl rfl (.inl rfl))) fun _ => dw_or (dt_neS (shT r') (de_methR0 (fs := wkF) 4 ((b', r', e', u') : WkS) rfl (rd_row T) rfl (.inr (.inl rfl)) T.w_c rfl rfl g1 (fun d h => by injection h with h; exact h.symm) (fun c h => by cases h)) (de_var 3 rfl rfl (.inl rfl))) fun _ => dw_or1 (DT.to (dt_neI (x := (e'.length : Int)) (y := (e'.length : Int)) (de_lenI (fs := wkF) 4 ((b', r', e', u') : WkS) rfl (rd_wlen T) rfl (.inr (.inl rfl)) rfl T.n_len rfl g1 rfl (by omega)) (DE.to (de_lenL (ds := e'.map tI) rfl T.n_len (de_var 5 rfl rfl (.inl rfl))) (by rw [List.length_map]))) (by rw [decide_eq_true rfl]; rfl)))) ?_
    exact dss_nil ⟨r', e', u', .dat d, .dat D1, .dat D1, rfl, rfl, rfl, g1, by omega, by omega, rfl⟩
  rintro ds ρ' rfl ⟨r, e, u, s7, s8, s9, a7, a8, a9, hz, few, hk16, rfl⟩
  have hl := hz.hr.1
  simp only at hl
  refine dss_cons (ds_for (dit_list (ds := [.int (-1), .int (r.length : Int), .bool true, .none]) (de_lst (da_cons (de_neg de_int) (da_cons (DE.to (de_lenT (ds := iv r) rfl T.n_len (de_var 3 rfl rfl (.inl rfl))) (by rw [iv_len])) (da_cons de_bl (da_cons de_non da_nil)))) (by show 4 ≤ _; omega))) (fun _ _ ρ => ∃ s10, s10.addr = none ∧ ρ = [.no, .raw (.ref a), .dat (.int b), .dat (tI r), slotW K q (b, r, e, u), .dat (rowsP e), .dat (rowsP u), s7, s8, s9, s10]) (fun _ _ => ⟨.no, rfl, rfl⟩) (fun ds k d ρ' e hk _ => dg_name 10 sc_law.nd rfl (.inr rfl)) ?_ ?_ (passes_of rfl))
  · rintro ds k d ρ' rfl hk ⟨s10, a10, rfl⟩
    have hd := List.mem_of_getElem? hk
    simp only [List.mem_cons, List.not_mem_nil, or_false] at hd
    have hno : isW d 0 ((r.length : Int) - 1) = false := by
      rcases hd with rfl | rfl | rfl | rfl
      · unfold isW; rw [Bool.and_eq_false_iff, decide_eq_false_iff_not]; omega
      · unfold isW; rw [Bool.and_eq_false_iff, decide_eq_false_iff_not, decide_eq_false_iff_not]; omega
      · rfl
      · rfl
    exact dss_no rfl (told_ne "InvalidPlace" (by decide +kernel) (by decide +kernel) T Ex LW (by decide +kernel) rfl rfl (fun _ _ _ _ _ => rfl) fun A2 outer2 s2 H2 E2 f2 c2 hr2 => de_methR (fs := fun y => wkF y.1) 4 (((b, r, e, u) : WkS), d, PyData.int 0) rfl (rd_put T) rfl (.inr (.inr rfl)) T.w_c rfl (da_cons (de_var 10 rfl rfl (.inr (.inr rfl))) (da_cons de_int da_nil)) ⟨hz, by show (isW d 0 ((r.length : Int) - 1) && _) = false; rw [hno]; rfl⟩ (fun d' h => by have h : putX K (b, r, e, u) d = .rt d' := h; unfold putX at h; split at h <;> cases h) (fun c' h => by have h : putX K (b, r, e, u) d = .ex c' := h; unfold putX at h; rw [show isW d 0 ((((b, r, e, u) : WkS).2.1.length : Int) - 1) = false from hno, if_neg (by decide)] at h; injection h with h; exact h.symm)) (dss_nil ⟨_, rfl, rfl⟩)
  rintro ds ρ' rfl ⟨s10, a10, rfl⟩
  refine dss_cons (ds_for (dit_list (ds := [.int (-1), .int b, .bool true, .none]) (de_lst (da_cons (de_neg de_int) (da_cons (de_var 2 rfl rfl (.inr (.inl rfl))) (da_cons de_bl (da_cons de_non da_nil)))) (by show 4 ≤ _; omega))) (fun _ _ ρ => ∃ s10, s10.addr = none ∧ ρ = [.no, .raw (.ref a), .dat (.int b), .dat (tI r), slotW K q (b, r, e, u), .dat (rowsP e), .dat (rowsP u), s7, s8, s9, s10]) (fun _ _ => ⟨s10, a10, rfl⟩) (fun ds k d ρ' e hk _ => dg_name 10 sc_law.nd rfl (.inr rfl)) ?_ ?_ (passes_of rfl))
  · rintro ds k d ρ' rfl hk ⟨s10, a10, rfl⟩
    have hd := List.mem_of_getElem? hk
    simp only [List.mem_cons, List.not_mem_nil, or_false] at hd
    have hno : isW d 0 (b - 1) = false := by
      rcases hd with rfl | rfl | rfl | rfl
      · unfold isW; rw [Bool.and_eq_false_iff, decide_eq_false_iff_not]; omega
      · unfold isW; rw [Bool.and_eq_false_iff, decide_eq_false_iff_not, decide_eq_false_iff_not]; omega
      · rfl
      · rfl
    exact dss_no rfl (told_ne "InvalidDigit" (by decide +kernel) (by decide +kernel) T Ex LW (by decide +kernel) rfl rfl (fun _ _ _ _ _ => rfl) fun A2 outer2 s2 H2 E2 f2 c2 hr2 => de_methR (fs := fun y => wkF y.1) 4 (((b, r, e, u) : WkS), PyData.int 0, d) rfl (rd_put T) rfl (.inr (.inr rfl)) T.w_c rfl (da_cons de_int (da_cons (de_var 10 rfl rfl (.inr (.inr rfl))) da_nil)) ⟨hz, by show (_ && isW d 0 (b - 1)) = false; rw [hno, Bool.and_false]⟩ (fun d' h => by have h : putX K (b, r, e, u) (.int 0) = .rt d' := h; unfold putX at h; split at h <;> cases h) (fun c' h => by have h : putX K (b, r, e, u) (.int 0) = .ex c' := h; unfold putX at h; rw [if_pos (show isW (.int 0) 0 ((r.length : Int) - 1) = true by unfold isW; rw [Bool.and_eq_true, decide_eq_true_iff, decide_eq_true_iff]; omega)] at h; injection h with h; exact h.symm)) (dss_nil ⟨_, rfl, rfl⟩)
  rintro ds ρ' rfl ⟨s10, a10, rfl⟩
  refine dss_cons (ds_for (dit_list (ds := [.int (-1), .int 101, .bool true, .none]) (de_lst (da_cons (de_neg de_int) (da_cons de_int (da_cons de_bl (da_cons de_non da_nil)))) (by show 4 ≤ _; omega))) (fun _ _ ρ => ∃ s10, s10.addr = none ∧ ρ = [.no, .raw (.ref a), .dat (.int b), .dat (tI r), slotW K q (b, r, e, u), .dat (rowsP e), .dat (rowsP u), s7, s8, s9, s10]) (fun _ _ => ⟨s10, a10, rfl⟩) (fun ds k d ρ' e hk _ => dg_name 10 sc_law.nd rfl (.inr rfl)) ?_ ?_ (passes_of rfl))
  · rintro ds k d ρ' rfl hk ⟨s10, a10, rfl⟩
    have hd := List.mem_of_getElem? hk
    simp only [List.mem_cons, List.not_mem_nil, or_false] at hd
    have hno : isW d 0 100 = false := by
      rcases hd with rfl | rfl | rfl | rfl <;> rfl
    exact dss_no rfl (told_ne "InvalidSteps" (by decide +kernel) (by decide +kernel) T Ex LW (by decide +kernel) rfl rfl (fun _ _ _ _ _ => rfl) fun A2 outer2 s2 H2 E2 f2 c2 hr2 => de_methR (fs := fun y => wkF y.1) 4 (((b, r, e, u) : WkS), d) rfl (rd_go T) rfl (.inr (.inr rfl)) T.w_c rfl (da_cons (de_var 10 rfl rfl (.inr (.inr rfl))) da_nil) hno (fun d' h => by cases h) (fun c' h => by injection h with h; exact h.symm)) (dss_nil ⟨_, rfl, rfl⟩)
  rintro ds ρ' rfl ⟨s10, a10, rfl⟩
  refine dss_no (k := false || false) rfl (dt_w (dw_or (told_ne "InvalidRow" (by decide +kernel) (by decide +kernel) T Ex LW (by decide +kernel) rfl rfl (fun _ _ _ _ _ => rfl) fun A2 outer2 s2 H2 E2 f2 c2 hr2 => de_makeX (PyData.int b, tI []) (ok_ini T) (fun _ _ _ _ _ h => h) rfl T.w_g (da_cons (de_var 2 rfl rfl (.inr (.inr rfl))) (da_cons (de_tup da_nil) da_nil)) trivial (fun d fs' h => by rw [iniR_bad hb] at h; obtain ⟨_, h⟩ := h; cases h) (fun c' fs' h => by rw [iniR_bad hb] at h; obtain ⟨_, h⟩ := h; cases h; rfl)) fun _ => dw_or1 (dt_neS (shT r) (de_methR0 (fs := wkF) 4 ((b, r, e, u) : WkS) rfl (rd_row T) rfl (.inr (.inl rfl)) T.w_c rfl rfl hz (fun d h => by injection h with h; exact h.symm) (fun c h => by cases h)) (de_var 3 rfl rfl (.inl rfl))))) ?_
  exact dss_nil rfl
end DD

namespace DD
open PySem L2
open PySem.Spec PyProof.Rows L2H HotX LamX
def exB2 (K : PySem.W.Frag) : Bool := exB K && !((He.cT K ("law", none)).2 == (He.cT K ("_law_done", none)).2)
abbrev R : PySem.W.OpenRow := PySem.W.OpenLaw.row PySem.Challenge.rw_digitdrop_k19_whole_walks
abbrev hk : PySem.W.Hook := He.hookX 5 fa fn [] tf exB2
def ob (s : PySem.W.SharedT) : He.AlX := He.obsX 5 fa fn [] tf exB2 (HandSHeadRun.getT s)
theorem ob_eq (s : PySem.W.SharedT) : ob s = hk.obs s.abs := He.obsX_eq (HandSHeadRun.getT_eq s)
set_option maxHeartbeats 0 in
theorem run (w : World) : HandSHeadRun.RunEq R (PySem.W.view R.prog [41]) hk ob 20000 loose w := by
  intro os
  kernel_rfl
theorem txt_of {K : PySem.W.Frag} {h : Heap} {mg : Str → Option Value} (X : K.In h) (G : h.Ns mainGlobals mg) (c : He.SaysD fa fn K) : Txt K mg where
  n_ValueError := He.free_ok X G (c.fact 24 (f := .free "ValueError") rfl)
  n_all := He.free_ok X G (c.fact 25 (f := .free "all") rfl)
  n_bool := He.free_ok X G (c.fact 26 (f := .free "bool") rfl)
  n_int := He.free_ok X G (c.fact 27 (f := .free "int") rfl)
  n_isinstance := He.free_ok X G (c.fact 28 (f := .free "isinstance") rfl)
  n_len := He.free_ok X G (c.fact 29 (f := .free "len") rfl)
  n_max := He.free_ok X G (c.fact 30 (f := .free "max") rfl)
  n_min := He.free_ok X G (c.fact 31 (f := .free "min") rfl)
  n_range := He.free_ok X G (c.fact 32 (f := .free "range") rfl)
  n_reversed := He.free_ok X G (c.fact 33 (f := .free "reversed") rfl)
  n_sorted := He.free_ok X G (c.fact 34 (f := .free "sorted") rfl)
  n_sum := He.free_ok X G (c.fact 35 (f := .free "sum") rfl)
  n_tuple := He.free_ok X G (c.fact 36 (f := .free "tuple") rfl)
  d_is_whole := c.def_ 0 (d := d_is_whole) rfl
  g_is_whole := He.glo_ok X G (c.fact 0 (f := .glo "is_whole") rfl)
  d_need_base := c.def_ 1 (d := d_need_base) rfl
  g_need_base := He.glo_ok X G (c.fact 1 (f := .glo "need_base") rfl)
  d_good := c.def_ 2 (d := d_good) rfl
  g_good := He.glo_ok X G (c.fact 2 (f := .glo "good") rfl)
  d_need_row := c.def_ 3 (d := d_need_row) rfl
  g_need_row := He.glo_ok X G (c.fact 3 (f := .glo "need_row") rfl)
  d_number_from := c.def_ 4 (d := d_number_from) rfl
  g_number_from := He.glo_ok X G (c.fact 4 (f := .glo "number_from") rfl)
  d_written := c.def_ 5 (d := d_written) rfl
  g_written := He.glo_ok X G (c.fact 5 (f := .glo "written") rfl)
  d_falling_of := c.def_ 6 (d := d_falling_of) rfl
  g_falling_of := He.glo_ok X G (c.fact 6 (f := .glo "falling_of") rfl)
  d_stepped := c.def_ 7 (d := d_stepped) rfl
  g_stepped := He.glo_ok X G (c.fact 7 (f := .glo "stepped") rfl)
  d_later := c.def_ 8 (d := d_later) rfl
  g_later := He.glo_ok X G (c.fact 8 (f := .glo "later") rfl)
  d_need_steps := c.def_ 9 (d := d_need_steps) rfl
  g_need_steps := He.glo_ok X G (c.fact 9 (f := .glo "need_steps") rfl)
  d__law_cell := c.def_ 10 (d := d__law_cell) rfl
  g__law_cell := He.glo_ok X G (c.fact 10 (f := .glo "_law_cell") rfl)
  d__law_drawn := c.def_ 11 (d := d__law_drawn) rfl
  g__law_drawn := He.glo_ok X G (c.fact 11 (f := .glo "_law_drawn") rfl)
  d__law_roll := c.def_ 12 (d := d__law_roll) rfl
  g__law_roll := He.glo_ok X G (c.fact 12 (f := .glo "_law_roll") rfl)
  d__law_rounds := c.def_ 13 (d := d__law_rounds) rfl
  g__law_rounds := He.glo_ok X G (c.fact 13 (f := .glo "_law_rounds") rfl)
  d__law_term := c.def_ 14 (d := d__law_term) rfl
  g__law_term := He.glo_ok X G (c.fact 14 (f := .glo "_law_term") rfl)
  d__law_told := c.def_ 15 (d := d__law_told) rfl
  g__law_told := He.glo_ok X G (c.fact 15 (f := .glo "_law_told") rfl)
  d__law_any_base := c.def_ 16 (d := d__law_any_base) rfl
  g__law_any_base := He.glo_ok X G (c.fact 16 (f := .glo "_law_any_base") rfl)
  d__law_any_row := c.def_ 17 (d := d__law_any_row) rfl
  g__law_any_row := He.glo_ok X G (c.fact 17 (f := .glo "_law_any_row") rfl)
  d__law_written := c.def_ 18 (d := d__law_written) rfl
  g__law_written := He.glo_ok X G (c.fact 18 (f := .glo "_law_written") rfl)
  d__law_step := c.def_ 19 (d := d__law_step) rfl
  g__law_step := He.glo_ok X G (c.fact 19 (f := .glo "_law_step") rfl)
  d__law_done := c.def_ 20 (d := d__law_done) rfl
  g__law_done := He.glo_ok X G (c.fact 20 (f := .glo "_law_done") rfl)
  d__law_next := c.def_ 21 (d := d__law_next) rfl
  g__law_next := He.glo_ok X G (c.fact 21 (f := .glo "_law_next") rfl)
  d__law_turn := c.def_ 22 (d := d__law_turn) rfl
  g__law_turn := He.glo_ok X G (c.fact 22 (f := .glo "_law_turn") rfl)
  d_law := c.def_ 23 (d := d_law) rfl
  g_law := He.glo_ok X G (c.fact 23 (f := .glo "law") rfl)
  x_DigitError := let z := He.exc_ok (c.fact 38 (f := .exc "DigitError") rfl); ⟨He.glo_ok X G (c.fact 37 (f := .glo "DigitError") rfl), z.1, z.2.1, z.2.2.1, z.2.2.2⟩
  x_InvalidBase := let z := He.exc_ok (c.fact 40 (f := .exc "InvalidBase") rfl); ⟨He.glo_ok X G (c.fact 39 (f := .glo "InvalidBase") rfl), z.1, z.2.1, z.2.2.1, z.2.2.2⟩
  x_InvalidRow := let z := He.exc_ok (c.fact 42 (f := .exc "InvalidRow") rfl); ⟨He.glo_ok X G (c.fact 41 (f := .glo "InvalidRow") rfl), z.1, z.2.1, z.2.2.1, z.2.2.2⟩
  x_InvalidLength := let z := He.exc_ok (c.fact 44 (f := .exc "InvalidLength") rfl); ⟨He.glo_ok X G (c.fact 43 (f := .glo "InvalidLength") rfl), z.1, z.2.1, z.2.2.1, z.2.2.2⟩
  x_InvalidNumber := let z := He.exc_ok (c.fact 46 (f := .exc "InvalidNumber") rfl); ⟨He.glo_ok X G (c.fact 45 (f := .glo "InvalidNumber") rfl), z.1, z.2.1, z.2.2.1, z.2.2.2⟩
  x_InvalidSteps := let z := He.exc_ok (c.fact 48 (f := .exc "InvalidSteps") rfl); ⟨He.glo_ok X G (c.fact 47 (f := .glo "InvalidSteps") rfl), z.1, z.2.1, z.2.2.1, z.2.2.2⟩
  x_InvalidPlace := let z := He.exc_ok (c.fact 50 (f := .exc "InvalidPlace") rfl); ⟨He.glo_ok X G (c.fact 49 (f := .glo "InvalidPlace") rfl), z.1, z.2.1, z.2.2.1, z.2.2.2⟩
  x_InvalidDigit := let z := He.exc_ok (c.fact 52 (f := .exc "InvalidDigit") rfl); ⟨He.glo_ok X G (c.fact 51 (f := .glo "InvalidDigit") rfl), z.1, z.2.1, z.2.2.1, z.2.2.2⟩
  x_InvalidText := let z := He.exc_ok (c.fact 54 (f := .exc "InvalidText") rfl); ⟨He.glo_ok X G (c.fact 53 (f := .glo "InvalidText") rfl), z.1, z.2.1, z.2.2.1, z.2.2.2⟩
  x_TooLarge := let z := He.exc_ok (c.fact 56 (f := .exc "TooLarge") rfl); ⟨He.glo_ok X G (c.fact 55 (f := .glo "TooLarge") rfl), z.1, z.2.1, z.2.2.1, z.2.2.2⟩
  x_TooGreat := let z := He.exc_ok (c.fact 58 (f := .exc "TooGreat") rfl); ⟨He.glo_ok X G (c.fact 57 (f := .glo "TooGreat") rfl), z.1, z.2.1, z.2.2.1, z.2.2.2⟩
  x_NothingToUndo := let z := He.exc_ok (c.fact 60 (f := .exc "NothingToUndo") rfl); ⟨He.glo_ok X G (c.fact 59 (f := .glo "NothingToUndo") rfl), z.1, z.2.1, z.2.2.1, z.2.2.2⟩
  e_DigitError := He.exm_ok (c.fact 75 (f := .exm "DigitError" "DigitError" true) rfl)
  e_InvalidBase := He.exm_ok (c.fact 76 (f := .exm "InvalidBase" "DigitError" true) rfl)
  e_InvalidRow := He.exm_ok (c.fact 77 (f := .exm "InvalidRow" "DigitError" true) rfl)
  e_InvalidLength := He.exm_ok (c.fact 78 (f := .exm "InvalidLength" "DigitError" true) rfl)
  e_InvalidNumber := He.exm_ok (c.fact 79 (f := .exm "InvalidNumber" "DigitError" true) rfl)
  e_InvalidSteps := He.exm_ok (c.fact 80 (f := .exm "InvalidSteps" "DigitError" true) rfl)
  e_InvalidPlace := He.exm_ok (c.fact 81 (f := .exm "InvalidPlace" "DigitError" true) rfl)
  e_InvalidDigit := He.exm_ok (c.fact 82 (f := .exm "InvalidDigit" "DigitError" true) rfl)
  e_InvalidText := He.exm_ok (c.fact 83 (f := .exm "InvalidText" "DigitError" true) rfl)
  e_TooLarge := He.exm_ok (c.fact 84 (f := .exm "TooLarge" "DigitError" true) rfl)
  e_TooGreat := He.exm_ok (c.fact 85 (f := .exm "TooGreat" "DigitError" true) rfl)
  e_NothingToUndo := He.exm_ok (c.fact 86 (f := .exm "NothingToUndo" "DigitError" true) rfl)
  w_g := He.glo_ok X G (c.fact 61 (f := .glo "Walk") rfl)
  w_c := He.cls_ok (c.fact 62 (f := .cls "Walk") rfl)
  w_k := He.mkr_ok (c.fact 63 (f := .mkr "Walk") rfl)
  w_na_base := He.noat_ok (c.fact 71 (f := .noat "Walk" "base") rfl)
  w_na_now := He.noat_ok (c.fact 72 (f := .noat "Walk" "now") rfl)
  w_na_earlier := He.noat_ok (c.fact 73 (f := .noat "Walk" "earlier") rfl)
  w_na_undone := He.noat_ok (c.fact 74 (f := .noat "Walk" "undone") rfl)
  w_d___init__ := c.def_ 24 (d := d_Walk___init__) rfl
  w_m_change := He.meth_ok (c.fact 64 (f := .meth "Walk" "change") rfl)
  w_d_change := c.def_ 25 (d := d_Walk_change) rfl
  w_m_go := He.meth_ok (c.fact 65 (f := .meth "Walk" "go") rfl)
  w_d_go := c.def_ 26 (d := d_Walk_go) rfl
  w_m_put := He.meth_ok (c.fact 66 (f := .meth "Walk" "put") rfl)
  w_d_put := c.def_ 27 (d := d_Walk_put) rfl
  w_m_row := He.meth_ok (c.fact 67 (f := .meth "Walk" "row") rfl)
  w_d_row := c.def_ 28 (d := d_Walk_row) rfl
  w_m_undo := He.meth_ok (c.fact 68 (f := .meth "Walk" "undo") rfl)
  w_d_undo := c.def_ 29 (d := d_Walk_undo) rfl
  w_m_redo := He.meth_ok (c.fact 69 (f := .meth "Walk" "redo") rfl)
  w_d_redo := c.def_ 30 (d := d_Walk_redo) rfl
  w_m___len__ := He.meth_ok (c.fact 70 (f := .meth "Walk" "__len__") rfl)
  w_d___len__ := c.def_ 31 (d := d_Walk___len__) rfl
theorem exs_all {K : PySem.W.Frag} {mg : Str → Option Value} (T : Txt K mg) (h : exB K = true) : Exs K mg := by
  letI : Nu := ⟨fun _ => lamQ⟩
  refine exs_of h (fun x hx => ?_) fun x hx => ?_
  · simp only [xnm, List.mem_cons, List.not_mem_nil, or_false] at hx
    rcases hx with rfl | rfl | rfl | rfl | rfl | rfl | rfl | rfl | rfl | rfl | rfl
    · exact T.x_InvalidBase.g
    · exact T.x_InvalidRow.g
    · exact T.x_InvalidLength.g
    · exact T.x_InvalidNumber.g
    · exact T.x_InvalidSteps.g
    · exact T.x_InvalidPlace.g
    · exact T.x_InvalidDigit.g
    · exact T.x_InvalidText.g
    · exact T.x_TooLarge.g
    · exact T.x_TooGreat.g
    · exact T.x_NothingToUndo.g
  · simp only [xnm, List.mem_cons, List.not_mem_nil, or_false] at hx
    rcases hx with rfl | rfl | rfl | rfl | rfl | rfl | rfl | rfl | rfl | rfl | rfl
    · exact T.e_InvalidBase
    · exact T.e_InvalidRow
    · exact T.e_InvalidLength
    · exact T.e_InvalidNumber
    · exact T.e_InvalidSteps
    · exact T.e_InvalidPlace
    · exact T.e_InvalidDigit
    · exact T.e_InvalidText
    · exact T.e_TooLarge
    · exact T.e_TooGreat
    · exact T.e_NothingToUndo
theorem law_ok {P : Program} {w : World} {K : PySem.W.Frag} {mg : Str → Option Value} {base : Heap} (T : Txt K mg) (Ex : Exs K mg) (hne : (He.cT K ("law", none)).2 ≠ P2 K) (TB : TabB base mg (He.cT K ("law", none)).1 (He.cT K ("law", none)).2) (TB2 : TabB base mg (He.cT K ("_law_done", none)).1 (P2 K)) {fd : FuncData} (F : FunD K "law" "law" (defArgs s_law) (defBody s_law) (defScope s_law) [] [] (He.ga K "law") fd) : FnOk P w K mg base (L2N.CX P w) 10 (He.ga K "law") fd ["_law_script"] (lawSp K (He.cT K ("law", none)).2 (P2 K)) := by
  letI : Nu := ⟨fun a => if a = P2 K then lamQ2 else lamQ⟩
  obtain ⟨oc, od, dV, kV, doc, pm, an, cdv, ct, osl, rfl, lk, hcd, _, _⟩ := F.ex
  obtain ⟨c, rfl⟩ := He.codeIn_ref hcd
  have e : (He.cT K ("law", none)).1 = c := He.codeOf_eq (p := ("law", none)) lk rfl
  rw [e] at TB
  exact law_run (n := 9) (k := 9) (m := 3) lk hcd sc_law rfl rfl rfl rfl rfl (.inl rfl) rfl (by decide) (by decide) (ok__law_rounds T) (by show (if _ = P2 K then lamQ2 else lamQ) = lamQ; rw [if_neg hne]) (by show (if _ = P2 K then lamQ2 else lamQ) = lamQ2; rw [if_pos rfl]) fun A outer s H E hr U H1 a h1 h2 h3 h4 h5 h6 => law_turn T Ex TB TB2 A outer s H E hr U H1 a h1 h2 h3 h4 h5 h6
end DD
open PySem PySem.W PySem.Calls PyProof.Rows
set_option maxHeartbeats 0 in
theorem PySem.Challenge.cw_digitdrop_k19_whole_walks_holds : PySem.Challenge.rw_digitdrop_k19_whole_walks.Holds := by
  w_on; o_law
  refine HandSHeadRun.head_any (r := OpenLaw.row PySem.Challenge.rw_digitdrop_k19_whole_walks) (q := view (OpenLaw.row PySem.Challenge.rw_digitdrop_k19_whole_walks).prog [41]) (H := DD.hk) (ob := DD.ob) (M := 20000) (loose := DD.loose) (d := HandSHeadRun.topDef (OpenLaw.row PySem.Challenge.rw_digitdrop_k19_whole_walks).prog 41) (kwd := []) DD.ob_eq
    (by kernel_rfl) (fun s => by kernel_rfl) DD.run (by kernel_rfl) (by kernel_rfl) (by kernel_rfl) (by rfl) (by first | assumption | decide +kernel) (by decide +kernel) ⟨rfl, rfl, rfl, rfl, rfl, by decide +kernel⟩ ?hw ?hc
  case hw => w_witness2
  case hc =>
    refine LamX.walk_ofTsE (l := PySem.Challenge.rw_digitdrop_k19_whole_walks) (n := 63) (k := 10) (x := "_law_script") (CX := fun w => L2N.CX (PySem.Challenge.rw_digitdrop_k19_whole_walks).prog w) rfl (by decide) (by kernel_rfl) ⟨rfl, by decide, by decide⟩ ?F (fun w H s e s' ⟨_, _, _, _, _, _, _, _, _, _, _, _, z⟩ => z)
    intro w mg fa h Y G hmg0
    obtain ⟨K, KX, c⟩ := Y
    have hmg : mg ("law" : PySem.Str) = some (.ref fa) := by
      have e : (HandSHeadRun.topDef (OpenLaw.row PySem.Challenge.rw_digitdrop_k19_whole_walks).prog 41).name = ("law" : PySem.Str) := by kernel_rfl
      rw [← e]
      exact hmg0
    have T := DD.txt_of KX G c.t.d
    have more := He.ba c.more
    have Ex := DD.exs_all T more.1
    have hne : (He.cT K ("law", none)).2 ≠ DD.P2 K := fun e => by have z := more.2; rw [e] at z; simp at z
    have e := hmg.symm.trans T.g_law
    cases e
    obtain ⟨fd, F⟩ := T.d_law
    have hp : ∀ p ∈ [He.cT K ("law", none), He.cT K ("_law_done", none)], p = He.cT K ("law", none) ∨ p = He.cT K ("_law_done", none) := fun p hp => by
      rcases List.mem_cons.mp hp with e | hp
      · exact .inl e
      · exact .inr (List.mem_singleton.mp hp)
    have m1 : (("law", none) : He.Defn) ∈ DD.tf := List.mem_cons_self
    have m2 : (("_law_done", none) : He.Defn) ∈ DD.tf := List.mem_cons_of_mem _ List.mem_cons_self
    have b := L2.FunD.bindsA (ps := ["_law_script"]) F fun _ _ _ _ _ _ us hl => match us, hl with | [_], _ => rfl
    exact ⟨K, KX, fd, [He.cT K ("law", none), He.cT K ("_law_done", none)], DD.lawSp K (He.cT K ("law", none)).2 (DD.P2 K), fun p h => by (rcases hp p h with e | e <;> rw [e]); exact c.empty _ m1; exact c.empty _ m2, fun p h => by (rcases hp p h with e | e <;> rw [e]); exact c.out _ m1; exact c.out _ m2, fun p h => by (rcases hp p h with e | e <;> rw [e]); exact PySem.W.codeHd_of_K KX (c.hd _ m1); exact PySem.W.codeHd_of_K KX (c.hd _ m2), fun s v => b s [v] rfl,
      fun H a ns hl _ hH hS => ⟨a, ns, rfl, hS, Nat.le_trans hl (by decide), hH _ List.mem_cons_self, hH _ (List.mem_cons_of_mem _ List.mem_cons_self), fun _ => rfl⟩, fun base _ _ hT => DD.law_ok T Ex hne (hT _ List.mem_cons_self) (hT _ (List.mem_cons_of_mem _ List.mem_cons_self)) F⟩
