import PyProof.Rows.All
import Wide.All
import OpenK.AllK
import Wide.FinOn
import HandS.ForMost
import HandS.ForExc
import HandS.Deep
import HandS.Wide
import HandS.Lambda
import HandS.ExcCtx
import HandS.SuiteRaise
import HandS.HotCalls
import KE.SortData
import KE.DataMinMax
import HandS.TupAny
import HandS.TupMul
import HandS.Rev
import HandS.Style
import HandS.IsInst
import HandS.SetFor
import HandS.Defaults
import HandS.HeadHook1
import HandS.HeadHook2
import HandS.ExcIs
import PyProof.SumAny
import PyProof.P3Eq
import PyProof.SetRoads
import HandS.TupSets
import HandS.Dict
import KE.GoesEnum
import KE.GoesMore
import PyProof.Rows.TupDisplay
import HandS.Text
import HandS.Replace
import KE.KDictKeyed
import HandS.Conv
import HandS.Zip
import HandS.Head2
import HandS.HeadHook4
import HandS.HeadWalk
import PySem.Challenge.RW_digitdrop_k07_whole_rounds
import HandS.HeadEnd
set_option Elab.async false
set_option linter.all false
set_option maxRecDepth 100000
set_option maxHeartbeats 2000000
namespace DD
open PySem L2
/-! ## data in the abstract heap -/
def keyOf (k : List Int) : List Key := k.map Sum.inl
/-- a dict whose keys are tuples of ints, as data -/
def dctD (kvs : List (List Int × PyData)) : PyData := .dict (kvs.map fun z => (.tuple (z.1.map .int), z.2))
mutual
inductive At (H : Hp) : V → PyData → Prop
  | non : At H .non .none
  | bl (b : Bool) : At H (.bl b) (.bool b)
  | int (i : Int) : At H (.int i) (.int i)
  | str (x : Str) : At H (.str x) (.str x)
  | lst {a : Addr} {xs : List V} {ds : List PyData} : H a = some (.lst xs) → AtAll H xs ds → At H (.ref a) (.list ds)
  | tup {a : Addr} {xs : List V} {ds : List PyData} : H a = some (.tup xs) → AtAll H xs ds → At H (.ref a) (.tuple ds)
  | dct {a : Addr} {xs : List V} {kvs : List (List Int × PyData)} {ps : List (PyData × PyData)} : ps = kvs.map (fun z => (PyData.tuple (z.1.map .int), z.2)) → H a = some (.dT ((kvs.map fun z => keyOf z.1).zip xs)) → AtAll H xs (kvs.map (·.2)) → At H (.ref a) (.dict ps)
inductive AtAll (H : Hp) : List V → List PyData → Prop
  | nil : AtAll H [] []
  | cons {v : V} {vs : List V} {d : PyData} {ds : List PyData} : At H v d → AtAll H vs ds → AtAll H (v :: vs) (d :: ds)
end
theorem At.up {H H' : Hp} {v : V} {d : PyData} (h : At H v d) (e : Same H H') : At H' v d :=
  At.rec (motive_1 := fun v d _ => At H' v d) (motive_2 := fun vs ds _ => AtAll H' vs ds) .non .bl .int .str (fun h1 _ ih => .lst (e _ _ h1) ih) (fun h1 _ ih => .tup (e _ _ h1) ih) (fun h0 h1 _ ih => .dct h0 (e _ _ h1) ih) .nil (fun _ _ i1 i2 => .cons i1 i2) h
theorem AtAll.up {H H' : Hp} {vs : List V} {ds : List PyData} (h : AtAll H vs ds) (e : Same H H') : AtAll H' vs ds :=
  AtAll.rec (motive_1 := fun v d _ => At H' v d) (motive_2 := fun vs ds _ => AtAll H' vs ds) .non .bl .int .str (fun h1 _ ih => .lst (e _ _ h1) ih) (fun h1 _ ih => .tup (e _ _ h1) ih) (fun h0 h1 _ ih => .dct h0 (e _ _ h1) ih) .nil (fun _ _ i1 i2 => .cons i1 i2) h
/-! no dict in it -/
mutual
def nod : PyData → Bool
  | .list xs => nods xs
  | .tuple xs => nods xs
  | .dict _ => false
  | _ => true
def nods : List PyData → Bool
  | [] => true
  | x :: xs => nod x && nods xs
end
mutual
theorem nod_lay : ∀ d : PyData, d.canLay0 = true → nod d = true
  | .none, _ => rfl
  | .bool _, _ => rfl
  | .int _, _ => rfl
  | .str _, _ => rfl
  | .list xs, h => by rw [nod]; exact nods_lay xs h
  | .tuple xs, h => by rw [nod]; exact nods_lay xs h
  | .dict _, h => nomatch h
theorem nods_lay : ∀ xs : List PyData, PyData.canLayAll0 xs = true → nods xs = true
  | [], _ => by rw [nods]
  | x :: xs, h => by
    have h' : x.canLay0 = true ∧ PyData.canLayAll0 xs = true := by simpa [PyData.canLayAll0] using h
    rw [nods, nod_lay x h'.1, nods_lay xs h'.2]; rfl
end
mutual
theorem At.dp' (K : PySem.W.Frag) {H : Hp} : ∀ (d : PyData) (v : V), nod d = true → At H v d → Dp K H v d
  | .none, _, _, h => by cases h; exact .non
  | .bool _, _, _, h => by cases h; exact .bl _
  | .int _, _, _, h => by cases h; exact .int _
  | .str _, _, _, h => by cases h; exact .str _
  | .list ds, _, n, h => by
    cases h with
    | lst h1 h2 => exact .lst (SqL.of h1) (AtAll.dp' K ds _ (by rw [nod] at n; exact n) h2)
  | .tuple ds, _, n, h => by
    cases h with
    | tup h1 h2 => exact .tup (SqT.of h1) (AtAll.dp' K ds _ (by rw [nod] at n; exact n) h2)
  | .dict _, _, n, h => by rw [nod] at n; cases n
theorem AtAll.dp' (K : PySem.W.Frag) {H : Hp} : ∀ (ds : List PyData) (vs : List V), nods ds = true → AtAll H vs ds → DpAll K H vs ds
  | [], _, _, h => by cases h; exact .nil
  | d :: ds, _, n, h => by
    rw [nods, Bool.and_eq_true] at n
    cases h with
    | cons h1 h2 => exact .cons (At.dp' K d _ n.1 h1) (AtAll.dp' K ds _ n.2 h2)
end
theorem At.dp {K : PySem.W.Frag} {H : Hp} {v : V} {d : PyData} (n : nod d = true) (h : At H v d) : Dp K H v d := At.dp' K d v n h
theorem AtAll.len {H : Hp} : ∀ {vs : List V} {ds : List PyData}, AtAll H vs ds → vs.length = ds.length
  | _, _, .nil => rfl
  | _, _, .cons _ t => by rw [List.length_cons, List.length_cons, AtAll.len t]
theorem AtAll.get {H : Hp} : ∀ {vs : List V} {ds : List PyData} {i : Nat} {d : PyData}, AtAll H vs ds → ds[i]? = some d → ∃ v, vs[i]? = some v ∧ At H v d
  | _, _, _, _, .nil, e => by simp at e
  | _, _, 0, _, .cons r _, e => by simp at e; subst e; exact ⟨_, rfl, r⟩
  | _, _, i + 1, d, .cons _ t, e => by
    obtain ⟨u, h1, h2⟩ := AtAll.get (i := i) (d := d) t (by simpa using e)
    exact ⟨u, by simpa using h1, h2⟩
theorem AtAll.get' {H : Hp} : ∀ {vs : List V} {ds : List PyData} {i : Nat} {v : V}, AtAll H vs ds → vs[i]? = some v → ∃ d, ds[i]? = some d ∧ At H v d
  | _, _, _, _, .nil, e => by simp at e
  | _, _, 0, _, .cons r _, e => by simp at e; subst e; exact ⟨_, rfl, r⟩
  | _, _, i + 1, d, .cons _ t, e => by
    obtain ⟨u, h1, h2⟩ := AtAll.get' (i := i) (v := d) t (by simpa using e)
    exact ⟨u, by simpa using h1, h2⟩
theorem AtAll.app {H : Hp} : ∀ {vs ws : List V} {ds es : List PyData}, AtAll H vs ds → AtAll H ws es → AtAll H (vs ++ ws) (ds ++ es)
  | _, _, _, _, .nil, s => s
  | _, _, _, _, .cons r t, s => .cons r (AtAll.app t s)
theorem AtAll.take {H : Hp} : ∀ {vs : List V} {ds : List PyData} (n : Nat), AtAll H vs ds → AtAll H (vs.take n) (ds.take n)
  | _, _, 0, _ => .nil
  | _, _, _ + 1, .nil => .nil
  | _, _, n + 1, .cons r t => .cons r (AtAll.take n t)
theorem AtAll.drop {H : Hp} : ∀ {vs : List V} {ds : List PyData} (n : Nat), AtAll H vs ds → AtAll H (vs.drop n) (ds.drop n)
  | _, _, 0, r => r
  | _, _, _ + 1, .nil => .nil
  | _, _, n + 1, .cons _ t => AtAll.drop n t
theorem AtAll.rev {H : Hp} : ∀ {vs : List V} {ds : List PyData}, AtAll H vs ds → AtAll H vs.reverse ds.reverse
  | _, _, .nil => .nil
  | _, _, .cons r t => by
    rw [List.reverse_cons, List.reverse_cons]
    exact (AtAll.rev t).app (.cons r .nil)
theorem AtAll.set {H : Hp} {v : V} {d : PyData} (h : At H v d) : ∀ {vs : List V} {ds : List PyData} (i : Nat), AtAll H vs ds → AtAll H (vs.set i v) (ds.set i d)
  | _, _, _, .nil => .nil
  | _, _, 0, .cons _ t => .cons h t
  | _, _, i + 1, .cons q t => .cons q (AtAll.set h i t)
theorem At.int_inv {H : Hp} {v : V} {i : Int} (h : At H v (.int i)) : v = .int i := by cases h; rfl
theorem At.bl_inv {H : Hp} {v : V} {b : Bool} (h : At H v (.bool b)) : v = .bl b := by cases h; rfl
theorem At.str_inv {H : Hp} {v : V} {x : Str} (h : At H v (.str x)) : v = .str x := by cases h; rfl
theorem AtAll.ints {H : Hp} : ∀ {ns : List Int} {vs : List V}, AtAll H vs (ns.map PyData.int) → vs = ns.map V.int
  | [], _, h => by cases h; rfl
  | n :: ns, _, h => by
    cases h with
    | cons h1 h2 => rw [h1.int_inv, AtAll.ints h2]; rfl
theorem atAll_ints {H : Hp} : ∀ (ns : List Int), AtAll H (ns.map V.int) (ns.map PyData.int)
  | [] => .nil
  | _ :: ns => .cons (.int _) (atAll_ints ns)
theorem AtAll.bls {H : Hp} : ∀ {bs : List Bool} {vs : List V}, AtAll H vs (bs.map PyData.bool) → vs = bs.map V.bl
  | [], _, h => by cases h; rfl
  | n :: ns, _, h => by
    cases h with
    | cons h1 h2 => rw [h1.bl_inv, AtAll.bls h2]; rfl
theorem atAll_bls {H : Hp} : ∀ (bs : List Bool), AtAll H (bs.map V.bl) (bs.map PyData.bool)
  | [] => .nil
  | _ :: ns => .cons (.bl _) (atAll_bls ns)
theorem AtAll.strs {H : Hp} : ∀ {bs : List Str} {vs : List V}, AtAll H vs (bs.map PyData.str) → vs = bs.map V.str
  | [], _, h => by cases h; rfl
  | n :: ns, _, h => by
    cases h with
    | cons h1 h2 => rw [h1.str_inv, AtAll.strs h2]; rfl
/-! ## hidden places, growth -/
def hid (O : Addr → Bool) (H : Hp) : Hp := fun a => if O a = true then none else H a
theorem hid_le {O : Addr → Bool} {H : Hp} : Same (hid O H) H := fun a o e => by
  unfold hid at e
  split at e
  · cases e
  · exact e
theorem hid_at {O : Addr → Bool} {H : Hp} {a : Addr} (h : O a = false) : hid O H a = H a := by
  unfold hid
  rw [if_neg (by rw [h]; decide)]
theorem hid_of {O : Addr → Bool} {H : Hp} {a : Addr} {o : HO} (h : hid O H a = some o) : O a = false ∧ H a = some o := by
  unfold hid at h
  split at h
  · cases h
  · rename_i q
    exact ⟨by cases e : O a; rfl; exact absurd e q, h⟩
theorem hid_mono {O O' : Addr → Bool} {H H' : Hp} (h : ∀ a o, O a = false → H a = some o → O' a = false ∧ H' a = some o) : Same (hid O H) (hid O' H') := fun a o e => by
  obtain ⟨h1, h2⟩ := hid_of e
  obtain ⟨h3, h4⟩ := h a o h1 h2
  rw [hid_at h3]
  exact h4
/-- what changes: a dice (two ints), a table of code objects -/
def lamQ : Str := "law.<locals>." ++ "<lambda>"
def Cell : Option Str → Hp → Addr → Prop
  | none, H, a => ∃ x y : Int, H a = some (.lst [.int x, .int y])
  | some q, H, a => q = lamQ ∧ LamX.TabS H a q
theorem Cell.up {k : Option Str} {H H' : Hp} {a : Addr} (e : Same H H') (h : Cell k H a) : Cell k H' a := by
  cases k with
  | none => obtain ⟨x, y, h⟩ := h; exact ⟨x, y, e _ _ h⟩
  | some q => exact ⟨h.1, LamX.TabS.ext h.2 e⟩
theorem Cell.there {k : Option Str} {H : Hp} {a : Addr} (h : Cell k H a) : H a ≠ none := by
  cases k with
  | none => obtain ⟨x, y, h⟩ := h; rw [h]; simp
  | some q => obtain ⟨_, ps, h, _⟩ := h; rw [h]; simp
/-- a list elsewhere changes -/
theorem Cell.mut {k : Option Str} {H : Hp} {a D : Addr} {xs : List V} {o : HO} (hD : H D = some (.lst xs)) (ne : a ≠ D) (h : Cell k H a) : Cell k (upd H D o) a := by
  cases k with
  | none => obtain ⟨x, y, h⟩ := h; exact ⟨x, y, by rw [upd_ne ne]; exact h⟩
  | some q =>
    obtain ⟨hq, ps, h1, h2, h3⟩ := h
    refine ⟨hq, ps, by rw [upd_ne ne]; exact h1, h2, fun pos cv hc => ?_⟩
    obtain ⟨c, e1, e2⟩ := h3 pos cv hc
    refine ⟨c, e1, ?_⟩
    rw [upd_ne (ne_of e2 hD (fun z => by unfold LamX.CodeO at z; cases z))]
    exact e2
structure Gr (U : Addr → Bool) (H H' : Hp) : Prop where
  keep : ∀ a o, U a = false → H a = some o → H' a = some o
  cell : ∀ a k, U a = true → Cell k H a → Cell k H' a
theorem Gr.refl (U : Addr → Bool) (H : Hp) : Gr U H H := ⟨fun _ _ _ h => h, fun _ _ _ h => h⟩
theorem Gr.trans {U : Addr → Bool} {H H1 H2 : Hp} (a : Gr U H H1) (b : Gr U H1 H2) : Gr U H H2 := ⟨fun x o u h => b.keep x o u (a.keep x o u h), fun x k u h => b.cell x k u (a.cell x k u h)⟩
theorem Gr.of {U : Addr → Bool} {H H' : Hp} (e : Same H H') : Gr U H H' := ⟨fun a o _ h => e a o h, fun _ _ _ h => h.up e⟩
theorem Gr.same {H H' : Hp} (g : Gr (fun _ => false) H H') : Same H H' := fun a o h => g.keep a o rfl h
theorem same_new {H : Hp} {p : Addr} {o : HO} (h : H p = none) : Same H (upd H p o) := fun a u e => by
  rw [upd_ne (ne_of_none e h)]
  exact e
/-! ## slots -/
/-- an owned thing of another kind: what its object is, in the heap that is seen; no tuple -/
structure Thg where
  T : Hp → HO → Prop
  up : ∀ {H H' : Hp} {o : HO}, Same H H' → T H o → T H' o
  nt : ∀ {H : Hp} {xs : List V}, ¬ T H (.tup xs)
inductive SV where
  | no | dat (d : PyData) | raw (v : V) | own (p : Addr) (ds : List PyData) | dic (p : Addr) (kvs : List (List Int × PyData)) | thg (p : Addr) (t : Thg)
abbrev Rho := List SV
def SV.addr : SV → Option Addr
  | .own p _ => some p
  | .dic p _ => some p
  | .thg p _ => some p
  | _ => none
def owns (ρ : Rho) (a : Addr) : Bool := ρ.any fun s => s.addr == some a
/-- the context of a judgement: Cx, the wish about exceptions, hidden places, volatile ones (the dices), the heap at the entry -/
structure Ct where
  X : Cx
  W : WX
  tk : L2N.Takes X W
  O : Addr → Bool
  U : Addr → Bool
  le : ∀ a, U a = true → O a = true
  base : Hp
  lv : Nat
  room : L2H.RoomH lv X.A
  hd : X.calm = true → X.A.handled = none
theorem Ct.un (C : Ct) : C.X.A.units + 100 < cLine := by
  have := C.room.un
  omega
theorem Ct.room' (C : Ct) (hc : C.X.calm = true) : Room C.lv C.X.A := ⟨C.hd hc, C.room.dp, C.room.un⟩
def inn (C : Ct) (ρ : Rho) : Addr → Bool := fun a => C.O a || owns ρ a
abbrev vis (C : Ct) (ρ : Rho) (H : Hp) : Hp := hid (inn C ρ) H
def SlotOk (C : Ct) (ρ : Rho) (H : Hp) : SV → Option V → Prop
  | .no, _ => True
  | .dat d, o => ∃ v, o = some v ∧ At (vis C ρ H) v d
  | .raw v, o => o = some v
  | .own p ds, o => o = some (.ref p) ∧ C.O p = false ∧ C.base p = none ∧ ∃ xs, H p = some (.lst xs) ∧ AtAll (vis C ρ H) xs ds
  | .dic p kvs, o => o = some (.ref p) ∧ C.O p = false ∧ C.base p = none ∧ ∃ xs : List V, H p = some (.dT ((kvs.map fun z => keyOf z.1).zip xs)) ∧ AtAll (vis C ρ H) xs (kvs.map (·.2))
  | .thg p t, o => o = some (.ref p) ∧ C.O p = false ∧ C.base p = none ∧ ∃ u, H p = some u ∧ t.T (vis C ρ H) u
def gt (ρ : Rho) (i : Nat) : SV := ρ.getD i .no
structure Env (C : Ct) (ρ : Rho) (σ : L2.St) (H : Hp) : Prop where
  len : σ.length = ρ.length
  slot : ∀ i, SlotOk C ρ H (gt ρ i) (σ.getD i none)
  cell : ∀ a, C.U a = true → ∃ k, Cell k H a
  alloc : ∀ a, C.O a = true → H a ≠ none
  gr : Gr C.U C.base H
  dis : ∀ i j p, (gt ρ i).addr = some p → (gt ρ j).addr = some p → i = j
theorem inn_U {C : Ct} {ρ : Rho} {a : Addr} (h : inn C ρ a = false) : C.U a = false := by
  cases e : C.U a with
  | false => rfl
  | true =>
    have := C.le a e
    unfold inn at h
    rw [this] at h
    cases h
theorem O_U {C : Ct} {a : Addr} (h : C.O a = false) : C.U a = false := by
  cases e : C.U a with
  | false => rfl
  | true => rw [C.le a e] at h; cases h
theorem vis_gr {C : Ct} {ρ : Rho} {H H' : Hp} (g : Gr C.U H H') : Same (vis C ρ H) (vis C ρ H') := hid_mono fun a o h e => ⟨h, g.keep a o (inn_U h) e⟩
theorem SlotOk.grow {C : Ct} {ρ : Rho} {H H' : Hp} {sv : SV} {o : Option V} (g : Gr C.U H H') (h : SlotOk C ρ H sv o) : SlotOk C ρ H' sv o := by
  cases sv with
  | no => trivial
  | dat d => obtain ⟨v, e, r⟩ := h; exact ⟨v, e, r.up (vis_gr g)⟩
  | raw v => exact h
  | own p ds => obtain ⟨e, h1, h2, xs, h3, h4⟩ := h; exact ⟨e, h1, h2, xs, g.keep _ _ (O_U h1) h3, h4.up (vis_gr g)⟩
  | dic p kvs => obtain ⟨e, h1, h2, xs, h3, h4⟩ := h; exact ⟨e, h1, h2, xs, g.keep _ _ (O_U h1) h3, h4.up (vis_gr g)⟩
  | thg p th => obtain ⟨e, h1, h2, u, h3, h4⟩ := h; exact ⟨e, h1, h2, u, g.keep _ _ (O_U h1) h3, th.up (vis_gr g) h4⟩
theorem Env.grow {C : Ct} {ρ : Rho} {σ : L2.St} {H H' : Hp} (E : Env C ρ σ H) (g : Gr C.U H H') : Env C ρ σ H' where
  len := E.len
  slot := fun i => (E.slot i).grow g
  cell := fun a h => let ⟨k, q⟩ := E.cell a h; ⟨k, g.cell a k h q⟩
  alloc := fun a h => by
    cases e : C.U a with
    | true =>
      obtain ⟨k, q⟩ := E.cell a e
      exact (g.cell a k e q).there
    | false =>
      cases q : H a with
      | none => exact absurd q (E.alloc a h)
      | some o => rw [g.keep a o e q]; simp
  gr := E.gr.trans g
  dis := E.dis
theorem Env.new {C : Ct} {ρ : Rho} {σ : L2.St} {H : Hp} (E : Env C ρ σ H) {p : Addr} (h : H p = none) : C.O p = false := by
  cases e : C.O p with
  | false => rfl
  | true => exact absurd h (E.alloc p e)
theorem mem_gt {ρ : Rho} {sv : SV} (h : sv ∈ ρ) : ∃ i, gt ρ i = sv := by
  obtain ⟨i, hi, e⟩ := List.mem_iff_getElem.mp h
  refine ⟨i, ?_⟩
  unfold gt
  rw [List.getD_eq_getElem?_getD, List.getElem?_eq_getElem hi, e]
  rfl
theorem Env.own_at {C : Ct} {ρ : Rho} {σ : L2.St} {H : Hp} (E : Env C ρ σ H) {p : Addr} (h : owns ρ p = true) : H p ≠ none := by
  unfold owns at h
  obtain ⟨sv, hm, e⟩ := List.any_eq_true.mp h
  obtain ⟨i, hi⟩ := mem_gt hm
  have s := E.slot i
  rw [hi] at s
  have e' : sv.addr = some p := eq_of_beq e
  cases sv with
  | own q ds =>
    obtain ⟨_, _, _, xs, h3, _⟩ := s
    have : q = p := Option.some.inj e'
    rw [← this, h3]; simp
  | dic q ds =>
    obtain ⟨_, _, _, xs, h3, _⟩ := s
    have : q = p := Option.some.inj e'
    rw [← this, h3]; simp
  | thg q th =>
    obtain ⟨_, _, _, xs, h3, _⟩ := s
    have : q = p := Option.some.inj e'
    rw [← this, h3]; simp
  | _ => cases e'
theorem Env.newO {C : Ct} {ρ : Rho} {σ : L2.St} {H : Hp} (E : Env C ρ σ H) {p : Addr} (h : H p = none) : inn C ρ p = false := by
  unfold inn
  rw [E.new h]
  cases e : owns ρ p with
  | false => rfl
  | true => exact absurd h (E.own_at e)
theorem Env.newV {C : Ct} {ρ : Rho} {σ : L2.St} {H : Hp} (E : Env C ρ σ H) {p : Addr} {o : HO} (h : H p = none) : vis C ρ (upd H p o) p = some o := by
  exact (hid_at (E.newO h)).trans upd_same
/-! ## readings, all at once -/
def cE (X : Cx) (e : Expr) : TE := fun σ H Q => ∃ t, PE X e t ∧ t σ H Q
def cT (X : Cx) (e : Expr) : TT := fun σ H Q => ∃ t, PT X e t ∧ t σ H Q
def cW (X : Cx) (e : Expr) : TT := fun σ H Q => ∃ t, PW X e t ∧ t σ H Q
def cA (X : Cx) (es : List Expr) : TA := fun σ H Q => ∃ t, PA X es t ∧ t σ H Q
def cS (X : Cx) (s : Stmt) : TS := fun D σ H => ∃ t, PS X s t ∧ t D σ H
def cSs (X : Cx) (s : List Stmt) : TS := fun D σ H => ∃ t, PSs X s t ∧ t D σ H
section
variable {X : Cx}
theorem pE {e : Expr} : PE X e (cE X e) := ⟨fun pins s σ H Q I ⟨_, hp, h⟩ => hp.run pins s σ H Q I h⟩
theorem pT {e : Expr} : PT X e (cT X e) := ⟨fun pins s σ H Q I ⟨_, hp, h⟩ => hp.run pins s σ H Q I h⟩
theorem pW {e : Expr} : PW X e (cW X e) := ⟨fun wh pins s σ H Q I ⟨_, hp, h⟩ => hp.run wh pins s σ H Q I h⟩
theorem pA {es : List Expr} : PA X es (cA X es) := ⟨fun pos pins s σ H Q I ⟨_, hp, h⟩ => hp.run pos pins s σ H Q I h⟩
theorem pS {s : Stmt} : PS X s (cS X s) := ⟨fun pins s σ H D I ⟨_, hp, h⟩ => hp.run pins s σ H D I h⟩
theorem pSs {s : List Stmt} : PSs X s (cSs X s) := ⟨fun pins s σ H D I ⟨_, hp, h⟩ => hp.run pins s σ H D I h⟩
end
/-! ## judgements -/
section
variable (C : Ct) (Ξ : Addr → Prop) (ρ : Rho)
def DE (e : Expr) (P : PyData → Prop) : Prop :=
  ∀ σ H, Env C ρ σ H → ∀ Q : VK, (∀ d v H2, P d → Gr C.U H H2 → At (vis C ρ H2) v d → Q v H2) → (∀ c H2, Ξ c → Gr C.U H H2 → C.W (.ref c) none σ H2) → cE C.X e σ H Q
def DT (e : Expr) (P : Bool → Prop) : Prop :=
  ∀ σ H, Env C ρ σ H → ∀ Q : Bool → Hp → Prop, (∀ b H2, P b → Gr C.U H H2 → Q b H2) → (∀ c H2, Ξ c → Gr C.U H H2 → C.W (.ref c) none σ H2) → cT C.X e σ H Q
def DW (e : Expr) (P : Bool → Prop) : Prop :=
  ∀ σ H, Env C ρ σ H → ∀ Q : Bool → Hp → Prop, (∀ b H2, P b → Gr C.U H H2 → Q b H2) → (∀ c H2, Ξ c → Gr C.U H H2 → C.W (.ref c) none σ H2) → cW C.X e σ H Q
inductive AV where
  | d (x : PyData)
  | r (v : V)
def AvOk (H : Hp) : V → AV → Prop
  | v, .d x => At H v x
  | v, .r u => v = u
abbrev AvAll (H : Hp) : List V → List AV → Prop := Paired (AvOk H)
def DA (es : List Expr) (P : List AV → Prop) : Prop :=
  ∀ σ H, Env C ρ σ H → ∀ Q : List V → Hp → Prop, (∀ ds vs H2, P ds → Gr C.U H H2 → AvAll (vis C ρ H2) vs ds → Q vs H2) → (∀ c H2, Ξ c → Gr C.U H H2 → C.W (.ref c) none σ H2) → cA C.X es σ H Q
end
abbrev DEd (C : Ct) (Ξ : Addr → Prop) (ρ : Rho) (e : Expr) (d : PyData) : Prop := DE C Ξ ρ e (fun x => x = d)
abbrev DTd (C : Ct) (Ξ : Addr → Prop) (ρ : Rho) (e : Expr) (b : Bool) : Prop := DT C Ξ ρ e (fun x => x = b)
abbrev DWd (C : Ct) (Ξ : Addr → Prop) (ρ : Rho) (e : Expr) (b : Bool) : Prop := DW C Ξ ρ e (fun x => x = b)
abbrev DI (C : Ct) (Ξ : Addr → Prop) (ρ : Rho) (e : Expr) (A : Int → Prop) : Prop := DE C Ξ ρ e (fun x => ∃ i, x = .int i ∧ A i)
abbrev none' : Addr → Prop := fun _ => False
theorem AvOk.up {H H' : Hp} (e : Same H H') : ∀ {v : V} {x : AV}, AvOk H v x → AvOk H' v x
  | _, .d _, h => At.up (show At H _ _ from h) e
  | _, .r _, h => h
theorem AvAll.up {H H' : Hp} (e : Same H H') {vs : List V} {xs : List AV} (h : AvAll H vs xs) : AvAll H' vs xs := Paired.mapP h fun _ _ => AvOk.up e
theorem AvAll.ats {H : Hp} : ∀ {ds : List PyData} {vs : List V}, AvAll H vs (ds.map AV.d) → AtAll H vs ds
  | [], _, h => by cases h; exact .nil
  | d :: ds, _, h => by
    cases h with
    | cons h1 h2 => exact .cons h1 (AvAll.ats h2)
section
variable {C : Ct} {Ξ : Addr → Prop} {ρ : Rho} {a b e : Expr} {pos : Pos}
theorem DE.imp {P P' : PyData → Prop} (h : DE C Ξ ρ e P) (i : ∀ d, P d → P' d) : DE C Ξ ρ e P' := fun σ H E Q k x => h σ H E Q (fun d v H2 p => k d v H2 (i d p)) x
theorem DT.imp {P P' : Bool → Prop} (h : DT C Ξ ρ e P) (i : ∀ d, P d → P' d) : DT C Ξ ρ e P' := fun σ H E Q k x => h σ H E Q (fun d H2 p => k d H2 (i d p)) x
theorem DE.to {d d' : PyData} (h : DEd C Ξ ρ e d) (i : d = d') : DEd C Ξ ρ e d' := by rw [← i]; exact h
theorem DT.to {d d' : Bool} (h : DTd C Ξ ρ e d) (i : d = d') : DTd C Ξ ρ e d' := by rw [← i]; exact h
theorem DE.toI {i : Int} (h : DEd C Ξ ρ e (.int i)) : DI C Ξ ρ e (fun j => j = i) := h.imp fun _ e => ⟨i, e, rfl⟩
/-! ### names and constants -/
theorem de_var (i : Nat) {x : Str} {d : PyData} (hs : gt ρ i = .dat d) (hN : C.X.N[i]? = some x) (hv : Vis C.X.env.scope x) (hd : (x == ("__debug__" : Str)) = false := by decide)
    (hcd : (x == ("__classdict__" : Str)) = false := by decide) : DEd C Ξ ρ (.Name x pos) d := fun σ H E Q k _ => by
  have s := E.slot i
  rw [hs] at s
  obtain ⟨v, e, r⟩ := s
  refine ⟨_, pe_var hN hv hd hcd, v, ?_, k d v H rfl (Gr.refl _ _) r⟩
  rw [List.getD_eq_getElem?_getD] at e
  cases q : σ[i]? with
  | none => rw [q] at e; cases e
  | some o => rw [q] at e; exact congrArg some e
theorem de_int {i : Int} {j : Nat} : DEd C Ξ ρ (.Constant (.int i) j pos) (.int i) := fun _ H _ _ k _ => ⟨_, pe_int, k _ _ H rfl (Gr.refl _ _) (.int i)⟩
theorem de_bl {i : Bool} {j : Nat} : DEd C Ξ ρ (.Constant (.bool i) j pos) (.bool i) := fun _ H _ _ k _ => ⟨_, pe_bl, k _ _ H rfl (Gr.refl _ _) (.bl i)⟩
theorem de_str {i : Str} {j : Nat} : DEd C Ξ ρ (.Constant (.str i) j pos) (.str i) := fun _ H _ _ k _ => ⟨_, pe_str, k _ _ H rfl (Gr.refl _ _) (.str i)⟩
theorem de_non {j : Nat} : DEd C Ξ ρ (.Constant .none j pos) .none := fun _ H _ _ k _ => ⟨_, pe_non, k _ _ H rfl (Gr.refl _ _) .non⟩
/-! ### two operands -/
/-- a rule for values of known data -/
def RD (r : R2) (x y : PyData) (P : PyData → Prop) : Prop := ∀ (A : Ct) (ρ : Rho) (σ : L2.St) (H : Hp) (v u : V) (Q : VK), Env A ρ σ H → At (vis A ρ H) v x → At (vis A ρ H) u y → (∀ d w H2, P d → Same H H2 → At (vis A ρ H2) w d → Q w H2) → r v u H Q
theorem de_op2 {op : Operator} {r : R2} {Pa Pb P : PyData → Prop} (ho : OpR C.X (binaryOp op) r) (ha : DE C Ξ ρ a Pa) (hb : DE C Ξ ρ b Pb) (hr : ∀ x y, Pa x → Pb y → RD r x y P) : DE C Ξ ρ (.BinOp a op b pos) P := fun σ H E Q k x =>
  ⟨_, pe_op ho pE pE, ha σ H E _ (fun d v H2 p g r1 => hb σ H2 (E.grow g) _ (fun d' u H3 p' g' r2 =>
    hr d d' p p' C ρ σ H3 v u Q ((E.grow g).grow g') (r1.up (vis_gr g')) r2 fun z w H4 pz s rw' => k z w H4 pz ((g.trans g').trans (Gr.of s)) rw') fun c H3 xc g' => x c H3 xc (g.trans g')) x⟩
theorem rd_int {C' : Int → Int → Prop} {g : Int → Int → Int} {i j : Int} (h : C' i j) : RD (rI C' fun i j => .int (g i j)) (.int i) (.int j) (fun d => d = .int (g i j)) := fun A ρ σ H v u Q E r1 r2 k =>
  ⟨i, j, r1.int_inv, r2.int_inv, h, k _ _ H rfl (Same.refl _) (.int _)⟩
theorem rd_int0 {g : Int → Int → Int} {i j : Int} : RD (rI0 fun i j => .int (g i j)) (.int i) (.int j) (fun d => d = .int (g i j)) := fun A ρ σ H v u Q E r1 r2 k =>
  ⟨i, j, r1.int_inv, r2.int_inv, k _ _ H rfl (Same.refl _) (.int _)⟩
theorem de_add {i j : Int} (ha : DEd C Ξ ρ a (.int i)) (hb : DEd C Ξ ρ b (.int j)) : DEd C Ξ ρ (.BinOp a .Add b pos) (.int (i + j)) :=
  de_op2 op_add ha hb fun _ _ e e' => by subst e; subst e'; exact rd_int0
theorem de_sub {i j : Int} (ha : DEd C Ξ ρ a (.int i)) (hb : DEd C Ξ ρ b (.int j)) : DEd C Ξ ρ (.BinOp a .Sub b pos) (.int (i - j)) :=
  de_op2 op_sub ha hb fun _ _ e e' => by subst e; subst e'; exact rd_int0
theorem de_mul {i j : Int} (ha : DEd C Ξ ρ a (.int i)) (hb : DEd C Ξ ρ b (.int j)) (h : CMul i j) : DEd C Ξ ρ (.BinOp a .Mult b pos) (.int (i * j)) :=
  de_op2 op_mul ha hb fun _ _ e e' => by subst e; subst e'; exact rd_int h
theorem de_mulW {i j : Int} (ha : DEd C Ξ ρ a (.int i)) (hb : DEd C Ξ ρ b (.int j)) (h : CMulW i j) : DEd C Ξ ρ (.BinOp a .Mult b pos) (.int (i * j)) :=
  de_op2 op_mulW ha hb fun _ _ e e' => by subst e; subst e'; exact rd_int h
theorem de_div {i j : Int} (ha : DEd C Ξ ρ a (.int i)) (hb : DEd C Ξ ρ b (.int j)) (h : CDivW i j) : DEd C Ξ ρ (.BinOp a .FloorDiv b pos) (.int (i / j)) :=
  de_op2 op_fdivW ha hb fun _ _ e e' => by subst e; subst e'; exact rd_int h
theorem de_mod {i j : Int} (ha : DEd C Ξ ρ a (.int i)) (hb : DEd C Ξ ρ b (.int j)) (h : 0 < j) : DEd C Ξ ρ (.BinOp a .Mod b pos) (.int (i % j)) :=
  de_op2 op_mod ha hb fun _ _ e e' => by subst e; subst e'; exact rd_int (C' := fun _ j => 0 < j) h
theorem de_pow {i j : Int} (ha : DEd C Ξ ρ a (.int i)) (hb : DEd C Ξ ρ b (.int j)) (h : CPow i j) : DEd C Ξ ρ (.BinOp a .Pow b pos) (.int (i ^ j.toNat)) :=
  de_op2 op_pow ha hb fun _ _ e e' => by subst e; subst e'; exact rd_int h
theorem de_neg {i : Int} (ha : DEd C Ξ ρ a (.int i)) : DEd C Ξ ρ (.UnaryOp .USub a pos) (.int (-i)) := fun σ H E Q k x =>
  ⟨_, pe_un un_neg pE, ha σ H E _ (fun d v H2 p g r1 => by subst p; exact ⟨i, r1.int_inv, k _ _ H2 rfl g (.int _)⟩) x⟩
end
end DD

namespace DD
open PySem L2
/-! ## tests, comparisons -/
def nonB : PyData → Bool
  | .none => true
  | _ => false
section
variable {C : Ct} {Ξ : Addr → Prop} {ρ : Rho} {a b c e : Expr} {pos : Pos} {rest : List Expr}
/-- a comparison's rule, by data -/
def RB (r : R2) (x y : PyData) (k : Bool) : Prop := ∀ (A : Ct) (ρ : Rho) (σ : L2.St) (H : Hp) (v u : V) (Q : VK), Env A ρ σ H → At (vis A ρ H) v x → At (vis A ρ H) u y → Q (.bl k) H → r v u H Q
theorem de_cmp {op : CmpOp} {r : R2} {x y : PyData} {k : Bool} (ho : OpR C.X (compareOp op) r) (hm : behindInMarks op b = false) (ha : DEd C Ξ ρ a x) (hb : DEd C Ξ ρ b y) (hr : RB r x y k) : DEd C Ξ ρ (.Compare a [op] [b] pos) (.bool k) := fun σ H E Q q z =>
  ⟨_, pe_cmpR ho pE pE hm, ha σ H E _ (fun d v H2 p g r1 => hb σ H2 (E.grow g) _ (fun d' u H3 p' g' r2 => by
    subst p; subst p'
    exact hr C ρ σ H3 v u Q ((E.grow g).grow g') (r1.up (vis_gr g')) r2 (q _ _ H3 rfl (g.trans g') (.bl _))) fun c H3 xc g' => z c H3 xc (g.trans g')) z⟩
theorem dt_cmp {op : CmpOp} {r : R2} {x y : PyData} {k : Bool} (ho : OpR C.X (compareOp op) r) (hm : behindInMarks op b = false) (ha : DEd C Ξ ρ a x) (hb : DEd C Ξ ρ b y) (hr : RB r x y k) : DTd C Ξ ρ (.Compare a [op] [b] pos) k := fun σ H E Q q z =>
  ⟨_, pt_cmpR ho pE pE hm, ha σ H E _ (fun d v H2 p g r1 => hb σ H2 (E.grow g) _ (fun d' u H3 p' g' r2 => by
    subst p; subst p'
    exact hr C ρ σ H3 v u _ ((E.grow g).grow g') (r1.up (vis_gr g')) r2 ⟨k, rfl, q _ H3 rfl (g.trans g')⟩) fun c H3 xc g' => z c H3 xc (g.trans g')) z⟩
/-- a test of an int that is not wholly known -/
theorem dt_cmpI {op : CmpOp} {r : R2} {A : Int → Prop} {y : PyData} {k : Int → Bool} (ho : OpR C.X (compareOp op) r) (hm : behindInMarks op b = false) (ha : DI C Ξ ρ a A) (hb : DEd C Ξ ρ b y) (hr : ∀ i, A i → RB r (.int i) y (k i)) : DT C Ξ ρ (.Compare a [op] [b] pos) (fun x => ∃ i, A i ∧ x = k i) := fun σ H E Q q z =>
  ⟨_, pt_cmpR ho pE pE hm, ha σ H E _ (fun d v H2 p g r1 => hb σ H2 (E.grow g) _ (fun d' u H3 p' g' r2 => by
    obtain ⟨i, e1, e2⟩ := p
    subst e1; subst p'
    exact hr i e2 C ρ σ H3 v u _ ((E.grow g).grow g') (r1.up (vis_gr g')) r2 ⟨k i, rfl, q _ H3 ⟨i, e2, rfl⟩ (g.trans g')⟩) fun c H3 xc g' => z c H3 xc (g.trans g')) z⟩
theorem rb_int {g : Int → Int → Bool} {i j : Int} : RB (rI0 fun i j => .bl (g i j)) (.int i) (.int j) (g i j) := fun _ _ _ H v u Q _ r1 r2 q => ⟨i, j, r1.int_inv, r2.int_inv, q⟩
theorem Ct.dpv {A : Ct} {ρ : Rho} {H : Hp} {K : PySem.W.Frag} {v : V} {x : PyData} (s : SeqAt.shaped x = true) (h : At (vis A ρ H) v x) : Dp K H v x := (h.up hid_le).dp (nod_lay x (SeqAt.canLay_of_shaped s))
theorem rb_eq {K : PySem.W.Frag} {x y : PyData} (hx : SeqAt.shaped x = true) (hy : SeqAt.shaped y = true) : RB (rEqD K) x y (PyData.eqv x y) := fun _ _ _ H v u Q _ r1 r2 q => ⟨x, y, Ct.dpv hx r1, Ct.dpv hy r2, hx, hy, q⟩
theorem rb_ne {K : PySem.W.Frag} {x y : PyData} (hx : SeqAt.shaped x = true) (hy : SeqAt.shaped y = true) : RB (rNeD K) x y (!PyData.eqv x y) := fun _ _ _ H v u Q _ r1 r2 q => ⟨x, y, Ct.dpv hx r1, Ct.dpv hy r2, hx, hy, q⟩
theorem rb_inL {K : PySem.W.Frag} {x : PyData} {ds : List PyData} (hx : SeqAt.shaped x = true) (hy : SeqAt.shaped (.list ds) = true) : RB (rInD K) x (.list ds) (ds.any fun z => PyData.eqv z x) := fun _ _ _ H v u Q _ r1 r2 q => ⟨x, ds, Ct.dpv hx r1, Ct.dpv hy r2, hx, hy, q⟩
theorem rb_niL {K : PySem.W.Frag} {x : PyData} {ds : List PyData} (hx : SeqAt.shaped x = true) (hy : SeqAt.shaped (.list ds) = true) : RB (rNotInD K) x (.list ds) (!ds.any fun z => PyData.eqv z x) := fun _ _ _ H v u Q _ r1 r2 q => ⟨x, ds, Ct.dpv hx r1, Ct.dpv hy r2, hx, hy, q⟩
theorem rb_lt {i j : Int} : RB (rI0 fun i j => .bl (decide (i < j))) (.int i) (.int j) (decide (i < j)) := rb_int (g := fun i j => decide (i < j))
theorem rb_le {i j : Int} : RB (rI0 fun i j => .bl (decide (i ≤ j))) (.int i) (.int j) (decide (i ≤ j)) := rb_int (g := fun i j => decide (i ≤ j))
theorem rb_gt {i j : Int} : RB (rI0 fun i j => .bl (decide (j < i))) (.int i) (.int j) (decide (j < i)) := rb_int (g := fun i j => decide (j < i))
theorem rb_ge {i j : Int} : RB (rI0 fun i j => .bl (decide (j ≤ i))) (.int i) (.int j) (decide (j ≤ i)) := rb_int (g := fun i j => decide (j ≤ i))
/-- a < b < c -/
theorem chain_core {op op' : CmpOp} {r r' : R2} {x y z : PyData} {k k' : Bool} {σ : L2.St} {H : Hp} {Q : VK} (E : Env C ρ σ H) (ha : DEd C Ξ ρ a x) (hb : DEd C Ξ ρ b y) (hc : k = true → DEd C Ξ ρ c z) (hr : RB r x y k) (hr' : k = true → RB r' y z k')
    (q : ∀ H2, Gr C.U H H2 → Q (.bl (k && k')) H2) (xx : ∀ c H2, Ξ c → Gr C.U H H2 → C.W (.ref c) none σ H2) : tChain r r' (cE C.X a) (cE C.X b) (cE C.X c) σ H Q :=
  ha σ H E _ (fun d v H2 p g r1 => hb σ H2 (E.grow g) _ (fun d' u H3 p' g' r2 => by
    subst p; subst p'
    refine hr C ρ σ H3 v u _ ((E.grow g).grow g') (r1.up (vis_gr g')) r2 ⟨k, rfl, ?_⟩
    cases k with
    | false =>
      refine iteF ?_
      have z := q H3 (g.trans g')
      rw [Bool.false_and] at z
      exact z
    | true =>
      refine iteT (hc rfl σ H3 ((E.grow g).grow g') _ (fun d3 w H4 p3 g3 r3 => ?_) fun c H4 xc g3 => xx c H4 xc ((g.trans g').trans g3))
      subst p3
      refine hr' rfl C ρ σ H4 u w Q (((E.grow g).grow g').grow g3) (r2.up (vis_gr g3)) r3 ?_
      have z := q H4 ((g.trans g').trans g3)
      rw [Bool.true_and] at z
      exact z) fun c H3 xc g' => xx c H3 xc (g.trans g')) xx
theorem de_chain {op op' : CmpOp} {r r' : R2} {x y z : PyData} {k k' : Bool} (ho : OpR C.X (compareOp op) r) (ho' : OpR C.X (compareOp op') r') (ha : DEd C Ξ ρ a x) (hb : DEd C Ξ ρ b y) (hc : k = true → DEd C Ξ ρ c z) (hr : RB r x y k) (hr' : k = true → RB r' y z k')
    (hm : lastMarks [op, op'] [b, c] = false := by with_unfolding_all rfl) : DEd C Ξ ρ (.Compare a [op, op'] [b, c] pos) (.bool (k && k')) := fun σ H E Q q xx =>
  ⟨_, pe_chain ho ho' pE pE pE hm, chain_core (op := op) (op' := op') E ha hb hc hr hr' (fun H2 g => q _ _ H2 rfl g (.bl _)) xx⟩
theorem dt_chain {op op' : CmpOp} {r r' : R2} {x y z : PyData} {k k' : Bool} (ho : OpR C.X (compareOp op) r) (ho' : OpR C.X (compareOp op') r') (ha : DEd C Ξ ρ a x) (hb : DEd C Ξ ρ b y) (hc : k = true → DEd C Ξ ρ c z) (hr : RB r x y k) (hr' : k = true → RB r' y z k')
    (hm : lastMarks [op, op'] [b, c] = false := by with_unfolding_all rfl) : DTd C Ξ ρ (.Compare a [op, op'] [b, c] pos) (k && k') := fun σ H E Q q xx =>
  ⟨_, pt_chain ho ho' pE pE pE hm, chain_core (op := op) (op' := op') (Q := fun x H' => ∃ k, x = .bl k ∧ Q k H') E ha hb hc hr hr' (fun H2 g => ⟨_, rfl, q _ H2 rfl g⟩) xx⟩
/-- is None, is not None -/
theorem de_isN {x : PyData} {j : Nat} {pos' : Pos} (ha : DEd C Ξ ρ a x) : DEd C Ξ ρ (.Compare a [.Is] [.Constant .none j pos'] pos) (.bool (nonB x)) := fun σ H E Q q z =>
  ⟨_, pe_cmp (pc_isN pE) rfl, ha σ H E _ (fun d v H2 p g r1 => by
    subst p
    have e : decide (v = V.non) = nonB d := by cases r1 <;> rfl
    show Q (.bl (decide (v = V.non))) H2
    rw [e]
    exact q _ _ H2 rfl g (.bl _)) z⟩
theorem dt_isN {x : PyData} {j : Nat} {pos' : Pos} (ha : DEd C Ξ ρ a x) : DTd C Ξ ρ (.Compare a [.Is] [.Constant .none j pos'] pos) (nonB x) := fun σ H E Q q z =>
  ⟨_, pt_cmp (pc_isN pE) rfl, ha σ H E _ (fun d v H2 p g r1 => by
    subst p
    have e : decide (v = V.non) = nonB d := by cases r1 <;> rfl
    refine ⟨_, congrArg V.bl e, q _ H2 rfl g⟩) z⟩
theorem dt_notN {x : PyData} {j : Nat} {pos' : Pos} (ha : DEd C Ξ ρ a x) : DTd C Ξ ρ (.Compare a [.IsNot] [.Constant .none j pos'] pos) (!(nonB x)) := fun σ H E Q q z =>
  ⟨_, pt_cmp (pc_notN pE) rfl, ha σ H E _ (fun d v H2 p g r1 => by
    subst p
    have e : (!decide (v = V.non)) = (!nonB d) := by cases r1 <;> rfl
    refine ⟨_, congrArg V.bl e, q _ H2 rfl g⟩) z⟩
/-- a value that is a bool, as a test -/
theorem dt_val {k : Bool} (h : DEd C Ξ ρ e (.bool k)) (he : ∀ whole, isTrue e C.X.env whole = (do let v ← whole; standAt e.pos; holding [v] (truthy v)) := by intro _; rfl) : DTd C Ξ ρ e k := fun σ H E Q q z =>
  ⟨_, pt_val pE he, h σ H E _ (fun d v H2 p g r1 => by subst p; exact ⟨k, r1.bl_inv, q _ H2 rfl g⟩) z⟩
/-! ### and, or, not -/
theorem dw_and1 {k : Bool} (h : DTd C Ξ ρ a k) : DWd C Ξ ρ (.BoolOp .And [a] pos) k := fun σ H E Q q z => ⟨_, pw_and1 pT, h σ H E Q q z⟩
theorem dw_or1 {k : Bool} (h : DTd C Ξ ρ a k) : DWd C Ξ ρ (.BoolOp .Or [a] pos) k := fun σ H E Q q z => ⟨_, pw_or1 pT, h σ H E Q q z⟩
theorem dw_and {k k' : Bool} (h : DTd C Ξ ρ a k) (h' : k = true → DWd C Ξ ρ (.BoolOp .And (b :: rest) pos) k') : DWd C Ξ ρ (.BoolOp .And (a :: b :: rest) pos) (k && k') := fun σ H E Q q z =>
  ⟨_, pw_and pT pW, h σ H E _ (fun d H2 p g => by
    subst p
    cases d with
    | false => exact iteF (q _ H2 rfl g)
    | true => exact iteT (h' rfl σ H2 (E.grow g) Q (fun d' H3 p' g' => q d' H3 (by rw [p', Bool.true_and]) (g.trans g')) fun c H3 xc g' => z c H3 xc (g.trans g'))) z⟩
theorem dw_or {k k' : Bool} (h : DTd C Ξ ρ a k) (h' : k = false → DWd C Ξ ρ (.BoolOp .Or (b :: rest) pos) k') : DWd C Ξ ρ (.BoolOp .Or (a :: b :: rest) pos) (k || k') := fun σ H E Q q z =>
  ⟨_, pw_or pT pW, h σ H E _ (fun d H2 p g => by
    subst p
    cases d with
    | true => exact iteT (q _ H2 rfl g)
    | false => exact iteF (h' rfl σ H2 (E.grow g) Q (fun d' H3 p' g' => q d' H3 (by rw [p', Bool.false_or]) (g.trans g')) fun c H3 xc g' => z c H3 xc (g.trans g'))) z⟩
theorem dt_w {k : Bool} (h : DWd C Ξ ρ e k) : DTd C Ξ ρ e k := fun σ H E Q q z => ⟨_, PW.pt pW, h σ H E Q q z⟩
theorem dt_not {k : Bool} (h : DTd C Ξ ρ a k) : DTd C Ξ ρ (.UnaryOp .Not a pos) (!k) := fun σ H E Q q z =>
  ⟨_, pt_not pT, h σ H E _ (fun d H2 p g => q _ H2 (by rw [p]) g) z⟩
theorem de_one {op : BoolOp} {P : PyData → Prop} (h : DE C Ξ ρ a P) : DE C Ξ ρ (.BoolOp op [a] pos) P := fun σ H E Q q z => ⟨_, pe_one pE, h σ H E Q q z⟩
theorem de_and {k k' : Bool} (h : DEd C Ξ ρ a (.bool k)) (h' : k = true → DEd C Ξ ρ (.BoolOp .And (b :: rest) pos) (.bool k')) : DEd C Ξ ρ (.BoolOp .And (a :: b :: rest) pos) (.bool (k && k')) := fun σ H E Q q z =>
  ⟨_, pe_and pE pE, h σ H E _ (fun d v H2 p g r1 => by
    subst p
    refine ⟨k, r1.bl_inv, ?_⟩
    cases k with
    | false => exact iteF (q _ _ H2 rfl g (.bl _))
    | true => exact iteT (h' rfl σ H2 (E.grow g) Q (fun d' v' H3 p' g' r2 => q d' v' H3 (by rw [p', Bool.true_and]) (g.trans g') r2) fun c H3 xc g' => z c H3 xc (g.trans g'))) z⟩
theorem de_or {k k' : Bool} (h : DEd C Ξ ρ a (.bool k)) (h' : k = false → DEd C Ξ ρ (.BoolOp .Or (b :: rest) pos) (.bool k')) : DEd C Ξ ρ (.BoolOp .Or (a :: b :: rest) pos) (.bool (k || k')) := fun σ H E Q q z =>
  ⟨_, pe_or pE pE, h σ H E _ (fun d v H2 p g r1 => by
    subst p
    refine ⟨k, r1.bl_inv, ?_⟩
    cases k with
    | true => exact iteT (q _ _ H2 rfl g (.bl _))
    | false => exact iteF (h' rfl σ H2 (E.grow g) Q (fun d' v' H3 p' g' r2 => q d' v' H3 (by rw [p', Bool.false_or]) (g.trans g') r2) fun c H3 xc g' => z c H3 xc (g.trans g'))) z⟩
theorem de_not {k : Bool} (h : DEd C Ξ ρ a (.bool k)) : DEd C Ξ ρ (.UnaryOp .Not a pos) (.bool (!k)) := fun σ H E Q q z =>
  ⟨_, pe_not pE, h σ H E _ (fun d v H2 p g r1 => by subst p; exact ⟨k, r1.bl_inv, q _ _ H2 rfl g (.bl _)⟩) z⟩
theorem de_if {P : PyData → Prop} {B : Bool → Prop} (h : DT C Ξ ρ c B) (h1 : B true → DE C Ξ ρ a P) (h2 : B false → DE C Ξ ρ b P) : DE C Ξ ρ (.IfExp c a b pos) P := fun σ H E Q q z =>
  ⟨_, pe_ifExp pT pE pE, h σ H E _ (fun d H2 p g => by
    cases d with
    | true => exact iteT (h1 p σ H2 (E.grow g) Q (fun d' v' H3 p' g' r2 => q d' v' H3 p' (g.trans g') r2) fun c H3 xc g' => z c H3 xc (g.trans g'))
    | false => exact iteF (h2 p σ H2 (E.grow g) Q (fun d' v' H3 p' g' r2 => q d' v' H3 p' (g.trans g') r2) fun c H3 xc g' => z c H3 xc (g.trans g'))) z⟩
theorem de_ifd {x : PyData} {k : Bool} (h : DTd C Ξ ρ c k) (h1 : k = true → DEd C Ξ ρ a x) (h2 : k = false → DEd C Ξ ρ b x) : DEd C Ξ ρ (.IfExp c a b pos) x := de_if h (fun e => h1 e.symm) (fun e => h2 e.symm)
end
/-! ## arguments, displays -/
section
variable {C : Ct} {Ξ : Addr → Prop} {ρ : Rho} {a b c e : Expr} {pos : Pos} {es : List Expr}
abbrev DAd (C : Ct) (Ξ : Addr → Prop) (ρ : Rho) (es : List Expr) (ds : List PyData) : Prop := DA C Ξ ρ es (fun l => l = ds.map AV.d)
theorem da_nilG {P : List AV → Prop} (h : P []) : DA C Ξ ρ [] P := fun σ H E Q q z => ⟨_, pa_nil, q [] _ H h (Gr.refl _ _) .nil⟩
theorem da_nil : DAd C Ξ ρ [] [] := da_nilG rfl
theorem da_consG {P1 : PyData → Prop} {P : List AV → Prop} (h : DE C Ξ ρ e P1) (hr : ∀ d, P1 d → DA C Ξ ρ es fun l => P (AV.d d :: l)) (hs : starEach (e :: es) C.X.env = (false, eval e C.X.env) :: starEach es C.X.env := by rfl) : DA C Ξ ρ (e :: es) P := fun σ H E Q q z =>
  ⟨_, pa_cons pE pA hs, h σ H E _ (fun d v H2 p g r1 => hr d p σ H2 (E.grow g) _ (fun l vs H3 p' g' r2 => q _ _ H3 p' (g.trans g') (.cons (r1.up (vis_gr g')) r2)) fun c H3 xc g' => z c H3 xc (g.trans g')) z⟩
theorem da_cons {d : PyData} {ds : List PyData} (h : DEd C Ξ ρ e d) (hr : DAd C Ξ ρ es ds) (hs : starEach (e :: es) C.X.env = (false, eval e C.X.env) :: starEach es C.X.env := by rfl) : DAd C Ξ ρ (e :: es) (d :: ds) :=
  da_consG h (fun x p σ H E Q q z => hr σ H E Q (fun l vs H2 pl => q l vs H2 (by show AV.d x :: l = _; rw [p, pl]; rfl)) z) hs
/-- a slot's own value, raw -/
theorem da_raw (i : Nat) {x : Str} {px : Pos} {v : V} {P : List AV → Prop} (hs0 : gt ρ i = .raw v) (hN : C.X.N[i]? = some x) (hv : Vis C.X.env.scope x) (hr : DA C Ξ ρ es fun l => P (AV.r v :: l)) (hd : (x == ("__debug__" : Str)) = false := by decide)
    (hcd : (x == ("__classdict__" : Str)) = false := by decide) (hs : starEach (.Name x px :: es) C.X.env = (false, eval (.Name x px) C.X.env) :: starEach es C.X.env := by rfl) : DA C Ξ ρ (.Name x px :: es) P := fun σ H E Q q z => by
  refine ⟨_, pa_cons (pe_var hN hv hd hcd) pA hs, v, ?_, hr σ H E _ (fun l vs H3 p' g' r2 => q _ _ H3 p' g' (.cons (show AvOk _ v (AV.r v) from rfl) r2)) z⟩
  have s := E.slot i
  rw [hs0] at s
  have s : σ.getD i none = some v := s
  rw [List.getD_eq_getElem?_getD] at s
  cases q : σ[i]? with
  | none => rw [q] at s; cases s
  | some o => rw [q] at s; exact congrArg some s
def AllD (P : List PyData → Prop) : List AV → Prop := fun l => ∃ ds, l = ds.map AV.d ∧ P ds
theorem AvAll.len {H : Hp} {vs : List V} {l : List AV} (h : AvAll H vs l) : vs.length = l.length := Paired.length h
theorem de_tupG {P : List PyData → Prop} (h : DA C Ξ ρ es (AllD P)) (hz : ∀ ds, P ds → ds.length ≤ 16777216) {k : Nat} : DE C Ξ ρ (.Tuple es k pos) (fun d => ∃ ds, d = .tuple ds ∧ P ds) := fun σ H E Q q z =>
  ⟨_, pe_tup pA, h σ H E _ (fun l vs H2 p g r => by
    obtain ⟨ds, e, pd⟩ := p
    subst e
    have e2 := r.len
    rw [List.length_map] at e2
    refine ⟨by rw [e2, sizeLine_eq]; exact hz ds pd, fun p hp => ?_⟩
    have E2 := E.grow g
    refine q _ _ _ ⟨ds, rfl, pd⟩ (g.trans (Gr.of (same_new hp))) (.tup (E2.newV hp) (r.ats.up (vis_gr (Gr.of (same_new hp)))))) z⟩
theorem de_tup {ds : List PyData} (h : DAd C Ξ ρ es ds) (hz : ds.length ≤ 16777216 := by decide) {k : Nat} : DEd C Ξ ρ (.Tuple es k pos) (.tuple ds) :=
  (de_tupG (P := fun x => x = ds) (fun σ H E Q q z => h σ H E Q (fun l vs H2 p => q l vs H2 ⟨ds, p, rfl⟩) z) (fun x e => by rw [e]; exact hz)).imp fun d ⟨x, e, e2⟩ => by rw [e, e2]
theorem de_lstG {P : List PyData → Prop} (h : DA C Ξ ρ es (AllD P)) (hz : ∀ ds, P ds → ds.length ≤ 16777216) : DE C Ξ ρ (.List es pos) (fun d => ∃ ds, d = .list ds ∧ P ds) := fun σ H E Q q z =>
  ⟨_, pe_lst pA, h σ H E _ (fun l vs H2 p g r => by
    obtain ⟨ds, e, pd⟩ := p
    subst e
    have e2 := r.len
    rw [List.length_map] at e2
    refine ⟨by rw [e2, sizeLine_eq]; exact hz ds pd, fun p hp => ?_⟩
    have E2 := E.grow g
    refine q _ _ _ ⟨ds, rfl, pd⟩ (g.trans (Gr.of (same_new hp))) (.lst (E2.newV hp) (r.ats.up (vis_gr (Gr.of (same_new hp)))))) z⟩
theorem de_lst {ds : List PyData} (h : DAd C Ξ ρ es ds) (hz : ds.length ≤ 16777216 := by decide) : DEd C Ξ ρ (.List es pos) (.list ds) :=
  (de_lstG (P := fun x => x = ds) (fun σ H E Q q z => h σ H E Q (fun l vs H2 p => q l vs H2 ⟨ds, p, rfl⟩) z) (fun x e => by rw [e]; exact hz)).imp fun d ⟨x, e, e2⟩ => by rw [e, e2]
/-! ### built-ins called, by data -/
def RCd (r : List V → Hp → VK → Prop) (ds : List PyData) (P : PyData → Prop) : Prop := ∀ (A : Ct) (ρ : Rho) (σ : L2.St) (H : Hp) (vs : List V) (Q : VK), Env A ρ σ H → AtAll (vis A ρ H) vs ds → (∀ d w H2, P d → Same H H2 → At (vis A ρ H2) w d → Q w H2) → r vs H Q
theorem de_cb {x : Str} {id : String} {p : Pos} {r : List V → Hp → VK → Prop} {ds : List PyData} {P : PyData → Prop} (hc : CallR C.X (.builtin id) r) (hg : Gl C.X x) (hm : C.X.mg x = none) (hv : bootBuiltins x = some (.builtin id)) (ha : DAd C Ξ ρ (e :: es) ds) (hr : RCd r ds P)
    (hn : x ≠ "__name__" := by decide) (hdb : (x == ("__debug__" : Str)) = false := by decide)
    (he : starEach (e :: es) C.X.env = (false, eval e C.X.env) :: starEach es C.X.env := by rfl) (hpl : (backTo pos (starEach es C.X.env)).any (·.1) = false := by rfl) : DE C Ξ ρ (.Call (.Name x p) (e :: es) [] pos) P := fun σ H E Q q z =>
  ⟨_, pe_callB hc hg hm hv pA hn hdb he hpl, ha σ H E _ (fun l vs H2 p g r1 => by
    subst p
    exact hr C ρ σ H2 vs Q (E.grow g) r1.ats fun d w H3 pd s rw' => q d w H3 pd (g.trans (Gr.of s)) rw') z⟩
theorem de_ct {x : Str} {T : String} {p : Pos} {r : List V → Hp → VK → Prop} {ds : List PyData} {P : PyData → Prop} (hc : CallR C.X (.type T) r) (hg : Gl C.X x) (hm : C.X.mg x = none) (hv : bootBuiltins x = some (.type T)) (ha : DAd C Ξ ρ (e :: es) ds) (hr : RCd r ds P)
    (hn : x ≠ "__name__" := by decide) (hdb : (x == ("__debug__" : Str)) = false := by decide)
    (he : starEach (e :: es) C.X.env = (false, eval e C.X.env) :: starEach es C.X.env := by rfl) (hpl : (backTo pos (starEach es C.X.env)).any (·.1) = false := by rfl) : DE C Ξ ρ (.Call (.Name x p) (e :: es) [] pos) P := fun σ H E Q q z =>
  ⟨_, pe_callTy hc hg hm hv pA hn hdb he hpl, ha σ H E _ (fun l vs H2 p g r1 => by
    subst p
    exact hr C ρ σ H2 vs Q (E.grow g) r1.ats fun d w H3 pd s rw' => q d w H3 pd (g.trans (Gr.of s)) rw') z⟩
end
theorem AtAll.one {H : Hp} {vs : List V} {d : PyData} (h : AtAll H vs [d]) : ∃ v, vs = [v] ∧ At H v d := by
  cases h with
  | cons h1 h2 => cases h2; exact ⟨_, rfl, h1⟩
theorem AtAll.two {H : Hp} {vs : List V} {d d' : PyData} (h : AtAll H vs [d, d']) : ∃ v u, vs = [v, u] ∧ At H v d ∧ At H u d' := by
  cases h with
  | cons h1 h2 =>
    cases h2 with
    | cons h3 h4 => cases h4; exact ⟨_, _, rfl, h1, h3⟩
end DD

namespace DD
open PySem L2
/-! ## sorted, of a list or a tuple of data without lists -/
mutual
def lf : PyData → Bool
  | .list _ => false
  | .dict _ => false
  | .tuple xs => lfs xs
  | _ => true
def lfs : List PyData → Bool
  | [] => true
  | x :: xs => lf x && lfs xs
end
mutual
theorem lf_reads {h : Heap} : ∀ (d : PyData) (v : Value) (as : List Addr), lf d = true → Reads h v d as → as = []
  | .none, _, _, _, r => by cases r; rfl
  | .bool _, _, _, _, r => by cases r; rfl
  | .int _, _, _, _, r => by cases r; rfl
  | .str _, _, _, _, r => by cases r; rfl
  | .list _, _, _, l, _ => by simp [lf] at l
  | .dict _, _, _, l, _ => by simp [lf] at l
  | .tuple xs, _, _, l, r => by
    cases r with
    | tuple _ _ _ h4 => exact lf_readsAll xs _ _ (by simpa [lf] using l) h4
theorem lf_readsAll {h : Heap} : ∀ (ds : List PyData) (vs : List Value) (as : List Addr), lfs ds = true → ReadsAll h vs ds as → as = []
  | [], _, _, _, r => by cases r; rfl
  | d :: ds, _, _, l, r => by
    cases r with
    | cons h1 h2 =>
      simp only [lfs, Bool.and_eq_true] at l
      rw [lf_reads d _ _ l.1 h1, lf_readsAll ds _ _ l.2 h2]
      rfl
end
theorem lfs_mem : ∀ {ds : List PyData} {d : PyData}, lfs ds = true → d ∈ ds → lf d = true
  | [], _, _, h => by cases h
  | x :: xs, d, l, h => by
    simp only [lfs, Bool.and_eq_true] at l
    rcases List.mem_cons.mp h with e | e
    · rw [e]; exact l.1
    · exact lfs_mem l.2 e
theorem dpAll_get {K : PySem.W.Frag} {H : Hp} : ∀ {vs : List V} {ds : List PyData}, DpAll K H vs ds → Paired (fun v d => Dp K H v d) vs ds
  | _, _, .nil => .nil
  | _, _, .cons h t => .cons h (dpAll_get t)
abbrev dLe : PyData → PyData → Bool := PySem.W.dataLe false (fun d => d)
def SortOut (xs : List V) (ds : List PyData) (ys : List V) : Prop := ∃ zs : List (V × PyData), zs.Perm (xs.zip ds) ∧ ys = zs.map (·.1) ∧ zs.map (·.2) = ds.mergeSort dLe
mutual
theorem nod_lf : ∀ d : PyData, lf d = true → nod d = true
  | .none, _ => rfl
  | .bool _, _ => rfl
  | .int _, _ => rfl
  | .str _, _ => rfl
  | .list xs, h => by rw [lf] at h; cases h
  | .tuple xs, h => by rw [nod]; exact nods_lf xs (by rw [lf] at h; exact h)
  | .dict _, h => by rw [lf] at h; cases h
theorem nods_lf : ∀ xs : List PyData, lfs xs = true → nods xs = true
  | [], _ => by rw [nods]
  | x :: xs, h => by
    rw [lfs, Bool.and_eq_true] at h
    rw [nods, nod_lf x h.1, nods_lf xs h.2]; rfl
end
structure CanSort (ds : List PyData) : Prop where
  al : PySem.W.AllAlike ds
  so : PySem.W.Sortable ds
  lf : lfs ds = true
  dp : ∀ d ∈ ds, d.depth ≤ 60
def rSortD (K : PySem.W.Frag) : List V → Hp → VK → Prop := fun vs H Q => ∃ (a : Addr) (xs : List V) (ds : List PyData), vs = [.ref a] ∧ (SqL K H a xs ∨ SqT K H a xs) ∧ DpAll K H xs ds ∧ CanSort ds ∧
  ∀ p ys, H p = none → SortOut xs ds ys → Q (.ref p) (upd H p (.lst ys))
theorem each_zip {X : Cx} {pins : List (Addr × Obj)} {σ : L2.St} {H : Hp} {s : Shared} (I : Inv X pins σ H s) {h' : Heap} (kp : ∀ b o, s.heap.get? b = some o → h'.get? b = some o) : ∀ {xs : List V} {ds : List PyData} {us : List Value}, Vals xs us → DpAll X.K H xs ds → lfs ds = true →
    PySem.W.EachIs (fun v (b : V × PyData) => RelV b.1 v) us (xs.zip ds) ∧ PySem.W.EachIs (fun v (b : V × PyData) => ∃ as, Reads h' v b.2 as ∧ as = []) us (xs.zip ds)
  | _, _, _, .nil, .nil, _ => ⟨.nil, .nil⟩
  | _, _, _, .cons r t, .cons h1 h2, l => by
    simp only [lfs, Bool.and_eq_true] at l
    obtain ⟨a1, a2⟩ := each_zip I kp t h2 l.2
    obtain ⟨as, q⟩ := Dp.reads I _ _ _ h1 r
    exact ⟨.cons r a1, .cons ⟨as, PyProof.Rows.Reads.keeps kp q, lf_reads _ _ _ l.1 q⟩ a2⟩
theorem eachIs_mono {α β : Type} {R R' : α → β → Prop} (h : ∀ a b, R a b → R' a b) {l : List α} {m : List β} (e : PySem.W.EachIs R l m) : PySem.W.EachIs R' l m := e.mono h
theorem each_vals : ∀ {us : List Value} {zs : List (V × PyData)}, PySem.W.EachIs (fun v (b : V × PyData) => RelV b.1 v) us zs → Vals (zs.map (·.1)) us
  | _, _, .nil => .nil
  | _, _, .cons r t => .cons r (each_vals t)
theorem cr_sortD {X : Cx} (hu : X.A.units + 100 < cLine) : CallR X (.builtin "sorted") (rSortD X.K) := by
  intro pins s σ H vs us Q I r h
  obtain ⟨a, xs, ds, rfl, hq, hd, hc, k⟩ := h
  rw [Vals.ref1 r]
  have hlen : xs.length = ds.length := Paired.length (dpAll_get hd)
  obtain ⟨its, T, o, n, rv, hT, ho, hcls, hdat, hz⟩ : ∃ (its : List Value) (T : String) (o : Obj) (n : Nat), Vals xs its ∧ (T = "list" ∨ T = "tuple") ∧ s.heap.get? a = some o ∧ o.cls = .type T ∧ o.data = .seq its.toArray n ∧ xs.length ≤ sizeLine := by
    rcases hq with hq | hq
    · obtain ⟨its, rv, pl, hz⟩ := I.list hq
      obtain ⟨o, ho, hc, n, hd⟩ := pl.isList
      exact ⟨its, "list", o, n, rv, .inl rfl, ho, hc, hd, hz⟩
    · obtain ⟨its, rv, pl, hz⟩ := I.tuple hq
      obtain ⟨o, ho, hc, n, hd⟩ := pl
      exact ⟨its, "tuple", o, n, rv, .inr rfl, ho, hc, hd, hz⟩
  have il : its.length ≤ sizeLine := by rw [← rv.length]; exact hz
  refine PySem.Calls.call_function_entry PyProof.Rows.kind_sorted PyProof.Rows.plain_sorted PyProof.Rows.entry_sorted (PyProof.Rows.args_sorted1 _) ?_
  unfold Builtin.«sorted»
  refine wpAny_bind (m := checkCount "sorted" 1 1 _) (wpAny_pure ?_)
  refine wpAny_bind (PySem.wpAny_collect_seq a hT ho hcls hdat (fun h' kp => ?_) (by rw [List.size_toArray]; exact il))
  refine wpAny_bind (wpAny_newList ?_ il)
  have I1 : Inv X pins σ H { s with heap := h' } := I.kept (t' := s.toks) kp
  have kp2 : ∀ b o, s.heap.get? b = some o → (h'.push (PyProof.Rows.seqObj "list" its.toArray 0)).get? b = some o := fun b o e => Heap.get?_push_of_some _ (kp b o e)
  obtain ⟨e1, e2⟩ := each_zip I kp2 rv hd hc.lf
  have hsnd : (xs.zip ds).map (·.2) = ds := List.map_snd_zip (by omega)
  have hbl : (xs.zip ds).length = ds.length := by rw [List.length_zip]; omega
  have ho' : (h'.push (PyProof.Rows.seqObj "list" its.toArray 0)).get? h'.objs.size = some (PyProof.Rows.seqObj "list" its.toArray 0) := Heap.get?_push_size _ rfl
  refine wpAny_bind (wpAny_holding (PySem.W.list_sort_data (s := { s with heap := h'.push (PyProof.Rows.seqObj "list" its.toArray 0) }) (bs := xs.zip ds) (enc := fun b : V × PyData => b.2) (R := fun v b => RelV b.1 v) ho' e1 (eachIs_mono (fun v b ⟨as, r, z⟩ => ⟨as, r, by rw [z]; simp⟩) e2)
    (by rw [hsnd]; exact hc.al) (by rw [hsnd]; exact hc.so) (by rw [hbl, ← hlen]; exact hz) (fun b hb => ?_) fun out hl hout => ?_))
  · have hm : b.2 ∈ ds := by rw [← hsnd]; exact List.mem_map.mpr ⟨b, hb, rfl⟩
    have := hc.dp _ hm
    show X.A.units + 1 + 1 + b.2.depth < cLine
    omega
  · refine wpAny_pure ⟨_, rfl, ?_⟩
    obtain ⟨ep, he'⟩ := PyProof.Rows.sortedHeap_at (out := out.toArray) ho'
    have hn : H h'.objs.size = none := I1.hok.fresh (Nat.le_refl _)
    have so : SortOut xs ds (((xs.zip ds).mergeSort (PySem.W.dataLe false fun b : V × PyData => b.2)).map (·.1)) := by
      refine ⟨_, List.mergeSort_perm _ _, rfl, ?_⟩
      have e := List.map_mergeSort (f := fun b : V × PyData => b.2) (r := PySem.W.dataLe false fun b : V × PyData => b.2) (s := dLe) (l := xs.zip ds) (fun a _ b _ => rfl)
      rw [e, hsnd]
    have ln : (((xs.zip ds).mergeSort (PySem.W.dataLe false fun b : V × PyData => b.2)).map (·.1)).length ≤ sizeLine := by
      rw [List.length_map, (List.mergeSort_perm _ _).length_eq, hbl, ← hlen]
      exact hz
    have I2 : Inv X pins σ (upd H h'.objs.size (.lst (((xs.zip ds).mergeSort (PySem.W.dataLe false fun b : V × PyData => b.2)).map (·.1)))) { s with heap := PyProof.Rows.sortedHeap (h'.push (PyProof.Rows.seqObj "list" its.toArray 0)) h'.objs.size its out.toArray } := by
      refine I1.laid (t' := s.toks) (fun b u e => ?_) (Nat.le_refl _) ⟨ln, out, ep, each_vals hout, he'⟩
      have hlt := Heap.lt_size e
      rw [PyProof.Rows.sortedHeap_old (Nat.ne_of_lt hlt) (by rw [Heap.size_push]; exact Nat.lt_succ_of_lt hlt)]
      exact Heap.get?_push_of_some _ e
    exact ⟨.ref _, _, I2, rfl, k _ _ hn so⟩
end DD

namespace DD
open PySem L2
theorem b_len : bootBuiltins "len" = some (.builtin "len") := by decide +kernel
theorem b_sorted : bootBuiltins "sorted" = some (.builtin "sorted") := by decide +kernel
theorem b_sum : bootBuiltins "sum" = some (.builtin "sum") := by decide +kernel
theorem b_min : bootBuiltins "min" = some (.builtin "min") := by decide +kernel
theorem b_max : bootBuiltins "max" = some (.builtin "max") := by decide +kernel
theorem b_all : bootBuiltins "all" = some (.builtin "all") := by decide +kernel
theorem b_abs : bootBuiltins "abs" = some (.builtin "abs") := by decide +kernel
theorem b_isi : bootBuiltins "isinstance" = some (.builtin "isinstance") := by decide +kernel
theorem b_tuple : bootBuiltins "tuple" = some (.type "tuple") := by decide +kernel
theorem b_list : bootBuiltins "list" = some (.type "list") := by decide +kernel
theorem b_int : bootBuiltins "int" = some (.type "int") := by decide +kernel
theorem b_str : bootBuiltins "str" = some (.type "str") := by decide +kernel
theorem b_bool : bootBuiltins "bool" = some (.type "bool") := by decide +kernel
/-! ## rules for built-ins, by data -/
section
variable {K : PySem.W.Frag}
theorem At.ref_list {H : Hp} {v : V} {ds : List PyData} (h : At H v (.list ds)) : ∃ a xs, v = .ref a ∧ H a = some (.lst xs) ∧ AtAll H xs ds := by
  cases h with
  | lst h1 h2 => exact ⟨_, _, rfl, h1, h2⟩
theorem At.ref_tup {H : Hp} {v : V} {ds : List PyData} (h : At H v (.tuple ds)) : ∃ a xs, v = .ref a ∧ H a = some (.tup xs) ∧ AtAll H xs ds := by
  cases h with
  | tup h1 h2 => exact ⟨_, _, rfl, h1, h2⟩
theorem rc_lenT {ds : List PyData} : RCd (fun xs H Q => ∃ x n, xs = [x] ∧ LenV K x H n ∧ Q (.int n) H) [.tuple ds] (fun d => d = .int ds.length) := fun A ρ σ H vs Q E r k => by
  obtain ⟨v, rfl, r1⟩ := r.one
  obtain ⟨a, xs, rfl, h1, h2⟩ := r1.ref_tup
  exact ⟨_, xs.length, rfl, .inr ⟨xs, SqT.of (hid_le _ _ h1), rfl⟩, k _ _ H rfl (Same.refl _) (by rw [h2.len]; exact .int _)⟩
theorem rc_lenL {ds : List PyData} : RCd (fun xs H Q => ∃ x n, xs = [x] ∧ LenV K x H n ∧ Q (.int n) H) [.list ds] (fun d => d = .int ds.length) := fun A ρ σ H vs Q E r k => by
  obtain ⟨v, rfl, r1⟩ := r.one
  obtain ⟨a, xs, rfl, h1, h2⟩ := r1.ref_list
  exact ⟨_, xs.length, rfl, .inl ⟨xs, SqL.of (hid_le _ _ h1), rfl⟩, k _ _ H rfl (Same.refl _) (by rw [h2.len]; exact .int _)⟩
theorem rc_lenS {x : Str} (hz : x.length ≤ 16777216) : RCd (fun xs H Q => ∃ x n, xs = [x] ∧ LenV K x H n ∧ Q (.int n) H) [.str x] (fun d => d = .int x.length) := fun A ρ σ H vs Q E r k => by
  obtain ⟨v, rfl, r1⟩ := r.one
  rw [r1.str_inv]
  exact ⟨_, x.length, rfl, ⟨by rw [sizeLine_eq]; exact hz, rfl⟩, k _ _ H rfl (Same.refl _) (.int _)⟩
theorem rc_tupleL {ds : List PyData} : RCd (fun xs H Q => ∃ p ys, xs = [.ref p] ∧ ((SqL K H p ys ∧ ∀ l, H l = none → Q (.ref l) (upd H l (.tup ys))) ∨ (SqT K H p ys ∧ Q (.ref p) H))) [.list ds] (fun d => d = .tuple ds) := fun A ρ σ H vs Q E r k => by
  obtain ⟨v, rfl, r1⟩ := r.one
  obtain ⟨a, xs, rfl, h1, h2⟩ := r1.ref_list
  refine ⟨a, xs, rfl, .inl ⟨SqL.of (hid_le _ _ h1), fun l hl => k _ _ _ rfl (same_new hl) (.tup (E.newV hl) (h2.up (vis_gr (Gr.of (same_new hl)))))⟩⟩
theorem rc_tupleT {ds : List PyData} : RCd (fun xs H Q => ∃ p ys, xs = [.ref p] ∧ ((SqL K H p ys ∧ ∀ l, H l = none → Q (.ref l) (upd H l (.tup ys))) ∨ (SqT K H p ys ∧ Q (.ref p) H))) [.tuple ds] (fun d => d = .tuple ds) := fun A ρ σ H vs Q E r k => by
  obtain ⟨v, rfl, r1⟩ := r.one
  obtain ⟨a, xs, rfl, h1, h2⟩ := r1.ref_tup
  exact ⟨a, xs, rfl, .inr ⟨SqT.of (hid_le _ _ h1), k _ _ H rfl (Same.refl _) (.tup h1 h2)⟩⟩
theorem rc_listT {ds : List PyData} : RCd (fun xs H Q => ∃ p ys, xs = [.ref p] ∧ (SqL K H p ys ∨ SqT K H p ys) ∧ ∀ l, H l = none → Q (.ref l) (upd H l (.lst ys))) [.tuple ds] (fun d => d = .list ds) := fun A ρ σ H vs Q E r k => by
  obtain ⟨v, rfl, r1⟩ := r.one
  obtain ⟨a, xs, rfl, h1, h2⟩ := r1.ref_tup
  refine ⟨a, xs, rfl, .inr (SqT.of (hid_le _ _ h1)), fun l hl => k _ _ _ rfl (same_new hl) (.lst (E.newV hl) (h2.up (vis_gr (Gr.of (same_new hl)))))⟩
theorem atAll_sort {H : Hp} {xs ys : List V} {ds : List PyData} (h : AtAll H xs ds) (s : SortOut xs ds ys) : AtAll H ys (ds.mergeSort dLe) := by
  obtain ⟨zs, h1, rfl, h3⟩ := s
  rw [← h3]
  have all : ∀ {xs : List V} {ds : List PyData}, AtAll H xs ds → ∀ z ∈ xs.zip ds, At H z.1 z.2 := by
    intro xs
    induction xs with
    | nil => intro ds _ z hz; simp at hz
    | cons x r ih =>
      intro ds h z hz
      cases h with
      | cons q1 q2 =>
        rw [List.zip_cons_cons] at hz
        rcases List.mem_cons.mp hz with e | e
        · rw [e]; exact q1
        · exact ih q2 z e
  have key : ∀ l : List (V × PyData), (∀ z ∈ l, At H z.1 z.2) → AtAll H (l.map (·.1)) (l.map (·.2)) := by
    intro l
    induction l with
    | nil => intro _; exact .nil
    | cons x r ih => intro q; exact .cons (q x List.mem_cons_self) (ih fun z hz => q z (List.mem_cons_of_mem _ hz))
  exact key zs fun z hz => all h z (h1.mem_iff.mp hz)
theorem rc_sortT {ds : List PyData} (hc : CanSort ds) : RCd (rSortD K) [.tuple ds] (fun d => d = .list (ds.mergeSort dLe)) := fun A ρ σ H vs Q E r k => by
  obtain ⟨v, rfl, r1⟩ := r.one
  obtain ⟨a, xs, rfl, h1, h2⟩ := r1.ref_tup
  refine ⟨a, xs, ds, rfl, .inr (SqT.of (hid_le _ _ h1)), AtAll.dp' _ _ _ (nods_lf _ hc.lf) (h2.up hid_le), hc, fun p ys hp so => k _ _ _ rfl (same_new hp) (.lst (E.newV hp) ?_)⟩
  exact atAll_sort (h2.up (vis_gr (Gr.of (same_new hp)))) so
theorem rc_sortL {ds : List PyData} (hc : CanSort ds) : RCd (rSortD K) [.list ds] (fun d => d = .list (ds.mergeSort dLe)) := fun A ρ σ H vs Q E r k => by
  obtain ⟨v, rfl, r1⟩ := r.one
  obtain ⟨a, xs, rfl, h1, h2⟩ := r1.ref_list
  refine ⟨a, xs, ds, rfl, .inl (SqL.of (hid_le _ _ h1)), AtAll.dp' _ _ _ (nods_lf _ hc.lf) (h2.up hid_le), hc, fun p ys hp so => k _ _ _ rfl (same_new hp) (.lst (E.newV hp) ?_)⟩
  exact atAll_sort (h2.up (vis_gr (Gr.of (same_new hp)))) so
theorem rc_sum {ns : List Int} : RCd (rSum K) [.list (ns.map .int)] (fun d => d = .int ns.sum) := fun A ρ σ H vs Q E r k => by
  obtain ⟨v, rfl, r1⟩ := r.one
  obtain ⟨a, xs, rfl, h1, h2⟩ := r1.ref_list
  rw [h2.ints] at h1
  exact ⟨a, ns, rfl, SqL.of (hid_le _ _ h1), k _ _ H rfl (Same.refl _) (.int _)⟩
theorem rc_all {bs : List Bool} : RCd (rAll K) [.list (bs.map .bool)] (fun d => d = .bool (bs.all id)) := fun A ρ σ H vs Q E r k => by
  obtain ⟨v, rfl, r1⟩ := r.one
  obtain ⟨a, xs, rfl, h1, h2⟩ := r1.ref_list
  rw [h2.bls] at h1
  exact ⟨a, bs, rfl, SqL.of (hid_le _ _ h1), k _ _ H rfl (Same.refl _) (.bl _)⟩
theorem rc_max2 {i j : Int} : RCd (fun xs H Q => ∃ i j, xs = [.int i, .int j] ∧ Q (.int (if j > i then j else i)) H) [.int i, .int j] (fun d => d = .int (if j > i then j else i)) := fun A ρ σ H vs Q E r k => by
  obtain ⟨v, u, rfl, r1, r2⟩ := r.two
  rw [r1.int_inv, r2.int_inv]
  exact ⟨i, j, rfl, k _ _ H rfl (Same.refl _) (.int _)⟩
theorem rc_min2 {i j : Int} : RCd (fun xs H Q => ∃ i j, xs = [.int i, .int j] ∧ Q (.int (if j < i then j else i)) H) [.int i, .int j] (fun d => d = .int (if j < i then j else i)) := fun A ρ σ H vs Q E r k => by
  obtain ⟨v, u, rfl, r1, r2⟩ := r.two
  rw [r1.int_inv, r2.int_inv]
  exact ⟨i, j, rfl, k _ _ H rfl (Same.refl _) (.int _)⟩
theorem rc_abs {i : Int} : RCd (fun xs H Q => ∃ i, xs = [.int i] ∧ Q (.int (if i < 0 then -i else i)) H) [.int i] (fun d => d = .int (if i < 0 then -i else i)) := fun A ρ σ H vs Q E r k => by
  obtain ⟨v, rfl, r1⟩ := r.one
  rw [r1.int_inv]
  exact ⟨i, rfl, k _ _ H rfl (Same.refl _) (.int _)⟩
theorem rc_strI {i : Int} (h : i.natAbs.log2 < 1920) : RCd (fun xs H Q => ∃ i, xs = [.int i] ∧ i.natAbs.log2 < 1920 ∧ Q (.str (toString i)) H) [.int i] (fun d => d = .str (toString i)) := fun A ρ σ H vs Q E r k => by
  obtain ⟨v, rfl, r1⟩ := r.one
  rw [r1.int_inv]
  exact ⟨i, rfl, h, k _ _ H rfl (Same.refl _) (.str _)⟩
theorem rc_intB {b : Bool} : RCd (fun xs H Q => (∃ i, xs = [.int i] ∧ Q (.int i) H) ∨ ∃ k, xs = [.bl k] ∧ Q (.int (if k then 1 else 0)) H) [.bool b] (fun d => d = .int (if b then 1 else 0)) := fun A ρ σ H vs Q E r k => by
  obtain ⟨v, rfl, r1⟩ := r.one
  rw [r1.bl_inv]
  exact .inr ⟨b, rfl, k _ _ H rfl (Same.refl _) (.int _)⟩
theorem rc_intS {a : Str} {n : Int} (h : PySem.intText? a = some n) (hz : a.length ≤ 640) : RCd (fun xs H Q => ∃ a n, xs = [.str a] ∧ PySem.intText? a = some n ∧ a.length ≤ 640 ∧ Q (.int n) H) [.str a] (fun d => d = .int n) := fun A ρ σ H vs Q E r k => by
  obtain ⟨v, rfl, r1⟩ := r.one
  rw [r1.str_inv]
  exact ⟨a, n, rfl, h, hz, k _ _ H rfl (Same.refl _) (.int _)⟩
end
/-! ### the same, as calls -/
section
variable {C : Ct} {Ξ : Addr → Prop} {ρ : Rho} {a b c e : Expr} {pos p : Pos}
theorem de_lenT {ds : List PyData} (hg : Gl C.X "len") (hm : C.X.mg "len" = none) (ha : DEd C Ξ ρ e (.tuple ds)) (he : starEach [e] C.X.env = (false, eval e C.X.env) :: starEach [] C.X.env := by rfl) : DEd C Ξ ρ (.Call (.Name "len" p) [e] [] pos) (.int ds.length) :=
  de_cb call_len hg hm b_len (da_cons ha da_nil he) rc_lenT (he := he)
theorem de_lenL {ds : List PyData} (hg : Gl C.X "len") (hm : C.X.mg "len" = none) (ha : DEd C Ξ ρ e (.list ds)) (he : starEach [e] C.X.env = (false, eval e C.X.env) :: starEach [] C.X.env := by rfl) : DEd C Ξ ρ (.Call (.Name "len" p) [e] [] pos) (.int ds.length) :=
  de_cb call_len hg hm b_len (da_cons ha da_nil he) rc_lenL (he := he)
theorem de_lenS {x : Str} (hg : Gl C.X "len") (hm : C.X.mg "len" = none) (ha : DEd C Ξ ρ e (.str x)) (hz : x.length ≤ 16777216) (he : starEach [e] C.X.env = (false, eval e C.X.env) :: starEach [] C.X.env := by rfl) : DEd C Ξ ρ (.Call (.Name "len" p) [e] [] pos) (.int x.length) :=
  de_cb call_len hg hm b_len (da_cons ha da_nil he) (rc_lenS hz) (he := he)
theorem de_tupleL {ds : List PyData} (hg : Gl C.X "tuple") (hm : C.X.mg "tuple" = none) (ha : DEd C Ξ ρ e (.list ds)) (he : starEach [e] C.X.env = (false, eval e C.X.env) :: starEach [] C.X.env := by rfl) : DEd C Ξ ρ (.Call (.Name "tuple" p) [e] [] pos) (.tuple ds) :=
  de_ct call_tuple_of hg hm b_tuple (da_cons ha da_nil he) rc_tupleL (he := he)
theorem de_listT {ds : List PyData} (hg : Gl C.X "list") (hm : C.X.mg "list" = none) (ha : DEd C Ξ ρ e (.tuple ds)) (he : starEach [e] C.X.env = (false, eval e C.X.env) :: starEach [] C.X.env := by rfl) : DEd C Ξ ρ (.Call (.Name "list" p) [e] [] pos) (.list ds) :=
  de_ct call_list_of hg hm b_list (da_cons ha da_nil he) rc_listT (he := he)
theorem de_sortT {ds : List PyData} (hu : C.X.A.units + 100 < cLine) (hg : Gl C.X "sorted") (hm : C.X.mg "sorted" = none) (ha : DEd C Ξ ρ e (.tuple ds)) (hc : CanSort ds) (he : starEach [e] C.X.env = (false, eval e C.X.env) :: starEach [] C.X.env := by rfl) : DEd C Ξ ρ (.Call (.Name "sorted" p) [e] [] pos) (.list (ds.mergeSort dLe)) :=
  de_cb (cr_sortD hu) hg hm b_sorted (da_cons ha da_nil he) (rc_sortT hc) (he := he)
theorem de_sortL {ds : List PyData} (hu : C.X.A.units + 100 < cLine) (hg : Gl C.X "sorted") (hm : C.X.mg "sorted" = none) (ha : DEd C Ξ ρ e (.list ds)) (hc : CanSort ds) (he : starEach [e] C.X.env = (false, eval e C.X.env) :: starEach [] C.X.env := by rfl) : DEd C Ξ ρ (.Call (.Name "sorted" p) [e] [] pos) (.list (ds.mergeSort dLe)) :=
  de_cb (cr_sortD hu) hg hm b_sorted (da_cons ha da_nil he) (rc_sortL hc) (he := he)
theorem de_sum {ns : List Int} (hg : Gl C.X "sum") (hm : C.X.mg "sum" = none) (ha : DEd C Ξ ρ e (.list (ns.map .int))) (hcalm : C.X.calm = true := by rfl) (he : starEach [e] C.X.env = (false, eval e C.X.env) :: starEach [] C.X.env := by rfl) : DEd C Ξ ρ (.Call (.Name "sum" p) [e] [] pos) (.int ns.sum) :=
  de_cb (cr_sum hcalm) hg hm b_sum (da_cons ha da_nil he) rc_sum (he := he)
theorem de_all {bs : List Bool} (hg : Gl C.X "all") (hm : C.X.mg "all" = none) (ha : DEd C Ξ ρ e (.list (bs.map .bool))) (hcalm : C.X.calm = true := by rfl) (he : starEach [e] C.X.env = (false, eval e C.X.env) :: starEach [] C.X.env := by rfl) : DEd C Ξ ρ (.Call (.Name "all" p) [e] [] pos) (.bool (bs.all id)) :=
  de_cb (cr_all hcalm) hg hm b_all (da_cons ha da_nil he) rc_all (he := he)
theorem de_max2 {i j : Int} (hg : Gl C.X "max") (hm : C.X.mg "max" = none) (ha : DEd C Ξ ρ a (.int i)) (hb : DEd C Ξ ρ b (.int j)) (hcalm : C.X.calm = true := by rfl) (he2 : starEach [a, b] C.X.env = (false, eval a C.X.env) :: starEach [b] C.X.env := by rfl) (he : starEach [b] C.X.env = (false, eval b C.X.env) :: starEach [] C.X.env := by rfl) (hpl : (backTo pos (starEach [b] C.X.env)).any (·.1) = false := by rfl) :
    DEd C Ξ ρ (.Call (.Name "max" p) [a, b] [] pos) (.int (if j > i then j else i)) := de_cb (call_max2 hcalm) hg hm b_max (da_cons ha (da_cons hb da_nil he) he2) rc_max2 (he := he2) (hpl := hpl)
theorem de_min2 {i j : Int} (hg : Gl C.X "min") (hm : C.X.mg "min" = none) (ha : DEd C Ξ ρ a (.int i)) (hb : DEd C Ξ ρ b (.int j)) (hcalm : C.X.calm = true := by rfl) (he2 : starEach [a, b] C.X.env = (false, eval a C.X.env) :: starEach [b] C.X.env := by rfl) (he : starEach [b] C.X.env = (false, eval b C.X.env) :: starEach [] C.X.env := by rfl) (hpl : (backTo pos (starEach [b] C.X.env)).any (·.1) = false := by rfl) :
    DEd C Ξ ρ (.Call (.Name "min" p) [a, b] [] pos) (.int (if j < i then j else i)) := de_cb (call_min2 hcalm) hg hm b_min (da_cons ha (da_cons hb da_nil he) he2) rc_min2 (he := he2) (hpl := hpl)
theorem de_abs {i : Int} (hg : Gl C.X "abs") (hm : C.X.mg "abs" = none) (ha : DEd C Ξ ρ e (.int i)) (he : starEach [e] C.X.env = (false, eval e C.X.env) :: starEach [] C.X.env := by rfl) : DEd C Ξ ρ (.Call (.Name "abs" p) [e] [] pos) (.int (if i < 0 then -i else i)) :=
  de_cb call_abs hg hm b_abs (da_cons ha da_nil he) rc_abs (he := he)
theorem de_strI {i : Int} (hg : Gl C.X "str") (hm : C.X.mg "str" = none) (ha : DEd C Ξ ρ e (.int i)) (h : i.natAbs.log2 < 1920) (he : starEach [e] C.X.env = (false, eval e C.X.env) :: starEach [] C.X.env := by rfl) : DEd C Ξ ρ (.Call (.Name "str" p) [e] [] pos) (.str (toString i)) :=
  de_ct call_str_int hg hm b_str (da_cons ha da_nil he) (rc_strI h) (he := he)
theorem de_intB {i : Bool} (hg : Gl C.X "int") (hm : C.X.mg "int" = none) (ha : DEd C Ξ ρ e (.bool i)) (he : starEach [e] C.X.env = (false, eval e C.X.env) :: starEach [] C.X.env := by rfl) : DEd C Ξ ρ (.Call (.Name "int" p) [e] [] pos) (.int (if i then 1 else 0)) :=
  de_ct call_int1 hg hm b_int (da_cons ha da_nil he) rc_intB (he := he)
theorem de_intS {a : Str} {n : Int} (hg : Gl C.X "int") (hm : C.X.mg "int" = none) (ha : DEd C Ξ ρ e (.str a)) (h : PySem.intText? a = some n) (hz : a.length ≤ 640) (he : starEach [e] C.X.env = (false, eval e C.X.env) :: starEach [] C.X.env := by rfl) : DEd C Ξ ρ (.Call (.Name "int" p) [e] [] pos) (.int n) :=
  de_ct call_int_str hg hm b_int (da_cons ha da_nil he) (rc_intS h hz) (he := he)
/-! ### isinstance against a built-in class -/
def tyN : PyData → String
  | .none => "NoneType"
  | .bool _ => "bool"
  | .int _ => "int"
  | .str _ => "str"
  | .list _ => "list"
  | .tuple _ => "tuple"
  | .dict _ => "dict"
def isInt : PyData → Bool
  | .int _ => true
  | .bool _ => true
  | _ => false
def isBool : PyData → Bool
  | .bool _ => true
  | _ => false
def isTup : PyData → Bool
  | .tuple _ => true
  | _ => false
def isStr : PyData → Bool
  | .str _ => true
  | _ => false
theorem kit_int : ∀ d : PyData, kitB (tyN d) "int" = some (isInt d)
  | .none => (by decide +kernel : kitB "NoneType" "int" = some false)
  | .bool _ => (by decide +kernel : kitB "bool" "int" = some true)
  | .int _ => (by decide +kernel : kitB "int" "int" = some true)
  | .str _ => (by decide +kernel : kitB "str" "int" = some false)
  | .list _ => (by decide +kernel : kitB "list" "int" = some false)
  | .tuple _ => (by decide +kernel : kitB "tuple" "int" = some false)
  | .dict _ => (by decide +kernel : kitB "dict" "int" = some false)
theorem kit_bool : ∀ d : PyData, kitB (tyN d) "bool" = some (isBool d)
  | .none => (by decide +kernel : kitB "NoneType" "bool" = some false)
  | .bool _ => (by decide +kernel : kitB "bool" "bool" = some true)
  | .int _ => (by decide +kernel : kitB "int" "bool" = some false)
  | .str _ => (by decide +kernel : kitB "str" "bool" = some false)
  | .list _ => (by decide +kernel : kitB "list" "bool" = some false)
  | .tuple _ => (by decide +kernel : kitB "tuple" "bool" = some false)
  | .dict _ => (by decide +kernel : kitB "dict" "bool" = some false)
theorem kit_tup : ∀ d : PyData, kitB (tyN d) "tuple" = some (isTup d)
  | .none => (by decide +kernel : kitB "NoneType" "tuple" = some false)
  | .bool _ => (by decide +kernel : kitB "bool" "tuple" = some false)
  | .int _ => (by decide +kernel : kitB "int" "tuple" = some false)
  | .str _ => (by decide +kernel : kitB "str" "tuple" = some false)
  | .list _ => (by decide +kernel : kitB "list" "tuple" = some false)
  | .tuple _ => (by decide +kernel : kitB "tuple" "tuple" = some true)
  | .dict _ => (by decide +kernel : kitB "dict" "tuple" = some false)
theorem kit_str : ∀ d : PyData, kitB (tyN d) "str" = some (isStr d)
  | .none => (by decide +kernel : kitB "NoneType" "str" = some false)
  | .bool _ => (by decide +kernel : kitB "bool" "str" = some false)
  | .int _ => (by decide +kernel : kitB "int" "str" = some false)
  | .str _ => (by decide +kernel : kitB "str" "str" = some true)
  | .list _ => (by decide +kernel : kitB "list" "str" = some false)
  | .tuple _ => (by decide +kernel : kitB "tuple" "str" = some false)
  | .dict _ => (by decide +kernel : kitB "dict" "str" = some false)
theorem At.ty {K : PySem.W.Frag} {H : Hp} {v : V} {d : PyData} (h : At H v d) : TyX K H v (.type (tyN d)) := by
  cases h with
  | non => exact .base .non
  | bl b => exact .base (.bl b)
  | int i => exact .base (.int i)
  | str x => exact .base (.str x)
  | lst h1 _ => exact .base (.lst h1)
  | tup h1 _ => exact .base (.tup h1)
  | dct _ h1 _ => exact .base (.dT h1)
theorem de_isi {d : PyData} {T : String} {x : Str} {k : Bool} {p2 : Pos} (hg : Gl C.X "isinstance") (hm : C.X.mg "isinstance" = none) (hgT : Gl C.X x) (hmT : C.X.mg x = none) (hvT : bootBuiltins x = some (.type T)) (ha : DEd C Ξ ρ e d) (hk : kitB (tyN d) T = some k)
    (he : starEach [e, .Name x p2] C.X.env = (false, eval e C.X.env) :: starEach [.Name x p2] C.X.env := by rfl) (hn : x ≠ "__name__" := by decide) (hd : (x == ("__debug__" : Str)) = false := by decide) : DEd C Ξ ρ (.Call (.Name "isinstance" p) [e, .Name x p2] [] pos) (.bool k) := fun σ H E Q q z =>
  ⟨_, pe_callB call_isi hg hm b_isi (pa_cons pE (pa_cons (pe_bltn hgT hmT hvT (v := .ty T) rfl hn hd) pa_nil) he) (he := he), ha σ H E _ (fun x v H2 pd g r => by
    subst pd
    exact ⟨v, .ty T, _, _, k, rfl, .ty T, (r.up hid_le).ty, kit_ty hk, q _ _ H2 rfl g (.bl k)⟩) z⟩
end
end DD

namespace DD
open PySem L2
/-! ## sequences: +, *, [], slices, in -/
section
variable {K : PySem.W.Frag}
theorem AtAll.nil_iff {H : Hp} {vs : List V} {ds : List PyData} (h : AtAll H vs ds) : vs = [] ↔ ds = [] := by
  cases h <;> simp
theorem rd_catT {xs ys : List PyData} (hz : xs.length + ys.length ≤ 16777216) : RD (rCatA K) (.tuple xs) (.tuple ys) (fun d => d = .tuple (xs ++ ys)) := fun A ρ σ H v u Q E r1 r2 k => by
  obtain ⟨a, vs, rfl, h1, h2⟩ := r1.ref_tup
  obtain ⟨b, us, rfl, h3, h4⟩ := r2.ref_tup
  refine ⟨a, b, vs, us, rfl, rfl, SqT.of (hid_le _ _ h1), SqT.of (hid_le _ _ h3), by rw [sizeLine_eq, h2.len, h4.len]; exact hz, fun e => ?_, fun e e' => ?_, fun _ _ p hp => ?_⟩
  · have e2 := h2.nil_iff.mp e
    subst e2
    exact k _ _ H rfl (Same.refl _) (.tup h3 h4)
  · have e2 := h4.nil_iff.mp e'
    subst e2
    rw [List.append_nil] at k
    exact k _ _ H rfl (Same.refl _) (.tup h1 h2)
  · exact k _ _ _ rfl (same_new hp) (.tup (E.newV hp) ((h2.app h4).up (vis_gr (Gr.of (same_new hp)))))
theorem rd_catL {xs ys : List PyData} (hz : xs.length + ys.length ≤ 16777216) : RD rCat (.list xs) (.list ys) (fun d => d = .list (xs ++ ys)) := fun A ρ σ H v u Q E r1 r2 k => by
  obtain ⟨a, vs, rfl, h1, h2⟩ := r1.ref_list
  obtain ⟨b, us, rfl, h3, h4⟩ := r2.ref_list
  exact ⟨a, b, vs, us, rfl, rfl, hid_le _ _ h1, hid_le _ _ h3, by rw [sizeLine_eq, h2.len, h4.len]; exact hz, fun p hp => k _ _ _ rfl (same_new hp) (.lst (E.newV hp) ((h2.app h4).up (vis_gr (Gr.of (same_new hp)))))⟩
theorem rd_catS {x y : Str} (hz : x.length + y.length ≤ 16777216) : RD (fun x y H Q => ∃ i j, x = .str i ∧ y = .str j ∧ i.length + j.length ≤ sizeLine ∧ Q (.str (i ++ j)) H) (.str x) (.str y) (fun d => d = .str (x ++ y)) := fun A ρ σ H v u Q E r1 r2 k =>
  ⟨x, y, r1.str_inv, r2.str_inv, by rw [sizeLine_eq]; exact hz, k _ _ H rfl (Same.refl _) (.str _)⟩
theorem AtAll.rep {H : Hp} {vs : List V} {ds : List PyData} (h : AtAll H vs ds) : ∀ n : Nat, AtAll H (List.replicate n vs).flatten (List.replicate n ds).flatten
  | 0 => .nil
  | n + 1 => by
    rw [List.replicate_succ, List.replicate_succ, List.flatten_cons, List.flatten_cons]
    exact h.app (AtAll.rep h n)
theorem rd_repT {xs : List PyData} {k : Int} (hne : xs ≠ []) (h2 : 2 ≤ k) (h3 : k ≤ 1000) (hz : xs.length ≤ 1000) : RD (rRepT K) (.tuple xs) (.int k) (fun d => d = .tuple (List.replicate k.toNat xs).flatten) := fun A ρ σ H v u Q E r1 r2 q => by
  obtain ⟨a, vs, rfl, h1, h4⟩ := r1.ref_tup
  rw [r2.int_inv]
  exact ⟨a, k, vs, rfl, rfl, SqT.of (hid_le _ _ h1), fun e => hne (h4.nil_iff.mp e), h2, h3, by rw [h4.len]; exact hz, fun p hp => q _ _ _ rfl (same_new hp) (.tup (E.newV hp) ((h4.rep _).up (vis_gr (Gr.of (same_new hp)))))⟩
theorem rd_repL {xs : List PyData} {k : Int} (h2 : 0 ≤ k) (h3 : k ≤ 1000000) (hz : xs.length * k.toNat ≤ 16777216) : RD rRep (.list xs) (.int k) (fun d => d = .list (List.replicate k.toNat xs).flatten) := fun A ρ σ H v u Q E r1 r2 q => by
  obtain ⟨a, vs, rfl, h1, h4⟩ := r1.ref_list
  rw [r2.int_inv]
  exact ⟨a, k, vs, rfl, rfl, hid_le _ _ h1, by omega, by omega, by rw [h4.len, sizeLine_eq]; exact hz, fun p hp => q _ _ _ rfl (same_new hp) (.lst (E.newV hp) ((h4.rep _).up (vis_gr (Gr.of (same_new hp)))))⟩
theorem atI_at {H : Hp} {vs : List V} {ds : List PyData} {i : Int} {d : PyData} (h : AtAll H vs ds) (e : atI ds i = some d) : ∃ v, atI vs i = some v ∧ At H v d := by
  unfold atI at e ⊢
  rw [h.len]
  cases q : ixN ds.length i with
  | none => rw [q] at e; cases e
  | some j =>
    rw [q] at e
    exact h.get e
theorem rd_ixT {ds : List PyData} {i : Int} {d : PyData} (e : atI ds i = some d) : RD (rIx K) (.tuple ds) (.int i) (fun x => x = d) := fun A ρ σ H v u Q E r1 r2 k => by
  obtain ⟨a, vs, rfl, h1, h2⟩ := r1.ref_tup
  obtain ⟨w, h3, h4⟩ := atI_at h2 e
  exact .inr (.inl ⟨a, vs, i, w, rfl, r2.int_inv, SqT.of (hid_le _ _ h1), h3, k _ _ H rfl (Same.refl _) h4⟩)
theorem rd_ixL {ds : List PyData} {i : Int} {d : PyData} (e : atI ds i = some d) : RD (rIx K) (.list ds) (.int i) (fun x => x = d) := fun A ρ σ H v u Q E r1 r2 k => by
  obtain ⟨a, vs, rfl, h1, h2⟩ := r1.ref_list
  obtain ⟨w, h3, h4⟩ := atI_at h2 e
  exact .inl ⟨a, vs, i, w, rfl, r2.int_inv, SqL.of (hid_le _ _ h1), h3, k _ _ H rfl (Same.refl _) h4⟩
theorem rd_ixS {z : Str} {i : Int} {c : Nat} (hz : z.length ≤ 16777216) (e : atI z.cps.toList i = some c) : RD (rIx K) (.str z) (.int i) (fun x => x = .str ⟨#[c]⟩) := fun A ρ σ H v u Q E r1 r2 k =>
  .inr (.inr ⟨z, i, c, r1.str_inv, r2.int_inv, by rw [sizeLine_eq]; exact hz, e, k _ _ H rfl (Same.refl _) (.str _)⟩)
theorem rb_sign {c : Nat} {z : Str} : RB (fun x y H Q => ∃ (c : Nat) (z : Str), x = .str ⟨#[c]⟩ ∧ y = .str z ∧ Q (.bl (decide (c ∈ z.cps.toList))) H) (.str ⟨#[c]⟩) (.str z) (decide (c ∈ z.cps.toList)) := fun A ρ σ H v u Q E r1 r2 k =>
  ⟨c, z, r1.str_inv, r2.str_inv, k⟩
end
def cutD (xs : List PyData) (lo hi : Option Int) : List PyData := (xs.drop (HT.sIx xs.length 0 lo)).take (HT.sIx xs.length xs.length hi - HT.sIx xs.length 0 lo)
theorem cut_at {H : Hp} {vs : List V} {ds : List PyData} (h : AtAll H vs ds) (lo hi : Option Int) : AtAll H (cutV vs lo hi) (cutD ds lo hi) := by
  unfold cutV cutD
  rw [h.len]
  exact (h.drop _).take _
theorem cutD_all {ds : List PyData} {lo hi : Option Int} (h : HT.sIx ds.length 0 lo = 0 ∧ HT.sIx ds.length ds.length hi = ds.length) : cutD ds lo hi = ds := by
  unfold cutD
  rw [h.1, h.2, List.drop_zero, Nat.sub_zero, List.take_length]
def cO (X : Cx) (e : Option Expr) : TO := fun σ H Q => ∃ t, PO X e t ∧ t σ H Q
theorem pO {X : Cx} {e : Option Expr} : PO X e (cO X e) := ⟨fun pins s σ H Q I ⟨_, hp, h⟩ => hp.run pins s σ H Q I h⟩
def DO (C : Ct) (Ξ : Addr → Prop) (ρ : Rho) (e : Option Expr) (o : Option Int) : Prop :=
  ∀ σ H, Env C ρ σ H → ∀ Q : Option Int → Hp → Prop, (∀ H2, Gr C.U H H2 → Q o H2) → (∀ c H2, Ξ c → Gr C.U H H2 → C.W (.ref c) none σ H2) → cO C.X e σ H Q
section
variable {C : Ct} {Ξ : Addr → Prop} {ρ : Rho} {a b c e : Expr} {pos p p2 : Pos} {lo hi : Option Expr} {l h : Option Int}
theorem do_none : DO C Ξ ρ none none := fun σ H E Q q z => ⟨_, po_none, q H (Gr.refl _ _)⟩
theorem do_some {i : Int} (ha : DEd C Ξ ρ e (.int i)) : DO C Ξ ρ (some e) (some i) := fun σ H E Q q z => ⟨_, po_some pE, ha σ H E _ (fun d v H2 p g r => by subst p; exact ⟨i, r.int_inv, q H2 g⟩) z⟩
theorem sl_core {r : V → Option Int → Option Int → Hp → VK → Prop} {x : PyData} {σ : L2.St} {H : Hp} {Q : VK} (E : Env C ρ σ H) (ha : DEd C Ξ ρ e x) (hl : DO C Ξ ρ lo l) (hh : DO C Ξ ρ hi h) (k : ∀ v H2, Gr C.U H H2 → At (vis C ρ H2) v x → r v l h H2 Q)
    (z : ∀ c H2, Ξ c → Gr C.U H H2 → C.W (.ref c) none σ H2) : tSl r (cE C.X e) (cO C.X lo) (cO C.X hi) σ H Q :=
  ha σ H E _ (fun d v H2 pd g r1 => hl σ H2 (E.grow g) _ (fun H3 g2 => hh σ H3 ((E.grow g).grow g2) _ (fun H4 g3 => by
    subst pd
    exact k v H4 ((g.trans g2).trans g3) ((r1.up (vis_gr g2)).up (vis_gr g3))) fun c H4 xc g3 => z c H4 xc ((g.trans g2).trans g3)) fun c H3 xc g2 => z c H3 xc (g.trans g2)) z
theorem de_slT {ds : List PyData} (ha : DEd C Ξ ρ e (.tuple ds)) (hl : DO C Ξ ρ lo l) (hh : DO C Ξ ρ hi h) : DEd C Ξ ρ (.Subscript e (.Slice lo hi none p2) pos) (.tuple (cutD ds l h)) := fun σ H E Q q z =>
  ⟨_, pe_slice sl_tupA pE pO pO, sl_core E ha hl hh (fun v H2 g r => by
    obtain ⟨a, vs, rfl, h1, h2⟩ := r.ref_tup
    have E2 := E.grow g
    refine ⟨a, vs, rfl, SqT.of (hid_le _ _ h1), fun w => ?_, fun _ p hp => ?_⟩
    · rw [h2.len] at w
      have w2 := cutD_all w
      refine q _ _ H2 (by rw [w2]) g (.tup h1 h2)
    · exact q _ _ _ rfl (g.trans (Gr.of (same_new hp))) (.tup (E2.newV hp) ((cut_at h2 l h).up (vis_gr (Gr.of (same_new hp)))))) z⟩
theorem de_slL {ds : List PyData} (ha : DEd C Ξ ρ e (.list ds)) (hl : DO C Ξ ρ lo l) (hh : DO C Ξ ρ hi h) : DEd C Ξ ρ (.Subscript e (.Slice lo hi none p2) pos) (.list (cutD ds l h)) := fun σ H E Q q z =>
  ⟨_, pe_slice sl_list pE pO pO, sl_core E ha hl hh (fun v H2 g r => by
    obtain ⟨a, vs, rfl, h1, h2⟩ := r.ref_list
    have E2 := E.grow g
    exact ⟨a, vs, rfl, SqL.of (hid_le _ _ h1), fun p hp => q _ _ _ rfl (g.trans (Gr.of (same_new hp))) (.lst (E2.newV hp) ((cut_at h2 l h).up (vis_gr (Gr.of (same_new hp)))))⟩) z⟩
theorem de_slS {x : Str} (hz : x.length ≤ 16777216) (ha : DEd C Ξ ρ e (.str x)) (hl : DO C Ξ ρ lo l) (hh : DO C Ξ ρ hi h) : DEd C Ξ ρ (.Subscript e (.Slice lo hi none p2) pos) (.str (cutS x l h)) := fun σ H E Q q z =>
  ⟨_, pe_slice sl_str pE pO pO, sl_core E ha hl hh (fun v H2 g r => ⟨x, r.str_inv, by rw [sizeLine_eq]; exact hz, q _ _ H2 rfl g (.str _)⟩) z⟩
/-- xs[::-1] of a list -/
theorem de_revL {ds : List PyData} {k : Nat} {p1 p3 : Pos} (ha : DEd C Ξ ρ e (.list ds)) : DEd C Ξ ρ (.Subscript e (.Slice none none (some (.UnaryOp .USub (.Constant (.int 1) k p1) p2)) p3) pos) (.list ds.reverse) := fun σ H E Q q z =>
  ⟨_, pe_revL pE, ha σ H E _ (fun d v H2 pd g r => by
    subst pd
    obtain ⟨a, vs, rfl, h1, h2⟩ := r.ref_list
    exact ⟨a, vs, rfl, SqL.of (hid_le _ _ h1), fun p hp => q _ _ _ rfl (g.trans (Gr.of (same_new hp))) (.lst ((E.grow g).newV hp) (h2.rev.up (vis_gr (Gr.of (same_new hp)))))⟩) z⟩
/-- tuple(reversed(e)) -/
theorem de_tupRev {ds : List PyData} {pos2 : Pos} (hg : Gl C.X "tuple") (hm : C.X.mg "tuple" = none) (hg2 : Gl C.X "reversed") (hm2 : C.X.mg "reversed" = none) (ha : DEd C Ξ ρ e (.list ds)) (hc : C.X.calm = true := by rfl)
    (hs : starEach [e] C.X.env = (false, eval e C.X.env) :: starEach [] C.X.env := by rfl)
    (hs2 : starEach [.Call (.Name "reversed" p2) [e] [] pos2] C.X.env = (false, eval (.Call (.Name "reversed" p2) [e] [] pos2) C.X.env) :: starEach [] C.X.env := by rfl) :
    DEd C Ξ ρ (.Call (.Name "tuple" p) [.Call (.Name "reversed" p2) [e] [] pos2] [] pos) (.tuple ds.reverse) := fun σ H E Q q z =>
  ⟨_, RT.pe_tupRev hc hg hm hg2 hm2 pE hs hs2, ha σ H E _ (fun d v H2 pd g r => by
    subst pd
    obtain ⟨a, vs, rfl, h1, h2⟩ := r.ref_list
    exact ⟨a, vs, rfl, SqL.of (hid_le _ _ h1), fun p hp => q _ _ _ rfl (g.trans (Gr.of (same_new hp))) (.tup ((E.grow g).newV hp) (h2.rev.up (vis_gr (Gr.of (same_new hp)))))⟩) z⟩
/-! ### as expressions -/
theorem de_ix {r : R2} {Pa Pb P : PyData → Prop} (ho : IxR C.X r) (ha : DE C Ξ ρ a Pa) (hb : DE C Ξ ρ b Pb) (hr : ∀ x y, Pa x → Pb y → RD r x y P) (hs : PlainIx b := by intro _ _; rfl) : DE C Ξ ρ (.Subscript a b pos) P := fun σ H E Q k x =>
  ⟨_, pe_ix ho pE pE hs, ha σ H E _ (fun d v H2 p g r1 => hb σ H2 (E.grow g) _ (fun d' u H3 p' g' r2 =>
    hr d d' p p' C ρ σ H3 v u Q ((E.grow g).grow g') (r1.up (vis_gr g')) r2 fun z w H4 pz s rw' => k z w H4 pz ((g.trans g').trans (Gr.of s)) rw') fun c H3 xc g' => x c H3 xc (g.trans g')) x⟩
theorem de_ixT {ds : List PyData} {i : Int} {d : PyData} (ha : DEd C Ξ ρ a (.tuple ds)) (hb : DEd C Ξ ρ b (.int i)) (e : atI ds i = some d) (hs : PlainIx b := by intro _ _; rfl) : DEd C Ξ ρ (.Subscript a b pos) d :=
  de_ix ix_seq ha hb (fun _ _ h h' => by subst h; subst h'; exact rd_ixT e) hs
theorem de_ixL {ds : List PyData} {i : Int} {d : PyData} (ha : DEd C Ξ ρ a (.list ds)) (hb : DEd C Ξ ρ b (.int i)) (e : atI ds i = some d) (hs : PlainIx b := by intro _ _; rfl) : DEd C Ξ ρ (.Subscript a b pos) d :=
  de_ix ix_seq ha hb (fun _ _ h h' => by subst h; subst h'; exact rd_ixL e) hs
theorem de_ixS {x : Str} {i : Int} {c : Nat} (hz : x.length ≤ 16777216) (ha : DEd C Ξ ρ a (.str x)) (hb : DEd C Ξ ρ b (.int i)) (e : atI x.cps.toList i = some c) (hs : PlainIx b := by intro _ _; rfl) : DEd C Ξ ρ (.Subscript a b pos) (.str ⟨#[c]⟩) :=
  de_ix ix_seq ha hb (fun _ _ h h' => by subst h; subst h'; exact rd_ixS hz e) hs
/-- an item at a place that is not wholly known -/
theorem de_ixLI {ds : List PyData} {A : Int → Prop} {P : PyData → Prop} (ha : DEd C Ξ ρ a (.list ds)) (hb : DI C Ξ ρ b A) (e : ∀ i, A i → ∃ d, atI ds i = some d ∧ P d) (hs : PlainIx b := by intro _ _; rfl) : DE C Ξ ρ (.Subscript a b pos) P :=
  de_ix ix_seq ha hb (fun x y h ⟨i, h1, h2⟩ => by
    subst h; subst h1
    obtain ⟨d, e1, e2⟩ := e i h2
    intro A' ρ' σ H v u Q E r1 r2 k
    exact rd_ixL e1 A' ρ' σ H v u Q E r1 r2 fun z w H2 pz => k z w H2 (by rw [pz]; exact e2)) hs
theorem de_catT {xs ys : List PyData} (ha : DEd C Ξ ρ a (.tuple xs)) (hb : DEd C Ξ ρ b (.tuple ys)) (hz : xs.length + ys.length ≤ 16777216) : DEd C Ξ ρ (.BinOp a .Add b pos) (.tuple (xs ++ ys)) :=
  de_op2 op_catA ha hb fun _ _ h h' => by subst h; subst h'; exact rd_catT hz
theorem de_catL {xs ys : List PyData} (ha : DEd C Ξ ρ a (.list xs)) (hb : DEd C Ξ ρ b (.list ys)) (hz : xs.length + ys.length ≤ 16777216) : DEd C Ξ ρ (.BinOp a .Add b pos) (.list (xs ++ ys)) :=
  de_op2 op_cat ha hb fun _ _ h h' => by subst h; subst h'; exact rd_catL hz
theorem de_catS {x y : Str} (ha : DEd C Ξ ρ a (.str x)) (hb : DEd C Ξ ρ b (.str y)) (hz : x.length + y.length ≤ 16777216) : DEd C Ξ ρ (.BinOp a .Add b pos) (.str (x ++ y)) :=
  de_op2 op_add_str ha hb fun _ _ h h' => by subst h; subst h'; exact rd_catS hz
theorem de_repT {xs : List PyData} {k : Int} (ha : DEd C Ξ ρ a (.tuple xs)) (hb : DEd C Ξ ρ b (.int k)) (hne : xs ≠ []) (h2 : 2 ≤ k) (h3 : k ≤ 1000) (hz : xs.length ≤ 1000) : DEd C Ξ ρ (.BinOp a .Mult b pos) (.tuple (List.replicate k.toNat xs).flatten) :=
  de_op2 op_repT ha hb fun _ _ h h' => by subst h; subst h'; exact rd_repT hne h2 h3 hz
theorem de_repL {xs : List PyData} {k : Int} (ha : DEd C Ξ ρ a (.list xs)) (hb : DEd C Ξ ρ b (.int k)) (h2 : 0 ≤ k) (h3 : k ≤ 1000000) (hz : xs.length * k.toNat ≤ 16777216) : DEd C Ξ ρ (.BinOp a .Mult b pos) (.list (List.replicate k.toNat xs).flatten) :=
  de_op2 op_rep ha hb fun _ _ h h' => by subst h; subst h'; exact rd_repL h2 h3 hz
/-! ### int arithmetic on ints that are not wholly known -/
theorem di_add {A B : Int → Prop} (ha : DI C Ξ ρ a A) (hb : DI C Ξ ρ b B) : DI C Ξ ρ (.BinOp a .Add b pos) (fun k => ∃ i j, A i ∧ B j ∧ k = i + j) :=
  de_op2 op_add ha hb fun _ _ ⟨i, e, h⟩ ⟨j, e', h'⟩ => by
    subst e; subst e'
    intro A' ρ' σ H v u Q E r1 r2 k
    exact rd_int0 A' ρ' σ H v u Q E r1 r2 fun z w H2 pz => k z w H2 ⟨_, pz, i, j, h, h', rfl⟩
theorem di_sub {A B : Int → Prop} (ha : DI C Ξ ρ a A) (hb : DI C Ξ ρ b B) : DI C Ξ ρ (.BinOp a .Sub b pos) (fun k => ∃ i j, A i ∧ B j ∧ k = i - j) :=
  de_op2 op_sub ha hb fun _ _ ⟨i, e, h⟩ ⟨j, e', h'⟩ => by
    subst e; subst e'
    intro A' ρ' σ H v u Q E r1 r2 k
    exact rd_int0 A' ρ' σ H v u Q E r1 r2 fun z w H2 pz => k z w H2 ⟨_, pz, i, j, h, h', rfl⟩
theorem di_mul {A B : Int → Prop} (ha : DI C Ξ ρ a A) (hb : DI C Ξ ρ b B) (hm : ∀ i j, A i → B j → CMul i j) : DI C Ξ ρ (.BinOp a .Mult b pos) (fun k => ∃ i j, A i ∧ B j ∧ k = i * j) :=
  de_op2 op_mul ha hb fun _ _ ⟨i, e, h⟩ ⟨j, e', h'⟩ => by
    subst e; subst e'
    intro A' ρ' σ H v u Q E r1 r2 k
    exact rd_int (hm i j h h') A' ρ' σ H v u Q E r1 r2 fun z w H2 pz => k z w H2 ⟨_, pz, i, j, h, h', rfl⟩
theorem di_mod {A B : Int → Prop} (ha : DI C Ξ ρ a A) (hb : DI C Ξ ρ b B) (hm : ∀ j, B j → 0 < j) : DI C Ξ ρ (.BinOp a .Mod b pos) (fun k => ∃ i j, A i ∧ B j ∧ k = i % j) :=
  de_op2 op_mod ha hb fun _ _ ⟨i, e, h⟩ ⟨j, e', h'⟩ => by
    subst e; subst e'
    intro A' ρ' σ H v u Q E r1 r2 k
    exact rd_int (C' := fun _ j => 0 < j) (hm j h') A' ρ' σ H v u Q E r1 r2 fun z w H2 pz => k z w H2 ⟨_, pz, i, j, h, h', rfl⟩
end
end DD

namespace DD
open PySem L2
/-! ## what is walked -/
structure Yields (J : It) (ds : List PyData) (S : Hp → Prop) : Prop where
  mono : ∀ Hv Hv', Same Hv Hv' → S Hv → S Hv'
  go : ∀ (O : Addr → Bool) (H : Hp) (k : Nat), S (hid O H) → k < ds.length → J.go k H
  yld : ∀ (O : Addr → Bool) (H : Hp) (k : Nat) x H', (∀ a, O a = true → H a ≠ none) → S (hid O H) → k < ds.length → J.yld k H x H' → Same H H' ∧ ∃ d, ds[k]? = some d ∧ At (hid O H') x d
  stop : ∀ (O : Addr → Bool) (H : Hp) (k : Nat), S (hid O H) → ds.length ≤ k → J.stop k H
def cI (X : Cx) (tg e : Expr) : TI := fun σ H R => ∃ t, PI X tg e t ∧ t σ H R
theorem pI {X : Cx} {tg e : Expr} : PI X tg e (cI X tg e) := ⟨fun pins s σ H R I ⟨_, hp, h⟩ => hp.run pins s σ H R I h⟩
def DIt (C : Ct) (Ξ : Addr → Prop) (ρ : Rho) (tg e : Expr) (P : List PyData → Prop) : Prop :=
  ∀ σ H, Env C ρ σ H → ∀ R : It → Hp → Prop, (∀ ds J S H2, P ds → Gr C.U H H2 → S (vis C ρ H2) → Yields J ds S → R J H2) → (∀ c H2, Ξ c → Gr C.U H H2 → C.W (.ref c) none σ H2) → cI C.X tg e σ H R
abbrev DItd (C : Ct) (Ξ : Addr → Prop) (ρ : Rho) (tg e : Expr) (ds : List PyData) : Prop := DIt C Ξ ρ tg e (fun x => x = ds)
section
variable {C : Ct} {Ξ : Addr → Prop} {ρ : Rho} {e tg : Expr} {pos p : Pos}
theorem yields_list {K : PySem.W.Frag} {a : Addr} {ds : List PyData} : Yields (Itl K a) ds (fun Hv => ∃ xs, Hv a = some (.lst xs) ∧ AtAll Hv xs ds) where
  mono := fun Hv Hv' s ⟨xs, h1, h2⟩ => ⟨xs, s _ _ h1, h2.up s⟩
  go := fun O H k ⟨xs, h1, h2⟩ hk => by
    obtain ⟨v, h3, _⟩ := h2.get (List.getElem?_eq_getElem hk)
    exact ⟨xs, v, SqL.of (hid_le _ _ h1), h3⟩
  yld := fun O H k x H' _ ⟨xs, h1, h2⟩ hk y => by
    obtain ⟨rfl, y⟩ := y
    obtain ⟨d, h3, h4⟩ := h2.get' (y xs (SqL.of (hid_le _ _ h1)))
    exact ⟨Same.refl _, d, h3, h4⟩
  stop := fun O H k ⟨xs, h1, h2⟩ hk => ⟨xs, SqL.of (hid_le _ _ h1), by rw [h2.len]; exact hk⟩
theorem yields_tup {K : PySem.W.Frag} {a : Addr} {ds : List PyData} : Yields (Itt K a) ds (fun Hv => ∃ xs, Hv a = some (.tup xs) ∧ AtAll Hv xs ds) where
  mono := fun Hv Hv' s ⟨xs, h1, h2⟩ => ⟨xs, s _ _ h1, h2.up s⟩
  go := fun O H k ⟨xs, h1, h2⟩ hk => by
    obtain ⟨v, h3, _⟩ := h2.get (List.getElem?_eq_getElem hk)
    exact ⟨xs, v, SqT.of (hid_le _ _ h1), h3⟩
  yld := fun O H k x H' _ ⟨xs, h1, h2⟩ hk y => by
    obtain ⟨rfl, y⟩ := y
    obtain ⟨d, h3, h4⟩ := h2.get' (y xs (SqT.of (hid_le _ _ h1)))
    exact ⟨Same.refl _, d, h3, h4⟩
  stop := fun O H k ⟨xs, h1, h2⟩ hk => ⟨xs, SqT.of (hid_le _ _ h1), by rw [h2.len]; exact hk⟩
def rangeD (lo : Int) (n : Nat) : List PyData := (List.range n).map fun i => .int (lo + (i : Nat))
theorem rangeD_len (lo : Int) (n : Nat) : (rangeD lo n).length = n := by unfold rangeD; rw [List.length_map, List.length_range]
theorem rangeD_at {lo : Int} {n k : Nat} (h : k < n) : (rangeD lo n)[k]? = some (.int (lo + (k : Nat))) := by
  unfold rangeD
  rw [List.getElem?_map, List.getElem?_range h]
  rfl
theorem yields_range {lo : Int} {n : Nat} : Yields (Itr lo n) (rangeD lo n) (fun _ => True) where
  mono := fun _ _ _ _ => trivial
  go := fun O H k _ hk => by rw [rangeD_len] at hk; exact hk
  yld := fun O H k x H' _ _ hk y => by
    obtain ⟨rfl, rfl⟩ := y
    rw [rangeD_len] at hk
    exact ⟨Same.refl _, _, rangeD_at hk, .int _⟩
  stop := fun O H k _ hk => by rw [rangeD_len] at hk; exact hk
def strD (x : Str) : List PyData := x.cps.toList.map fun c => .str ⟨#[c]⟩
theorem yields_str {x : Str} : Yields (Its x) (strD x) (fun _ => True) where
  mono := fun _ _ _ _ => trivial
  go := fun O H k _ hk => by
    have : k < x.cps.size := by simpa [strD] using hk
    exact this
  yld := fun O H k v H' _ _ hk y => by
    obtain ⟨rfl, c, h1, rfl⟩ := y
    refine ⟨Same.refl _, .str ⟨#[c]⟩, ?_, .str _⟩
    unfold strD
    rw [List.getElem?_map, Array.getElem?_toList, h1]
    rfl
  stop := fun O H k _ hk => by
    have : x.cps.size ≤ k := by simpa [strD] using hk
    exact this
theorem Env.out {C : Ct} {ρ : Rho} {σ : L2.St} {H : Hp} (E : Env C ρ σ H) : ∀ a, inn C ρ a = true → H a ≠ none := fun a h => by
  unfold inn at h
  rcases Bool.or_eq_true_iff.mp h with z | z
  · exact E.alloc a z
  · exact E.own_at z
theorem dit_list {ds : List PyData} (ha : DEd C Ξ ρ e (.list ds)) : DItd C Ξ ρ tg e ds := fun σ H E R k z => ⟨_, pi_list pE, ha σ H E _ (fun d v H2 pd g r => by
  subst pd
  obtain ⟨a, vs, rfl, h1, h2⟩ := r.ref_list
  exact ⟨a, rfl, ⟨vs, SqL.of (hid_le _ _ h1)⟩, k _ _ _ H2 rfl g ⟨vs, h1, h2⟩ yields_list⟩) z⟩
theorem dit_tup {ds : List PyData} (ha : DEd C Ξ ρ e (.tuple ds)) : DItd C Ξ ρ tg e ds := fun σ H E R k z => ⟨_, pi_tup pE, ha σ H E _ (fun d v H2 pd g r => by
  subst pd
  obtain ⟨a, vs, rfl, h1, h2⟩ := r.ref_tup
  exact ⟨a, rfl, ⟨vs, SqT.of (hid_le _ _ h1)⟩, k _ _ _ H2 rfl g ⟨vs, h1, h2⟩ yields_tup⟩) z⟩
theorem dit_tupG {P : List PyData → Prop} (ha : DE C Ξ ρ e (fun d => ∃ ds, d = .tuple ds ∧ P ds)) : DIt C Ξ ρ tg e P := fun σ H E R k z => ⟨_, pi_tup pE, ha σ H E _ (fun d v H2 pd g r => by
  obtain ⟨ds, rfl, pd⟩ := pd
  obtain ⟨a, vs, rfl, h1, h2⟩ := r.ref_tup
  exact ⟨a, rfl, ⟨vs, SqT.of (hid_le _ _ h1)⟩, k _ _ _ H2 pd g ⟨vs, h1, h2⟩ yields_tup⟩) z⟩
theorem dit_str {x : Str} (ha : DEd C Ξ ρ e (.str x)) : DItd C Ξ ρ tg e (strD x) := fun σ H E R k z => ⟨_, pi_str pE, ha σ H E _ (fun d v H2 pd g r => by
  subst pd
  exact ⟨x, r.str_inv, k _ _ _ H2 rfl g trivial yields_str⟩) z⟩
theorem dit_rangeG {A : Int → Prop} (hg : Gl C.X "range") (hm : C.X.mg "range" = none) (ha : DI C Ξ ρ e A) (hz : ∀ i, A i → i < 2 ^ 62 ∧ -(2 ^ 62) ≤ i) (hs : starEach [e] C.X.env = [(false, eval e C.X.env)] := by rfl) : DIt C Ξ ρ tg (.Call (.Name "range" p) [e] [] pos) (fun ds => ∃ i, A i ∧ ds = rangeD 0 i.toNat) := fun σ H E R k z =>
  ⟨_, pi_range1 hg hm (pa_cons pE pa_nil hs) hs, ha σ H E _ (fun d v H2 pd g r => by
    obtain ⟨i, rfl, ai⟩ := pd
    obtain ⟨h1, h2⟩ := hz i ai
    exact ⟨i, by rw [r.int_inv], h2, h1, k _ _ _ H2 ⟨i, ai, rfl⟩ g trivial yields_range⟩) z⟩
theorem dit_range {i : Int} (hg : Gl C.X "range") (hm : C.X.mg "range" = none) (ha : DEd C Ξ ρ e (.int i)) (hz : i < 2 ^ 62 ∧ -(2 ^ 62) ≤ i) (hs : starEach [e] C.X.env = [(false, eval e C.X.env)] := by rfl) : DItd C Ξ ρ tg (.Call (.Name "range" p) [e] [] pos) (rangeD 0 i.toNat) := fun σ H E R k z =>
  dit_rangeG (A := fun j => j = i) hg hm ha.toI (fun j e => by rw [e]; exact hz) hs σ H E R (fun ds J S H2 pd => k ds J S H2 (by obtain ⟨j, e1, e2⟩ := pd; rw [e2, e1])) z
theorem dit_range2 {a b : Expr} {i j : Int} (hg : Gl C.X "range") (hm : C.X.mg "range" = none) (ha : DEd C Ξ ρ a (.int i)) (hb : DEd C Ξ ρ b (.int j)) (hz : -(2 ^ 62) ≤ i ∧ i < 2 ^ 62 ∧ -(2 ^ 62) ≤ j ∧ j < 2 ^ 62) (hs : starEach [a, b] C.X.env = [(false, eval a C.X.env), (false, eval b C.X.env)] := by rfl) (hs2 : starEach [b] C.X.env = [(false, eval b C.X.env)] := by rfl) :
    DItd C Ξ ρ tg (.Call (.Name "range" p) [a, b] [] pos) (rangeD i (j - i).toNat) := fun σ H E R k z =>
  ⟨_, pi_range2 hg hm (pa_cons pE (pa_cons pE pa_nil hs2) (by rw [hs, hs2])) hs hs2, ha σ H E _ (fun d v H2 pd g r => hb σ H2 (E.grow g) _ (fun d' u H3 pd' g' r' => by
    subst pd; subst pd'
    exact ⟨i, j, by rw [r.int_inv, r'.int_inv], hz, k _ _ _ H3 rfl (g.trans g') trivial yields_range⟩) fun c H3 xc g' => z c H3 xc (g.trans g')) z⟩
theorem dit_revL {ds : List PyData} (hg : Gl C.X "reversed") (hm : C.X.mg "reversed" = none) (ha : DEd C Ξ ρ e (.list ds)) (hs : starEach [e] C.X.env = [(false, eval e C.X.env)] := by rfl) : DItd C Ξ ρ tg (.Call (.Name "reversed" p) [e] [] pos) ds.reverse := fun σ H E R k z =>
  ⟨_, pi_reversed hg hm (pa_cons pE pa_nil hs) hs, ha σ H E _ (fun d v H2 pd g r => by
    subst pd
    obtain ⟨a, vs, rfl, h1, h2⟩ := r.ref_list
    refine ⟨a, vs, rfl, SqL.of (hid_le _ _ h1), k _ _ (fun Hv => ∃ xs, Hv a = some (.lst xs) ∧ AtAll Hv xs ds) H2 rfl g ⟨vs, h1, h2⟩ ?_⟩
    have hl := h2.len
    refine ⟨fun Hv Hv' s ⟨xs, h1, h2⟩ => ⟨xs, s _ _ h1, h2.up s⟩, fun O H k ⟨xs, h3, h4⟩ hk => ?_, fun O H k x H' _ ⟨xs, h3, h4⟩ hk y => ?_, fun O H k ⟨xs, h3, h4⟩ hk => ?_⟩
    · rw [List.length_reverse] at hk
      have hl2 := h4.len
      obtain ⟨v, h5, _⟩ := h4.get (i := vs.length - 1 - k) (List.getElem?_eq_getElem (by omega))
      exact ⟨by omega, xs, v, SqL.of (hid_le _ _ h3), h5⟩
    · obtain ⟨rfl, y⟩ := y
      rw [List.length_reverse] at hk
      obtain ⟨d, h5, h6⟩ := h4.get' (y xs (SqL.of (hid_le _ _ h3)))
      refine ⟨Same.refl _, d, ?_, h6⟩
      rw [List.getElem?_reverse hk, ← hl]
      exact h5
    · rw [List.length_reverse] at hk
      show vs.length ≤ k
      omega) z⟩
end
/-! ## slots set -/
theorem gt_set {ρ : Rho} {i j : Nat} {sv : SV} : gt (ρ.set i sv) j = if i = j ∧ i < ρ.length then sv else gt ρ j := by
  unfold gt
  rw [List.getD_eq_getElem?_getD, List.getD_eq_getElem?_getD, List.getElem?_set]
  by_cases h : i = j
  · subst h
    by_cases h2 : i < ρ.length
    · rw [if_pos rfl, if_pos h2, if_pos ⟨rfl, h2⟩]; rfl
    · rw [if_pos rfl, if_neg h2, if_neg (fun z => h2 z.2), List.getElem?_eq_none (by omega)]
  · rw [if_neg h, if_neg (fun z => h z.1)]
theorem sg_set {σ : L2.St} {i j : Nat} {o : Option V} : (σ.set i o).getD j none = if i = j ∧ i < σ.length then o else σ.getD j none := by
  rw [List.getD_eq_getElem?_getD, List.getD_eq_getElem?_getD, List.getElem?_set]
  by_cases h : i = j
  · subst h
    by_cases h2 : i < σ.length
    · rw [if_pos rfl, if_pos h2, if_pos ⟨rfl, h2⟩]; rfl
    · rw [if_pos rfl, if_neg h2, if_neg (fun z => h2 z.2), List.getElem?_eq_none (by omega)]
  · rw [if_neg h, if_neg (fun z => h z.1)]
theorem owns_iff {ρ : Rho} {a : Addr} : owns ρ a = true ↔ ∃ i, (gt ρ i).addr = some a := by
  unfold owns
  rw [List.any_eq_true]
  constructor
  · rintro ⟨sv, hm, e⟩
    obtain ⟨i, hi⟩ := mem_gt hm
    exact ⟨i, by rw [hi]; exact eq_of_beq e⟩
  · rintro ⟨i, hi⟩
    have hl : i < ρ.length := by
      rcases Nat.lt_or_ge i ρ.length with z | z
      · exact z
      · exfalso
        unfold gt at hi
        rw [List.getD_eq_getElem?_getD, List.getElem?_eq_none z] at hi
        cases hi
    refine ⟨gt ρ i, ?_, by rw [hi]; exact beq_self_eq_true _⟩
    unfold gt
    rw [List.getD_eq_getElem?_getD, List.getElem?_eq_getElem hl]
    exact List.getElem_mem hl
/-- a slot that owns nothing is put: what is seen only grows -/
theorem owns_set {ρ : Rho} {i : Nat} {sv : SV} (h : sv.addr = none) {a : Addr} (e : owns (ρ.set i sv) a = true) : owns ρ a = true := by
  obtain ⟨j, hj⟩ := owns_iff.mp e
  rw [gt_set] at hj
  split at hj
  · rw [h] at hj; cases hj
  · exact owns_iff.mpr ⟨j, hj⟩
theorem vis_le {C : Ct} {ρ ρ' : Rho} {H : Hp} (h : ∀ a, owns ρ' a = true → owns ρ a = true) : Same (vis C ρ H) (vis C ρ' H) := hid_mono fun a o e1 e2 => by
  refine ⟨?_, e2⟩
  unfold inn at e1 ⊢
  rw [Bool.or_eq_false_iff] at e1 ⊢
  refine ⟨e1.1, ?_⟩
  cases q : owns ρ' a with
  | false => rfl
  | true => rw [h a q] at e1; exact e1.2
theorem SlotOk.see {C : Ct} {ρ ρ' : Rho} {H H' : Hp} {sv : SV} {o : Option V} (s : Same (vis C ρ H) (vis C ρ' H')) (k : ∀ a u, sv.addr = some a → H a = some u → H' a = some u) (h : SlotOk C ρ H sv o) : SlotOk C ρ' H' sv o := by
  cases sv with
  | no => trivial
  | dat d => obtain ⟨v, e, r⟩ := h; exact ⟨v, e, r.up s⟩
  | raw v => exact h
  | own p ds => obtain ⟨e, h1, h2, xs, h3, h4⟩ := h; exact ⟨e, h1, h2, xs, k _ _ rfl h3, h4.up s⟩
  | dic p kvs => obtain ⟨e, h1, h2, xs, h3, h4⟩ := h; exact ⟨e, h1, h2, xs, k _ _ rfl h3, h4.up s⟩
  | thg p th => obtain ⟨e, h1, h2, u, h3, h4⟩ := h; exact ⟨e, h1, h2, u, k _ _ rfl h3, th.up s h4⟩
theorem Env.put {C : Ct} {ρ : Rho} {σ : L2.St} {H : Hp} (E : Env C ρ σ H) {i : Nat} {sv : SV} {o : Option V} (ha : sv.addr = none) (h : SlotOk C ρ H sv o) : Env C (ρ.set i sv) (σ.set i o) H ∧ Same (vis C ρ H) (vis C (ρ.set i sv) H) := by
  have s : Same (vis C ρ H) (vis C (ρ.set i sv) H) := vis_le fun a e => owns_set ha e
  refine ⟨⟨by rw [List.length_set, List.length_set, E.len], fun j => ?_, E.cell, E.alloc, E.gr, fun j l p hj hl => ?_⟩, s⟩
  · rw [gt_set, sg_set, E.len]
    split
    · exact h.see s fun a u e => by rw [ha] at e; cases e
    · exact (E.slot j).see s fun _ _ _ q => q
  · rw [gt_set] at hj hl
    split at hj
    · rw [ha] at hj; cases hj
    · split at hl
      · rw [ha] at hl; cases hl
      · exact E.dis j l p hj hl
/-! ## targets -/
def cG (X : Cx) (tg : Expr) : TG := fun v σ H Q => ∃ t, PG X tg t ∧ t v σ H Q
def cGs (X : Cx) (tgs : List Expr) : TGs := fun v σ H Q => ∃ t, PGs X tgs t ∧ t v σ H Q
theorem pG {X : Cx} {tg : Expr} : PG X tg (cG X tg) := ⟨fun pins s σ H v u Q I r ⟨_, hp, h⟩ => hp.run pins s σ H v u Q I r h⟩
theorem pGs {X : Cx} {tgs : List Expr} : PGs X tgs (cGs X tgs) := ⟨fun pins s σ H v u Q I r ⟨_, hp, h⟩ => hp.run pins s σ H v u Q I r h⟩
def wipeOk (js : List Nat) (σ σ' : L2.St) : Prop := ∀ vs : List Nat, (∀ j ∈ js, j ∈ vs) → wipe σ' vs = wipe σ vs
theorem wipe_set {σ : L2.St} {j : Nat} {o : Option V} : ∀ {vs : List Nat}, j ∈ vs → wipe (σ.set j o) vs = wipe σ vs
  | [], h => by cases h
  | v :: vs, h => by
    unfold wipe
    by_cases e : j ∈ vs
    · rw [wipe_set e]
    · have e2 : j = v := by
        rcases List.mem_cons.mp h with z | z
        · exact z
        · exact absurd z e
      subst e2
      have out : ∀ vs : List Nat, j ∉ vs → wipe (σ.set j o) vs = (wipe σ vs).set j o := by
        intro vs
        induction vs with
        | nil => intro _; rfl
        | cons v r ih =>
          intro hn
          have h1 : j ≠ v := fun z => hn (by rw [z]; exact List.mem_cons_self)
          unfold wipe
          rw [ih fun z => hn (List.mem_cons_of_mem _ z), List.set_comm _ _ h1]
      rw [out vs e, List.set_set]
def DG (C : Ct) (ρ : Rho) (tg : Expr) (d : PyData) (ρ' : Rho) (js : List Nat) : Prop :=
  ∀ σ H v, Env C ρ σ H → At (vis C ρ H) v d → ∀ Q : L2.St → Hp → Prop, (∀ σ', Env C ρ' σ' H → Same (vis C ρ H) (vis C ρ' H) → wipeOk js σ σ' → Q σ' H) → cG C.X tg v σ H Q
def DGs (C : Ct) (ρ : Rho) (tgs : List Expr) (ds : List PyData) (ρ' : Rho) (js : List Nat) : Prop :=
  ∀ σ H vs, Env C ρ σ H → AtAll (vis C ρ H) vs ds → ∀ Q : L2.St → Hp → Prop, (∀ σ', Env C ρ' σ' H → Same (vis C ρ H) (vis C ρ' H) → wipeOk js σ σ' → Q σ' H) → cGs C.X tgs vs σ H Q
section
variable {C : Ct} {ρ ρ' ρ'' : Rho} {e : Expr} {es : List Expr} {pos : Pos}
theorem dg_name (i : Nat) {x : Str} {d : PyData} (hN : C.X.N.Nodup) (hi : C.X.N[i]? = some x) (hx : Loc C.X.env.scope x) (hf : C.X.fn x = true ∨ C.X.env.scope.names.lookup x = some .local := by first | exact .inl rfl | exact .inr rfl) : DG C ρ (.Name x pos) d (ρ.set i (.dat d)) [i] := fun σ H v E r Q k => by
  refine ⟨_, pg_name hN hi hx hf, ?_⟩
  obtain ⟨E2, s⟩ := E.put (i := i) (sv := .dat d) (o := some v) rfl ⟨v, rfl, r⟩
  exact k _ E2 s fun vs hj => wipe_set (hj i List.mem_cons_self)
theorem dgs_nil : DGs C ρ [] [] ρ [] := fun σ H vs E r Q k => by
  cases r
  exact ⟨_, pgs_nil, rfl, k σ E (Same.refl _) fun _ _ => rfl⟩
theorem dgs_cons {d : PyData} {ds : List PyData} {js js' : List Nat} (h : DG C ρ e d ρ' js) (hr : DGs C ρ' es ds ρ'' js') (hs : (assignEach (e :: es) C.X.env).map (·.2) = assign e C.X.env :: (assignEach es C.X.env).map (·.2) := by rfl) : DGs C ρ (e :: es) (d :: ds) ρ'' (js ++ js') := fun σ H vs E r Q k => by
  cases r with
  | cons r1 r2 =>
    refine ⟨_, pgs_cons pG pGs hs, _, _, rfl, h σ H _ E r1 _ fun σ1 E1 s1 w1 => hr σ1 H _ E1 (r2.up s1) _ fun σ2 E2 s2 w2 => k σ2 E2 (s1.trans s2) fun vs hv => ?_⟩
    rw [w2 vs fun j hj => hv j (List.mem_append_right _ hj), w1 vs fun j hj => hv j (List.mem_append_left _ hj)]
theorem dg_tup {ds : List PyData} {js : List Nat} {k : Nat} (h : DGs C ρ es ds ρ' js) (hc : C.X.calm = true := by rfl) (hn : (assignEach es C.X.env).length = ds.length := by rfl) (hst : (assignEach es C.X.env).findIdx? (·.1) = none := by rfl) : DG C ρ (.Tuple es k pos) (.tuple ds) ρ' js := fun σ H v E r Q q => by
  obtain ⟨a, xs, rfl, h1, h2⟩ := r.ref_tup
  exact ⟨_, pg_tup hc pGs hn hst, a, xs, rfl, SqT.of (hid_le _ _ h1), h2.len, h σ H xs E h2 Q q⟩
end
end DD

namespace DD
open PySem L2
/-! ## list comprehensions -/
theorem takes0N {X : Cx} : L2N.Takes X (fun _ _ _ _ => False) := fun _ _ ⟨_, _, _, _, _, _, _, _, _, _, _, _, _, _, _, _, z⟩ => z.elim
def Ct.blk (C : Ct) (s : Shared) (H : Hp) (scope : Scope) (cenv : PySem.Env) (fp : List Addr) (O' : Addr → Bool) (le' : ∀ a, C.U a = true → O' a = true) : Ct where
  X := C.X.blk s H scope cenv fp
  W := fun _ _ _ _ => False
  tk := takes0N
  O := O'
  U := C.U
  le := le'
  base := C.base
  lv := C.lv
  room := C.room
  hd := C.hd
def wipeR (ρ : Rho) : List Nat → Rho
  | [] => ρ
  | v :: vs => (wipeR ρ vs).set v .no
theorem Env.wipe {C : Ct} {ρ : Rho} {σ : L2.St} {H : Hp} (E : Env C ρ σ H) : ∀ vs : List Nat, Env C (wipeR ρ vs) (wipe σ vs) H ∧ Same (vis C ρ H) (vis C (wipeR ρ vs) H)
  | [] => ⟨E, Same.refl _⟩
  | v :: vs => by
    obtain ⟨E1, s1⟩ := Env.wipe E vs
    obtain ⟨E2, s2⟩ := E1.put (i := v) (sv := .no) (o := none) rfl trivial
    exact ⟨E2, s1.trans s2⟩
/-- the same slots, seen with fewer places -/
theorem Env.less {C C' : Ct} {ρ : Rho} {σ : L2.St} {H : Hp} (E : Env C ρ σ H) (hO : ∀ a, C'.O a = C.O a) (hU : C'.U = C.U) (hb : C'.base = C.base) : Env C' ρ σ H := by
  have s : Same (vis C ρ H) (vis C' ρ H) := hid_mono fun a o e1 e2 => ⟨by unfold inn at e1 ⊢; rw [hO]; exact e1, e2⟩
  refine ⟨E.len, fun i => ?_, by rw [hU]; exact E.cell, fun a h => E.alloc a (by rw [← hO]; exact h), by rw [hU, hb]; exact E.gr, E.dis⟩
  have q := E.slot i
  cases h : gt ρ i with
  | no => trivial
  | dat d => rw [h] at q; obtain ⟨v, e, r⟩ := q; exact ⟨v, e, r.up s⟩
  | raw v => rw [h] at q; exact q
  | own p ds => rw [h] at q; obtain ⟨e, h1, h2, xs, h3, h4⟩ := q; exact ⟨e, by rw [hO]; exact h1, by rw [hb]; exact h2, xs, h3, h4.up s⟩
  | dic p ds => rw [h] at q; obtain ⟨e, h1, h2, xs, h3, h4⟩ := q; exact ⟨e, by rw [hO]; exact h1, by rw [hb]; exact h2, xs, h3, h4.up s⟩
  | thg p th => rw [h] at q; obtain ⟨e, h1, h2, u, h3, h4⟩ := q; exact ⟨e, by rw [hO]; exact h1, by rw [hb]; exact h2, u, h3, th.up s h4⟩
/-- a new list D, hidden -/
def plusO (O : Addr → Bool) (D : Addr) : Addr → Bool := fun a => O a || a == D
theorem Env.hide {C C' : Ct} {ρ : Rho} {σ : L2.St} {H : Hp} {D : Addr} {o : HO} (E : Env C ρ σ H) (hD : H D = none) (hO : ∀ a, C'.O a = plusO C.O D a) (hU : C'.U = C.U) (hb : C'.base = C.base) : Env C' ρ σ (upd H D o) ∧ Same (vis C ρ H) (vis C' ρ (upd H D o)) := by
  have s : Same (vis C ρ H) (vis C' ρ (upd H D o)) := hid_mono fun a u e1 e2 => by
    have hne : a ≠ D := ne_of_none e2 hD
    refine ⟨?_, by rw [upd_ne hne]; exact e2⟩
    unfold inn at e1 ⊢
    rw [Bool.or_eq_false_iff] at e1 ⊢
    refine ⟨?_, e1.2⟩
    rw [hO]
    unfold plusO
    rw [e1.1, Bool.false_or]
    exact beq_eq_false_iff_ne.mpr hne
  have hOD := E.new hD
  have up : ∀ a u, H a = some u → upd H D o a = some u := fun a u e => by rw [upd_ne (ne_of_none e hD)]; exact e
  have nO : ∀ p, C.O p = false → (∃ u, H p = some u) → C'.O p = false := fun p h ⟨u, e⟩ => by
    rw [hO]
    unfold plusO
    rw [h, Bool.false_or]
    exact beq_eq_false_iff_ne.mpr (ne_of_none e hD)
  refine ⟨⟨E.len, fun i => ?_, fun a h => ?_, fun a h => ?_, ?_, E.dis⟩, s⟩
  · have q := E.slot i
    cases h : gt ρ i with
    | no => trivial
    | dat d => rw [h] at q; obtain ⟨v, e, r⟩ := q; exact ⟨v, e, r.up s⟩
    | raw v => rw [h] at q; exact q
    | own p ds => rw [h] at q; obtain ⟨e, h1, h2, xs, h3, h4⟩ := q; exact ⟨e, nO p h1 ⟨_, h3⟩, by rw [hb]; exact h2, xs, up _ _ h3, h4.up s⟩
    | dic p ds => rw [h] at q; obtain ⟨e, h1, h2, xs, h3, h4⟩ := q; exact ⟨e, nO p h1 ⟨_, h3⟩, by rw [hb]; exact h2, xs, up _ _ h3, h4.up s⟩
    | thg p th => rw [h] at q; obtain ⟨e, h1, h2, u, h3, h4⟩ := q; exact ⟨e, nO p h1 ⟨_, h3⟩, by rw [hb]; exact h2, u, up _ _ h3, th.up s h4⟩
  · rw [hU] at h
    obtain ⟨k, e⟩ := E.cell a h
    exact ⟨k, e.up up⟩
  · rw [hO] at h
    unfold plusO at h
    rcases Bool.or_eq_true_iff.mp h with z | z
    · cases q : H a with
      | none => exact absurd q (E.alloc a z)
      | some u => rw [up _ _ q]; simp
    · rw [eq_of_beq z, upd_same]; simp
  · rw [hU, hb]
    exact E.gr.trans (Gr.of (same_new hD))
/-- the hidden list changes -/
theorem Env.turn {C' : Ct} {ρ : Rho} {σ : L2.St} {H : Hp} {D : Addr} {xs : List V} {o' : HO} (E : Env C' ρ σ H) (hD : H D = some (.lst xs)) (hO : C'.O D = true) (hU : C'.U D = false) (hb : C'.base D = none) (ho : owns ρ D = false) : Env C' ρ σ (upd H D o') ∧ vis C' ρ (upd H D o') = vis C' ρ H := by
  have e : vis C' ρ (upd H D o') = vis C' ρ H := by
    funext a
    show hid _ _ a = hid _ _ a
    unfold hid
    by_cases h : a = D
    · subst h
      have q : inn C' ρ a = true := by unfold inn; rw [hO]; rfl
      rw [if_pos q, if_pos q]
    · split
      · rfl
      · exact upd_ne h
  have nD : ∀ p, owns ρ p = true → p ≠ D := fun p h z => by rw [z, ho] at h; cases h
  refine ⟨⟨E.len, fun i => ?_, fun a h => ?_, fun a h => ?_, ⟨fun a u hu q => ?_, fun a k hu q => ?_⟩, E.dis⟩, e⟩
  · have q := E.slot i
    cases h : gt ρ i with
    | no => trivial
    | dat d => rw [h] at q; obtain ⟨v, e', r⟩ := q; exact ⟨v, e', by rw [e]; exact r⟩
    | raw v => rw [h] at q; exact q
    | own p ds => rw [h] at q; obtain ⟨e', h1, h2, xs, h3, h4⟩ := q; exact ⟨e', h1, h2, xs, by rw [upd_ne (nD p (owns_iff.mpr ⟨i, by rw [h]; rfl⟩))]; exact h3, by rw [e]; exact h4⟩
    | dic p ds => rw [h] at q; obtain ⟨e', h1, h2, xs, h3, h4⟩ := q; exact ⟨e', h1, h2, xs, by rw [upd_ne (nD p (owns_iff.mpr ⟨i, by rw [h]; rfl⟩))]; exact h3, by rw [e]; exact h4⟩
    | thg p th => rw [h] at q; obtain ⟨e', h1, h2, u, h3, h4⟩ := q; exact ⟨e', h1, h2, u, by rw [upd_ne (nD p (owns_iff.mpr ⟨i, by rw [h]; rfl⟩))]; exact h3, by rw [e]; exact h4⟩
  · obtain ⟨k, q⟩ := E.cell a h
    exact ⟨k, q.mut hD fun z => by rw [z, hU] at h; cases h⟩
  · by_cases z : a = D
    · rw [z, upd_same]; simp
    · rw [upd_ne z]; exact E.alloc a h
  · rw [upd_ne (fun z => by rw [z, hb] at q; cases q)]
    exact E.gr.keep a u hu q
  · exact (E.gr.cell a k hu q).mut hD fun z => by rw [z, hU] at hu; cases hu
theorem wipe_out2 (σ : L2.St) (v : Nat) : ∀ vs : List Nat, (wipe σ vs).set v none = wipe (σ.set v none) vs
  | [] => rfl
  | w :: vs => by
    unfold wipe
    rw [← wipe_out2 σ v vs]
    by_cases h : v = w
    · rw [h]
    · rw [List.set_comm _ _ (Ne.symm h)]
theorem wipe_wipe (σ : L2.St) : ∀ vs : List Nat, wipe (wipe σ vs) vs = wipe σ vs
  | [] => rfl
  | v :: vs => by
    show (wipe ((wipe σ vs).set v none) vs).set v none = (wipe σ vs).set v none
    rw [← wipe_out2, List.set_set, wipe_wipe σ vs]
/-- the kept items and what became of them -/
def Made (t : PyData → Bool) (P : PyData → PyData → Prop) (ds es : List PyData) : Prop := Paired P (ds.filter t) es
theorem Paired.appP {α β : Type} {F : α → β → Prop} : ∀ {l1 m1 : List α} {l2 m2 : List β}, Paired F l1 l2 → Paired F m1 m2 → Paired F (l1 ++ m1) (l2 ++ m2)
  | _, _, _, _, .nil, s => s
  | _, _, _, _, .cons r t, s => .cons r (Paired.appP t s)
def PTsIf (X : Cx) (ifs : List Expr) (t : TT) : Prop := PTs X ifs t
def cTs (X : Cx) (ifs : List Expr) : TT := fun σ H Q => ∃ t, PTs X ifs t ∧ t σ H Q
theorem pTs {X : Cx} {ifs : List Expr} : PTs X ifs (cTs X ifs) := ⟨fun pins s σ H Q I ⟨_, hp, h⟩ => hp.run pins s σ H Q I h⟩
def DTs (C : Ct) (Ξ : Addr → Prop) (ρ : Rho) (ifs : List Expr) (k : Bool) : Prop :=
  ∀ σ H, Env C ρ σ H → ∀ Q : Bool → Hp → Prop, (∀ H2, Gr C.U H H2 → Q k H2) → (∀ c H2, Ξ c → Gr C.U H H2 → C.W (.ref c) none σ H2) → cTs C.X ifs σ H Q
theorem dts_nil {C : Ct} {Ξ : Addr → Prop} {ρ : Rho} : DTs C Ξ ρ [] true := fun σ H E Q q z => ⟨_, pts_nil, q H (Gr.refl _ _)⟩
theorem dts_one {C : Ct} {Ξ : Addr → Prop} {ρ : Rho} {e : Expr} {k : Bool} (h : DTd C Ξ ρ e k) : DTs C Ξ ρ [e] k := fun σ H E Q q z => ⟨_, pts_one pT, h σ H E _ (fun b H2 p g => by subst p; exact q H2 g) z⟩
section
variable {C : Ct} {Ξ : Addr → Prop} {ρ : Rho} {elt tg iter : Expr} {ifs : List Expr} {scope : Scope} {own : List (Str × Nat)} {pos : Pos}
theorem lc_read {Pd : List PyData → Prop} {t : PyData → Bool} {P : PyData → PyData → Prop} {js : List Nat} {ρ1 : PyData → Rho} {σ : L2.St} {H : Hp} {Q : VK} (E : Env C ρ σ H) (hi : DIt C Ξ ρ tg iter Pd) (hn : ∀ ds, Pd ds → ds.length ≤ 16777215)
    (hw : ∀ a, owns (wipeR ρ (own.map (·.2))) a = owns ρ a) (hj : ∀ j ∈ js, j ∈ own.map (·.2))
    (step : ∀ (ds : List PyData), Pd ds → ∀ (k : Nat) (d : PyData), ds[k]? = some d → ∀ s H Cc cl fp O' le', (∀ a, owns (ρ1 d) a = owns ρ a) ∧ DG (C.blk s H scope (compEnvC scope cl Cc C.X.env) fp O' le') (wipeR ρ (own.map (·.2))) tg d (ρ1 d) js ∧ DTs (C.blk s H scope (compEnvC scope cl Cc C.X.env) fp O' le') none' (ρ1 d) ifs (t d) ∧
      (t d = true → DE (C.blk s H scope (compEnvC scope cl Cc C.X.env) fp O' le') none' (ρ1 d) elt (P d)))
    (q : ∀ ds es v H2, Pd ds → Made t P ds es → Gr C.U H H2 → At (vis C ρ H2) v (.list es) → Q v H2) (z : ∀ c H2, Ξ c → Gr C.U H H2 → C.W (.ref c) none σ H2) :
    tLc (cI C.X tg iter) (fun v σ H Q => ∀ s H0 Cc cl fp, cG (C.X.blk s H0 scope (compEnvC scope cl Cc C.X.env) fp) tg v σ H Q) (fun σ H Q => ∀ s H0 Cc cl fp, cTs (C.X.blk s H0 scope (compEnvC scope cl Cc C.X.env) fp) ifs σ H Q)
      (fun σ H Q => ∀ s H0 Cc cl fp, cE (C.X.blk s H0 scope (compEnvC scope cl Cc C.X.env) fp) elt σ H Q) (own.map (·.2)) σ H Q := by
  refine hi σ H E _ (fun ds J S H1 pd g hS Y => ?_) z
  intro D hD
  have E1 := E.grow g
  have hOD := E1.new hD
  have hUD : C.U D = false := O_U hOD
  have hbD : C.base D = none := by
    cases e : C.base D with
    | none => rfl
    | some u => rw [E1.gr.keep D u hUD e] at hD; cases hD
  have hoD : owns ρ D = false := by
    cases e : owns ρ D with
    | false => rfl
    | true => exact absurd hD (E1.own_at e)
  have le' : ∀ a, C.U a = true → plusO C.O D a = true := fun a h => by unfold plusO; rw [C.le a h]; rfl
  have pO' : plusO C.O D D = true := by unfold plusO; rw [beq_self_eq_true, Bool.or_true]
  -- a context that hides D
  let C' : Ct := C.blk C.X.s_0 C.X.H_0 scope C.X.env [] (plusO C.O D) le'
  obtain ⟨Ew, sw⟩ := E1.wipe (own.map (·.2))
  have hoW : owns (wipeR ρ (own.map (·.2))) D = false := by rw [hw]; exact hoD
  obtain ⟨E2, s2⟩ := Ew.hide (C' := C') (o := .lst []) hD (fun _ => rfl) rfl rfl
  refine ⟨fun i m H2 => m = ds.length - i ∧ i ≤ ds.length ∧ Env C' (wipeR ρ (own.map (·.2))) (wipe σ (own.map (·.2))) H2 ∧ S (vis C' (wipeR ρ (own.map (·.2))) H2) ∧ Gr C.U H1 H2 ∧
      ∃ acc es, H2 D = some (.lst acc) ∧ AtAll (vis C' (wipeR ρ (own.map (·.2))) H2) acc es ∧ Made t P (ds.take i) es ∧ es.length ≤ i, ⟨ds.length, by simp, Nat.zero_le _, E2, Y.mono _ _ (sw.trans s2) hS, Gr.of (same_new hD), [], [], upd_same, .nil, .nil, Nat.le_refl _⟩, ?_⟩
  rintro i m H2 ⟨rfl, hil, E3, S3, g3, acc, es, h4, h5, h6, h6l⟩
  have toC : ∀ {H2 : Hp}, Same (vis C' (wipeR ρ (own.map (·.2))) H2) (vis C (wipeR ρ (own.map (·.2))) H2) := fun {_} => hid_mono fun a o e1 e2 => by
    refine ⟨?_, e2⟩
    unfold inn at e1 ⊢
    rw [Bool.or_eq_false_iff] at e1 ⊢
    have e3 : plusO C.O D a = false := e1.1
    unfold plusO at e3
    rw [Bool.or_eq_false_iff] at e3
    exact ⟨e3.1, e1.2⟩
  by_cases hlt : i < ds.length
  · refine .inr ⟨Y.go _ _ _ S3 hlt, fun H' => (i + 1 ≤ ds.length ∧ Env C' (wipeR ρ (own.map (·.2))) (wipe σ (own.map (·.2))) H' ∧ S (vis C' (wipeR ρ (own.map (·.2))) H') ∧ Gr C.U H1 H' ∧
      ∃ acc es, H' D = some (.lst acc) ∧ AtAll (vis C' (wipeR ρ (own.map (·.2))) H') acc es ∧ Made t P (ds.take (i + 1)) es ∧ es.length ≤ i + 1), fun H' ⟨a1, a2⟩ => ⟨ds.length - (i + 1), by omega, rfl, a1, a2⟩, fun x H' y => ?_⟩
    obtain ⟨sy, d, hd, rx⟩ := Y.yld (inn C' (wipeR ρ (own.map (·.2)))) _ _ _ _ E3.out S3 hlt y
    have E4 : Env C' (wipeR ρ (own.map (·.2))) (wipe σ (own.map (·.2))) H' := E3.grow (Gr.of sy)
    have hD4 : H' D = some (.lst acc) := sy _ _ h4
    intro s0 H0 Cc cl fp
    obtain ⟨ho1, hdg, hdt, hde⟩ := step ds pd i d hd s0 H0 Cc cl fp (plusO C.O D) le'
    have E4' : Env (C.blk s0 H0 scope (compEnvC scope cl Cc C.X.env) fp (plusO C.O D) le') (wipeR ρ (own.map (·.2))) (wipe σ (own.map (·.2))) H' := E4.less (fun _ => rfl) rfl rfl
    refine hdg _ H' x E4' rx _ fun σ2 E5 s5 w5 => ⟨?_, fun s0 H0 Cc cl fp => ?_⟩
    · rw [w5 _ hj, wipe_wipe]
    obtain ⟨_, _, hdt, hde⟩ := step ds pd i d hd s0 H0 Cc cl fp (plusO C.O D) le'
    refine hdt σ2 H' (E5.less (fun _ => rfl) rfl rfl) _ (fun H6 g6 => ?_) (fun _ _ f _ => f.elim)
    have back : ∀ {H7 : Hp}, Same (vis C' (ρ1 d) H7) (vis C' (wipeR ρ (own.map (·.2))) H7) := fun {H7} => hid_mono fun a o e1 e2 => ⟨by unfold inn at e1 ⊢; rw [hw, ← ho1]; exact e1, e2⟩
    have fin : ∀ {H7 : Hp}, Gr C.U H' H7 → Env C' (wipeR ρ (own.map (·.2))) (wipe σ (own.map (·.2))) H7 ∧ S (vis C' (wipeR ρ (own.map (·.2))) H7) ∧ Gr C.U H1 H7 ∧ H7 D = some (.lst acc) ∧ AtAll (vis C' (wipeR ρ (own.map (·.2))) H7) acc es := fun {H7} g7 => by
      have g8 : Gr C.U H2 H7 := (Gr.of sy).trans g7
      exact ⟨E3.grow g8, Y.mono _ _ (vis_gr (C := C') g8) S3, g3.trans g8, g8.keep _ _ hUD h4, h5.up (vis_gr (C := C') g8)⟩
    have tk : ds.take (i + 1) = ds.take i ++ [d] := by
      rw [List.take_succ, hd]
      rfl
    cases ht : t d with
    | false =>
      refine iteF ?_
      obtain ⟨b1, b2, b3, b4, b5⟩ := fin g6
      refine ⟨hlt, b1, b2, b3, acc, es, b4, b5, ?_, by omega⟩
      unfold Made at h6 ⊢
      rw [tk, List.filter_append, List.filter_cons_of_neg (by rw [ht]; decide), List.filter_nil, List.append_nil]
      exact h6
    | true =>
      refine iteT fun s0 H0 Cc cl fp => ?_
      obtain ⟨_, _, _, hde⟩ := step ds pd i d hd s0 H0 Cc cl fp (plusO C.O D) le'
      refine hde ht σ2 H6 ((E5.grow g6).less (fun _ => rfl) rfl rfl) _ (fun d2 v H7 p2 g7 r7 => ?_) (fun _ _ f _ => f.elim)
      obtain ⟨b1, b2, b3, b4, b5⟩ := fin (g6.trans g7)
      have r8 : At (vis C' (wipeR ρ (own.map (·.2))) H7) v d2 := At.up (show At (vis C' (ρ1 d) H7) v d2 from r7) back
      have hal := b5.len
      obtain ⟨b6, b7⟩ := b1.turn (o' := .lst (acc ++ [v])) b4 pO' hUD hbD hoW
      refine ⟨acc, b4, by rw [sizeLine_eq]; have := hn ds pd; omega, hlt, b6, by rw [b7]; exact b2, ?_, acc ++ [v], es ++ [d2], upd_same, by rw [b7]; exact b5.app (.cons r8 .nil), ?_, by rw [List.length_append]; exact Nat.succ_le_succ h6l⟩
      · refine ⟨fun a u hu q => ?_, fun a k hu q => ?_⟩
        · rw [upd_ne (fun e => by rw [e, hD] at q; cases q)]
          exact b3.keep a u hu q
        · exact (b3.cell a k hu q).mut b4 fun e => by rw [e, hUD] at hu; cases hu
      · unfold Made at h6 ⊢
        rw [tk, List.filter_append, List.filter_cons_of_pos ht, List.filter_nil]
        exact Paired.appP h6 (.cons p2 .nil)
  · have e : i = ds.length := by omega
    subst e
    refine .inl ⟨Y.stop _ _ _ S3 (Nat.le_refl _), q ds es _ H2 pd (by rw [List.take_length] at h6; exact h6) (g.trans g3) (At.lst (xs := acc) ?_ ?_)⟩
    · exact (hid_at (show inn C ρ D = false by unfold inn; rw [hOD, hoD]; rfl)).trans h4
    · refine (h5.up toC).up ?_
      exact hid_mono fun a o e1 e2 => ⟨by unfold inn at e1 ⊢; rw [← hw]; exact e1, e2⟩
theorem lc_g {X : Cx} {scope : Scope} {tg : Expr} : ∀ (s : Shared) (H : Hp) (Cc : Addr) (cl : List (Str × Addr)) (fp : List Addr), PG (X.blk s H scope (compEnvC scope cl Cc X.env) fp) tg (fun v σ H Q => ∀ s H0 Cc cl fp, cG (X.blk s H0 scope (compEnvC scope cl Cc X.env) fp) tg v σ H Q) :=
  fun s H Cc cl fp => ⟨fun pins s' σ H' v u Q I r h => pG.run pins s' σ H' v u Q I r (h s H Cc cl fp)⟩
theorem lc_t {X : Cx} {scope : Scope} {ifs : List Expr} : ∀ (s : Shared) (H : Hp) (Cc : Addr) (cl : List (Str × Addr)) (fp : List Addr), PTs (X.blk s H scope (compEnvC scope cl Cc X.env) fp) ifs (fun σ H Q => ∀ s H0 Cc cl fp, cTs (X.blk s H0 scope (compEnvC scope cl Cc X.env) fp) ifs σ H Q) :=
  fun s H Cc cl fp => ⟨fun pins s' σ H' Q I h => pTs.run pins s' σ H' Q I (h s H Cc cl fp)⟩
theorem lc_e {X : Cx} {scope : Scope} {elt : Expr} : ∀ (s : Shared) (H : Hp) (Cc : Addr) (cl : List (Str × Addr)) (fp : List Addr), PE (X.blk s H scope (compEnvC scope cl Cc X.env) fp) elt (fun σ H Q => ∀ s H0 Cc cl fp, cE (X.blk s H0 scope (compEnvC scope cl Cc X.env) fp) elt σ H Q) :=
  fun s H Cc cl fp => ⟨fun pins s' σ H' Q I h => pE.run pins s' σ H' Q I (h s H Cc cl fp)⟩
/-- what each turn of a comprehension asks -/
def LcStep (C : Ct) (ρ : Rho) (scope : Scope) (own : List (Str × Nat)) (tg : Expr) (ifs : List Expr) (elt : Expr) (js : List Nat) (ρ1 : PyData → Rho) (t : PyData → Bool) (P : PyData → PyData → Prop) (d : PyData) : Prop :=
  ∀ s H Cc cl fp O' le', (∀ a, owns (ρ1 d) a = owns ρ a) ∧ DG (C.blk s H scope (compEnvC scope cl Cc C.X.env) fp O' le') (wipeR ρ (own.map (·.2))) tg d (ρ1 d) js ∧ DTs (C.blk s H scope (compEnvC scope cl Cc C.X.env) fp O' le') none' (ρ1 d) ifs (t d) ∧
      (t d = true → DE (C.blk s H scope (compEnvC scope cl Cc C.X.env) fp O' le') none' (ρ1 d) elt (P d))
theorem de_lcG {Pd : List PyData → Prop} {js : List Nat} {ρ1 : PyData → Rho} (t : PyData → Bool) (P : PyData → PyData → Prop) (hN : C.X.N.Nodup) (ok : BlkOk C.X.N C.X.env.scope scope own) (hi : DIt C Ξ ρ tg iter Pd) (hn : ∀ ds, Pd ds → ds.length ≤ 16777215)
    (step : ∀ (ds : List PyData), Pd ds → ∀ (k : Nat) (d : PyData), ds[k]? = some d → LcStep C ρ scope own tg ifs elt js ρ1 t P d)
    (hj : ∀ j ∈ js, j ∈ own.map (·.2)) (hw : ∀ a, owns (wipeR ρ (own.map (·.2))) a = owns ρ a) (hc : C.X.calm = true := by rfl) (hs : ∀ x, foldedSetIterable iter C.X.env x = pure x := by intro _; rfl) :
    DE C Ξ ρ (.ListComp elt [⟨tg, iter, ifs, 0⟩] scope pos) (fun d => ∃ ds es, Pd ds ∧ Made t P ds es ∧ d = .list es) := fun σ H E Q q z =>
  ⟨_, pe_lc hc hN pI ok lc_g lc_t lc_e hs, lc_read E hi hn hw hj step (fun ds es v H2 pd m g r => q _ v H2 ⟨ds, es, pd, m, rfl⟩ g r) z⟩
theorem paired_map {ds es : List PyData} {f : PyData → PyData} (h : Paired (fun d e => e = f d) ds es) : es = ds.map f := by
  induction h with
  | nil => rfl
  | cons r t ih => rw [r, ih]; rfl
/-- [f(x) for x in ..] -/
theorem de_lc (i : Nat) (f : PyData → PyData) {x : Str} {px : Pos} {ds : List PyData} (hN : C.X.N.Nodup) (ok : BlkOk C.X.N C.X.env.scope scope [(x, i)]) (hi : DItd C Ξ ρ (.Name x px) iter ds) (hn : ds.length ≤ 16777215)
    (hx : ∀ (s : Shared) (H : Hp) (Cc : Addr) (cl : List (Str × Addr)) (fp : List Addr), Loc (compEnvC scope cl Cc C.X.env).scope x) (hix : C.X.N[i]? = some x)
    (el : ∀ (k : Nat) (d : PyData), ds[k]? = some d → ∀ s H Cc cl fp O' le', DEd (C.blk s H scope (compEnvC scope cl Cc C.X.env) fp O' le') none' ((ρ.set i .no).set i (.dat d)) elt (f d))
    (hw : ∀ a, owns (ρ.set i .no) a = owns ρ a) (hw2 : ∀ d a, owns ((ρ.set i .no).set i (.dat d)) a = owns ρ a)
    (hf : ∀ (s : Shared) (H : Hp) (Cc : Addr) (cl : List (Str × Addr)) (fp : List Addr), (C.X.blk s H scope (compEnvC scope cl Cc C.X.env) fp).fn x = true ∨ (compEnvC scope cl Cc C.X.env).scope.names.lookup x = some .local)
    (hc : C.X.calm = true := by rfl) (hs : ∀ x, foldedSetIterable iter C.X.env x = pure x := by intro _; rfl) :
    DEd C Ξ ρ (.ListComp elt [⟨.Name x px, iter, [], 0⟩] scope pos) (.list (ds.map f)) :=
  (de_lcG (js := [i]) (ρ1 := fun d => (ρ.set i .no).set i (.dat d)) (fun _ => true) (fun d e => e = f d) hN ok hi (fun _ e => by rw [e]; exact hn)
    (fun ds' e k d hd s H Cc cl fp O' le' => by
      subst e
      exact ⟨hw2 d, dg_name (C := C.blk s H scope (compEnvC scope cl Cc C.X.env) fp O' le') i hN hix (hx s H Cc cl fp) (hf s H Cc cl fp), dts_nil, fun _ => el k d hd s H Cc cl fp O' le'⟩)
    (fun j h => h) hw hc hs).imp fun d ⟨ds', es, e, m, e2⟩ => by
      subst e
      unfold Made at m
      rw [List.filter_eq_self.mpr (fun _ _ => rfl)] at m
      rw [e2, paired_map m]
end
end DD

namespace DD
open PySem L2
/-! ## statements -/
inductive Out where
  | nx (ρ : Rho) | rt (d : PyData) | ex (c : Addr) | bk (ρ : Rho) | ct (ρ : Rho)
structure Kont (C : Ct) (F : Out → Prop) (ρ : Rho) (H : Hp) (D : Ends) : Prop where
  nx : ∀ ρ' σ' H', F (.nx ρ') → Env C ρ' σ' H' → Same (vis C ρ H) (vis C ρ' H') → D.nx σ' H'
  rt : ∀ d v H', F (.rt d) → Gr C.U C.base H' → At (hid C.O H') v d → D.rt v H'
  ex : ∀ c σ' H', F (.ex c) → Gr C.U C.base H' → C.W (.ref c) none σ' H'
  bk : ∀ ρ' σ' H', F (.bk ρ') → Env C ρ' σ' H' → Same (vis C ρ H) (vis C ρ' H') → D.bk σ' H'
  ct : ∀ ρ' σ' H', F (.ct ρ') → Env C ρ' σ' H' → Same (vis C ρ H) (vis C ρ' H') → D.ct σ' H'
theorem Kont.move {C : Ct} {F : Out → Prop} {ρ ρ1 : Rho} {H H1 : Hp} {D : Ends} (k : Kont C F ρ H D) (s : Same (vis C ρ H) (vis C ρ1 H1)) : Kont C F ρ1 H1 D :=
  ⟨fun ρ' σ' H' f E s' => k.nx ρ' σ' H' f E (s.trans s'), k.rt, k.ex, fun ρ' σ' H' f E s' => k.bk ρ' σ' H' f E (s.trans s'), fun ρ' σ' H' f E s' => k.ct ρ' σ' H' f E (s.trans s')⟩
theorem Kont.imp {C : Ct} {F F' : Out → Prop} {ρ : Rho} {H : Hp} {D : Ends} (k : Kont C F ρ H D) (i : ∀ o, F' o → F o) : Kont C F' ρ H D :=
  ⟨fun ρ' σ' H' f => k.nx ρ' σ' H' (i _ f), fun d v H' f => k.rt d v H' (i _ f), fun c σ' H' f => k.ex c σ' H' (i _ f), fun ρ' σ' H' f => k.bk ρ' σ' H' (i _ f), fun ρ' σ' H' f => k.ct ρ' σ' H' (i _ f)⟩
def DS (C : Ct) (F : Out → Prop) (ρ : Rho) (st : Stmt) : Prop := ∀ D σ H, Env C ρ σ H → Kont C F ρ H D → cS C.X st D σ H
def DSs (C : Ct) (F : Out → Prop) (ρ : Rho) (sts : List Stmt) : Prop := ∀ D σ H, Env C ρ σ H → Kont C F ρ H D → cSs C.X sts D σ H
/-- what is wanted ahead of further statements -/
def thenF (C : Ct) (rest : List Stmt) (F : Out → Prop) : Out → Prop
  | .nx ρ => DSs C F ρ rest
  | o => F o
abbrev xi (F : Out → Prop) : Addr → Prop := fun c => F (.ex c)
section
variable {C : Ct} {F : Out → Prop} {ρ : Rho} {st : Stmt} {rest : List Stmt} {e a b : Expr} {pos p : Pos} {P : PyData → Prop}
theorem DS.imp {F' : Out → Prop} (h : DS C F ρ st) (i : ∀ o, F o → F' o) : DS C F' ρ st := fun D σ H E k => h D σ H E (k.imp i)
theorem DSs.imp {F' : Out → Prop} {sts : List Stmt} (h : DSs C F ρ sts) (i : ∀ o, F o → F' o) : DSs C F' ρ sts := fun D σ H E k => h D σ H E (k.imp i)
theorem dss_nil (h : F (.nx ρ)) : DSs C F ρ [] := fun D σ H E k => ⟨_, pss_nil, k.nx ρ σ H h E (Same.refl _)⟩
theorem dss_cons (h : DS C (thenF C rest F) ρ st) : DSs C F ρ (st :: rest) := fun D σ H E k =>
  ⟨_, pss_cons pS pSs, h { D with nx := cSs C.X rest D } σ H E ⟨fun ρ' σ' H' f E' s => f D σ' H' E' (k.move s), k.rt, k.ex, k.bk, k.ct⟩⟩
theorem dss_one (h : DS C F ρ st) : DSs C F ρ [st] := fun D σ H E k => ⟨_, pss_one pS, h D σ H E k⟩
theorem Kont.exE {σ : L2.St} {H : Hp} {D : Ends} (k : Kont C F ρ H D) (E : Env C ρ σ H) : ∀ c H2, xi F c → Gr C.U H H2 → C.W (.ref c) none σ H2 := fun c H2 f g => k.ex c σ H2 f (E.gr.trans g)
theorem ds_pass : F (.nx ρ) → DS C F ρ (.Pass pos) := fun h D σ H E k => ⟨_, ps_pass, k.nx ρ σ H h E (Same.refl _)⟩
theorem ds_break : F (.bk ρ) → DS C F ρ (.Break pos) := fun h D σ H E k => ⟨_, ps_break, k.bk ρ σ H h E (Same.refl _)⟩
theorem ds_set (i : Nat) {x : Str} {pos' : Pos} (he : DE C (xi F) ρ e P) (k : ∀ d, P d → F (.nx (ρ.set i (.dat d)))) (hN : C.X.N.Nodup) (hi : C.X.N[i]? = some x) (hx : Loc C.X.env.scope x)
    (hs : swapsWith e (some (.Name x pos')) pos.line C.X.env = pure false := by rfl) (hf : C.X.fn x = true ∨ C.X.env.scope.names.lookup x = some .local := by first | exact .inl rfl | exact .inr rfl) : DS C F ρ (.Assign [.Name x pos'] e pos) := fun D σ H E q =>
  ⟨_, ps_set hN hi hx pE hs hf, he σ H E _ (fun d v H2 p g r => by
    obtain ⟨E2, s⟩ := (E.grow g).put (i := i) (sv := .dat d) (o := some v) rfl ⟨v, rfl, r⟩
    exact q.nx _ _ _ (k d p) E2 ((vis_gr g).trans s)) (q.exE E)⟩
theorem ds_setd (i : Nat) {x : Str} {d : PyData} {pos' : Pos} (he : DEd C (xi F) ρ e d) (k : F (.nx (ρ.set i (.dat d)))) (hN : C.X.N.Nodup) (hi : C.X.N[i]? = some x) (hx : Loc C.X.env.scope x)
    (hs : swapsWith e (some (.Name x pos')) pos.line C.X.env = pure false := by rfl) (hf : C.X.fn x = true ∨ C.X.env.scope.names.lookup x = some .local := by first | exact .inl rfl | exact .inr rfl) : DS C F ρ (.Assign [.Name x pos'] e pos) :=
  ds_set i he (fun d' e => by rw [e]; exact k) hN hi hx hs hf
/-- a tuple of names = e -/
theorem ds_asg {tg : Expr} {js : List Nat} {ρ' : PyData → Rho} (he : DE C (xi F) ρ e P) (hg : ∀ d, P d → DG C ρ tg d (ρ' d) js) (k : ∀ d, P d → F (.nx (ρ' d))) (hs : swapsWithSole [tg] e pos.line C.X.env = pure false := by rfl) (hw : swappedStores [tg] e C.X.env = pure none := by rfl)
    (h1 : (assignEach [tg] C.X.env).map (·.2) = [assign tg C.X.env] := by rfl) : DS C F ρ (.Assign [tg] e pos) := fun D σ H E q =>
  ⟨_, ps_asg pE pG hs hw h1, he σ H E _ (fun d v H2 p g r => hg d p σ H2 v (E.grow g) r _ fun σ' E' s _ => q.nx _ _ _ (k d p) E' ((vis_gr g).trans s)) (q.exE E)⟩
/-- a, b = x, y -/
theorem ds_par (i j : Nat) {x y : Str} {P2 : PyData → PyData → Prop} {px py pt : Pos} {kt k2 pt2} (ha : DA C (xi F) ρ [a, b] (AllD fun l => ∃ d d', l = [d, d'] ∧ P2 d d')) (k : ∀ d d', P2 d d' → F (.nx ((ρ.set i (.dat d)).set j (.dat d')))) (hN : C.X.N.Nodup) (hi : C.X.N[i]? = some x) (hj : C.X.N[j]? = some y) (hij : i ≠ j)
    (hx : C.X.env.scope.names.lookup x = some .local) (hy : C.X.env.scope.names.lookup y = some .local) (hw : swappedStores [.Tuple [.Name x px, .Name y py] kt pt] (.Tuple [a, b] k2 pt2) C.X.env = pure (some [x, y]))
    (hc : C.X.calm = true := by rfl) (hs : swapsWithSole [.Tuple [.Name x px, .Name y py] kt pt] (.Tuple [a, b] k2 pt2) pos.line C.X.env = pure false := by rfl) :
    DS C F ρ (.Assign [.Tuple [.Name x px, .Name y py] kt pt] (.Tuple [a, b] k2 pt2) pos) := fun D σ H E q =>
  ⟨_, ps_par hc hN hi hj hij hx hy pA hw hs, ha σ H E _ (fun l vs H2 p g r => by
    obtain ⟨ds, rfl, d, d', rfl, p2⟩ := p
    obtain ⟨v, u, rfl, r1, r2⟩ := r.ats.two
    obtain ⟨E2, s⟩ := (E.grow g).put (i := i) (sv := .dat d) (o := some v) rfl ⟨v, rfl, r1⟩
    obtain ⟨E3, s3⟩ := E2.put (i := j) (sv := .dat d') (o := some u) rfl ⟨u, rfl, r2.up s⟩
    exact ⟨v, u, rfl, q.nx _ _ _ (k d d' p2) E3 (((vis_gr g).trans s).trans s3)⟩) (q.exE E)⟩
theorem ds_expr (he : DE C (xi F) ρ e P) (k : ∀ d, P d → F (.nx ρ)) (hs : swapsWith e none pos.line C.X.env = pure false := by rfl) : DS C F ρ (.Expr e pos) := fun D σ H E q =>
  ⟨_, ps_expr pE hs, he σ H E _ (fun d v H2 p g r => q.nx _ _ _ (k d p) (E.grow g) (vis_gr g)) (q.exE E)⟩
theorem ds_if {B : Bool → Prop} {s1 s2 : List Stmt} (hc : DT C (xi F) ρ e B) (h1 : B true → DSs C F ρ s1) (h2 : B false → DSs C F ρ s2) : DS C F ρ (.If e s1 s2 pos) := fun D σ H E q =>
  ⟨_, ps_if pT pSs pSs, hc σ H E _ (fun b H2 p g => by
    cases b with
    | true => exact iteT (h1 p D σ H2 (E.grow g) (q.move (vis_gr g)))
    | false => exact iteF (h2 p D σ H2 (E.grow g) (q.move (vis_gr g)))) (q.exE E)⟩
theorem ds_ifd {k : Bool} {s1 s2 : List Stmt} (hc : DTd C (xi F) ρ e k) (h1 : k = true → DSs C F ρ s1) (h2 : k = false → DSs C F ρ s2) : DS C F ρ (.If e s1 s2 pos) := ds_if hc (fun e => h1 e.symm) (fun e => h2 e.symm)
theorem see_O {H : Hp} : Same (vis C ρ H) (hid C.O H) := hid_mono fun a o e1 e2 => by
  unfold inn at e1
  rw [Bool.or_eq_false_iff] at e1
  exact ⟨e1.1, e2⟩
theorem ds_ret (he : DE C (xi F) ρ e P) (k : ∀ d, P d → F (.rt d)) : DS C F ρ (.Return (some e) pos) := fun D σ H E q =>
  ⟨_, ps_ret pE, he σ H E _ (fun d v H2 p g r => q.rt d v H2 (k d p) (E.gr.trans g) (r.up see_O)) (q.exE E)⟩
theorem ds_retd {d : PyData} (he : DEd C (xi F) ρ e d) (k : F (.rt d)) : DS C F ρ (.Return (some e) pos) := ds_ret he fun _ e => by rw [e]; exact k
/-! ### raise -/
structure Xc (K : PySem.W.Frag) (mg : Str → Option Value) (x : Str) : Prop where
  g : mg x = some (.ref (He.ga K x))
  q : PySem.W.excIn K (He.ga K x) He.veBase "ValueError.__new__" = true
  k : PySem.W.keepIn K (.ref (He.ga K x)) = true
  s : PySem.W.subIn K (.ref (He.ga K x)) (.type "BaseException") = some true
  t : PySem.W.typeIn K (.ref (He.ga K x)) = some (.type "type")
theorem ds_raise {x m : Str} {j : Nat} {p2 pos2 : Pos} (T : Xc C.X.K C.X.mg x) (k : F (.ex (He.ga C.X.K x))) (hg : Gl C.X x) (hc : C.X.calm = true := by rfl) (hdb : (x == ("__debug__" : Str)) = false := by decide) : DS C F ρ (.Raise (some (.Call (.Name x p) [.Constant (.str m) j p2] [] pos)) none pos2) := fun D σ H E q =>
  ⟨_, L2N.ps_raise hc C.tk (L2N.pmk_own PySem.F.excBase_ValueError T.q T.g T.k (raises_own T.s T.t) hg hdb), q.ex _ σ H k E.gr⟩
/-! ### for -/
/-- what is wanted behind a turn -/
def turnF (I : Rho → Prop) (F : Out → Prop) : Out → Prop
  | .nx ρ => I ρ
  | .ct ρ => I ρ
  | .bk ρ => F (.nx ρ)
  | o => F o
theorem ds_for {tg iter : Expr} {body : List Stmt} {Pd : List PyData → Prop} {js : List Nat} {ρ1 : Rho → PyData → Rho} (hi : DIt C (xi F) ρ tg iter Pd) (I : List PyData → Nat → Rho → Prop) (h0 : ∀ ds, Pd ds → I ds 0 ρ)
    (hg : ∀ (ds : List PyData) (k : Nat) (d : PyData) ρ', Pd ds → ds[k]? = some d → I ds k ρ' → DG C ρ' tg d (ρ1 ρ' d) js)
    (hb : ∀ (ds : List PyData) (k : Nat) (d : PyData) ρ', Pd ds → ds[k]? = some d → I ds k ρ' → DSs C (turnF (I ds (k + 1)) F) (ρ1 ρ' d) body)
    (hd : ∀ (ds : List PyData) ρ', Pd ds → I ds ds.length ρ' → F (.nx ρ')) (hp : PassesOwn (model C.X.prog C.X.w) C.X.A C.X.env C.X.xe) (hc : C.X.calm = true := by rfl) (hs : ∀ x, foldedSetIterable iter C.X.env x = pure x := by intro _; rfl) :
    DS C F ρ (.For tg iter body [] pos) := fun D σ H E q =>
  ⟨_, ps_for hp hc pI pG pSs hs, by
    refine hi σ H E _ (fun ds J S H1 pd g hS Y => ?_) (q.exE E)
    have E1 := E.grow g
    refine ⟨fun i m σ' H' => m = ds.length - i ∧ i ≤ ds.length ∧ ∃ ρ', I ds i ρ' ∧ Env C ρ' σ' H' ∧ S (vis C ρ' H') ∧ Same (vis C ρ H) (vis C ρ' H'), ⟨ds.length, by simp, Nat.zero_le _, ρ, h0 ds pd, E1, hS, vis_gr g⟩, ?_⟩
    rintro i m σ' H' ⟨rfl, hil, ρ', hI, E', S', s'⟩
    by_cases hlt : i < ds.length
    · refine .inr ⟨Y.go _ _ _ S' hlt, fun σ2 H2 => i + 1 ≤ ds.length ∧ ∃ ρ2, I ds (i + 1) ρ2 ∧ Env C ρ2 σ2 H2 ∧ S (vis C ρ2 H2) ∧ Same (vis C ρ H) (vis C ρ2 H2), fun σ2 H2 ⟨a1, a2⟩ => ⟨ds.length - (i + 1), by omega, rfl, a1, a2⟩, fun x H2 y => ?_⟩
      obtain ⟨sy, d, hd', rx⟩ := Y.yld _ _ _ _ _ E'.out S' hlt y
      have E2 := E'.grow (Gr.of sy)
      have s2 : Same (vis C ρ' H') (vis C ρ' H2) := vis_gr (Gr.of sy)
      refine hg ds i d ρ' pd hd' hI σ' H2 x E2 rx _ fun σ3 E3 s3 _ => hb ds i d ρ' pd hd' hI _ σ3 H2 E3 ?_
      refine ⟨fun ρ4 σ4 H4 f E4 s4 => ⟨hlt, ρ4, f, E4, Y.mono _ _ ((s2.trans s3).trans s4) S', ((s'.trans s2).trans s3).trans s4⟩, q.rt, q.ex, fun ρ4 σ4 H4 f E4 s4 => q.nx _ _ _ f E4 (((s'.trans s2).trans s3).trans s4),
        fun ρ4 σ4 H4 f E4 s4 => ⟨hlt, ρ4, f, E4, Y.mono _ _ ((s2.trans s3).trans s4) S', ((s'.trans s2).trans s3).trans s4⟩⟩
    · have e : i = ds.length := by omega
      subst e
      exact .inl ⟨Y.stop _ _ _ S' (Nat.le_refl _), q.nx _ _ _ (hd ds ρ' pd hI) E' s'⟩⟩
/-! ### while -/
theorem ds_while {body : List Stmt} (I : Nat → Rho → Prop) (n : Nat) (h0 : I n ρ) {B : Nat → Rho → Bool → Prop} (hc : ∀ n ρ', I n ρ' → DT C (xi F) ρ' e (B n ρ')) (hb : ∀ n ρ', I n ρ' → B n ρ' true → DSs C (turnF (fun ρ'' => ∃ m, m < n ∧ I m ρ'') F) ρ' body)
    (hd : ∀ n ρ', I n ρ' → B n ρ' false → F (.nx ρ')) (hp : PassesOwn (model C.X.prog C.X.w) C.X.A C.X.env C.X.xe) : DS C F ρ (.While e body [] pos) := fun D σ H E q =>
  ⟨_, ps_while hp pT pSs, by
    refine ⟨fun m σ' H' => ∃ ρ', I m ρ' ∧ Env C ρ' σ' H' ∧ Same (vis C ρ H) (vis C ρ' H'), ⟨n, ρ, h0, E, Same.refl _⟩, ?_⟩
    rintro m σ' H' ⟨ρ', hI, E', s'⟩
    refine hc m ρ' hI σ' H' E' _ (fun b H2 p g => ?_) (fun c H2 xc g => q.ex c σ' H2 xc (E'.gr.trans g))
    cases b with
    | false => exact iteF (q.nx _ _ _ (hd m ρ' hI p) (E'.grow g) (s'.trans (vis_gr g)))
    | true =>
      refine iteT ⟨fun σ2 H2 => ∃ m', m' < m ∧ ∃ ρ2, I m' ρ2 ∧ Env C ρ2 σ2 H2 ∧ Same (vis C ρ H) (vis C ρ2 H2), fun σ2 H2 h => h, ?_⟩
      refine hb m ρ' hI p _ σ' H2 (E'.grow g) ⟨fun ρ4 σ4 H4 ⟨m', l, f⟩ E4 s4 => ⟨m', l, ρ4, f, E4, (s'.trans (vis_gr g)).trans s4⟩, q.rt, q.ex, fun ρ4 σ4 H4 f E4 s4 => q.nx _ _ _ f E4 ((s'.trans (vis_gr g)).trans s4),
        fun ρ4 σ4 H4 ⟨m', l, f⟩ E4 s4 => ⟨m', l, ρ4, f, E4, (s'.trans (vis_gr g)).trans s4⟩⟩⟩
end
/-! ## functions -/
/-- a def that changes nothing: its data in, its result or its exception out -/
def spP (n : Nat) (Dom : List PyData → Prop) (R : List PyData → Out → Prop) : Sp := fun vs H Q E => ∃ (O : Addr → Bool) (ds : List PyData), ds.length = n ∧ (∀ a, O a = true → H a ≠ none) ∧ AtAll (hid O H) vs ds ∧ Dom ds ∧
  (∀ d v H', R ds (.rt d) → Same H H' → At (hid O H') v d → Q v H') ∧ ∀ c H', R ds (.ex c) → Same H H' → E (.ref c) none H'
def outF (R : Out → Prop) : Out → Prop
  | .nx _ => R (.rt .none)
  | .rt d => R (.rt d)
  | .ex c => R (.ex c)
  | _ => False
def rho (n : Nat) (ds : List PyData) : Rho := ds.map .dat ++ List.replicate (n - ds.length) .no
def fnC (P : Program) (w : World) (K : PySem.W.Frag) (mg : Str → Option Value) (base : Heap) (N : List Str) (qual : Str) (scope : Scope) (f : Addr) (cdv : Value) (A : Around) (outer : List PySem.Env) (s : Shared) (H : Hp) (E : XK) (k : Nat) (hr : Room k (A.deeper (PyProof.Rows.envOfC qual scope s.heap.objs.size f cdv))) (O : Addr → Bool) : Ct where
  X := cxOf (L2N.CX P w) P w K mg base N qual scope f cdv A outer s H E
  W := fun cls d _ H => E cls d H
  tk := L2N.takes_of rfl rfl rfl rfl
  O := O
  U := fun _ => false
  le := fun _ h => by cases h
  base := H
  lv := k
  room := L2H.roomH_of hr
  hd := fun _ => hr.hd
theorem start_len (N : List Str) (vs : List V) (h : vs.length ≤ N.length) : (L2.start N vs).length = N.length := by
  unfold L2.start
  rw [List.length_append, List.length_map, List.length_replicate]
  omega
theorem owns_rho {n : Nat} {ds : List PyData} {a : Addr} : owns (rho n ds) a = false := by
  unfold owns rho
  rw [List.any_append]
  have h1 : (ds.map SV.dat).any (fun s => s.addr == some a) = false := by
    rw [List.any_eq_false]
    intro x hx
    obtain ⟨d, _, rfl⟩ := List.mem_map.mp hx
    simp [SV.addr]
  have h2 : (List.replicate (n - ds.length) SV.no).any (fun s => s.addr == some a) = false := by
    rw [List.any_eq_false]
    intro x hx
    rw [List.eq_of_mem_replicate hx]
    simp [SV.addr]
  rw [h1, h2]
  rfl
theorem env_start {C : Ct} {N : List Str} {ds : List PyData} {vs : List V} (h : AtAll (hid C.O C.base) vs ds) (hl : ds.length ≤ N.length) (ho : ∀ a, C.O a = true → C.base a ≠ none) (hU : ∀ a, C.U a = false) : Env C (rho N.length ds) (L2.start N vs) C.base := by
  have e := h.len
  have hv : vis C (rho N.length ds) C.base = hid C.O C.base := by
    unfold vis inn
    congr 1
    funext a
    rw [owns_rho, Bool.or_false]
  refine ⟨?_, fun i => ?_, fun a q => (by rw [hU] at q; cases q), ho, Gr.refl _ _, fun i j p hi => ?_⟩
  · rw [start_len N vs (by omega)]
    unfold rho
    rw [List.length_append, List.length_map, List.length_replicate]
    omega
  · unfold gt rho L2.start
    rw [List.getD_eq_getElem?_getD, List.getD_eq_getElem?_getD, List.getElem?_append, List.getElem?_append]
    by_cases hi : i < ds.length
    · rw [if_pos (by rw [List.length_map]; exact hi), if_pos (by rw [List.length_map]; omega), List.getElem?_map, List.getElem?_map, List.getElem?_eq_getElem hi]
      obtain ⟨v, h1, h2⟩ := h.get (List.getElem?_eq_getElem hi)
      rw [h1]
      exact ⟨v, rfl, by have h3 := h2; rw [← hv] at h3; exact h3⟩
    · rw [if_neg (by rw [List.length_map]; exact hi)]
      have : (((List.replicate (N.length - ds.length) SV.no)[i - (ds.map SV.dat).length]?).getD SV.no) = SV.no := by
        rw [List.getElem?_replicate]
        split <;> rfl
      rw [this]
      exact True.intro
  · exfalso
    have : owns (rho N.length ds) p = true := owns_iff.mpr ⟨i, hi⟩
    rw [owns_rho] at this
    cases this
theorem fn_P {P : Program} {w : World} {K : PySem.W.Frag} {mg : Str → Option Value} {base : Heap} {x : Str} {st : Stmt} {f : Addr} {fd : FuncData} {N ps : List Str} {k n : Nat} {Dom : List PyData → Prop} {R : List PyData → Out → Prop}
    (F : FunD K x x (defArgs st) (defBody st) (defScope st) [] [] f fd) (S : FnScope N ps (defScope st)) (hn : ps.length = n) (hN : n ≤ N.length)
    (body : ∀ cdv A outer s H E hr O ds, ds.length = n → Dom ds → DSs (fnC P w K mg base N x (defScope st) f cdv A outer s H E k hr O) (outF (R ds)) (rho N.length ds) (defBody st)) : FnOk P w K mg base (L2N.CX P w) (k + 1) f fd ps (spP n Dom R) := by
  refine F.ok (CX := L2N.CX P w) S (fun vs H Q E h => ?_) (fun cdv A outer s H vs Q E hr h => ?_)
  · obtain ⟨O, ds, hl, _, ha, _⟩ := h
    rw [ha.len, hl, hn]
  · obtain ⟨O, ds, hl, ho, ha, hd, h1, h2⟩ := h
    refine ⟨_, pSs, body cdv A outer s H E hr O ds hl hd _ _ H (env_start (C := fnC P w K mg base N x (defScope st) f cdv A outer s H E k hr O) ha (by omega) ho fun _ => rfl) ⟨fun ρ' σ' H' f E' s' => ?_, fun d v H' f g r => h1 d v H' f g.same r, fun c σ' H' f g => h2 c H' f g.same, fun _ _ _ f => f.elim, fun _ _ _ f => f.elim⟩⟩
    exact h1 .none .non H' f E'.gr.same .non
/-- a def that may be called -/
structure Fc (P : Program) (w : World) (K : PySem.W.Frag) (mg : Str → Option Value) (base : Heap) (x : Str) (ps : List Str) (k : Nat) (sp : Sp) : Prop where
  ex : ∃ (f : Addr) (fd : FuncData), mg x = some (.ref f) ∧ PySem.W.keepIn K (.ref f) = true ∧ Binds K fd ps [] ∧ FnOk P w K mg base (L2N.CX P w) k f fd ps sp
theorem fc_P {P : Program} {w : World} {K : PySem.W.Frag} {mg : Str → Option Value} {base : Heap} {x : Str} {st : Stmt} {N ps : List Str} {k n : Nat} {Dom : List PyData → Prop} {R : List PyData → Out → Prop}
    (D : ∃ fd, FunD K x x (defArgs st) (defBody st) (defScope st) [] [] (He.ga K x) fd) (g : mg x = some (.ref (He.ga K x))) (S : FnScope N ps (defScope st)) (hn : ps.length = n) (hN : n ≤ N.length)
    (hb : ∀ (kV doc pm : Value) (an : Option Addr) (cdv ct : Value) (us : List Value), us.length = ps.length → bindArgs (PySem.W.fnOf x x (defArgs st) (defBody st) (defScope st) .none kV doc pm an cdv ct) ⟨us, []⟩ = pure (ps.zip us))
    (body : ∀ cdv A outer s H E hr O ds, ds.length = n → Dom ds → DSs (fnC P w K mg base N x (defScope st) (He.ga K x) cdv A outer s H E k hr O) (outF (R ds)) (rho N.length ds) (defBody st)) : Fc P w K mg base x ps (k + 1) (spP n Dom R) := by
  obtain ⟨fd, F⟩ := D
  exact ⟨_, fd, g, F.kp, FunD.bindsN F hb, fn_P F S hn hN body⟩
section
variable {C : Ct} {Ξ : Addr → Prop} {ρ : Rho} {e : Expr} {es : List Expr} {pos p : Pos} {P : PyData → Prop}
theorem de_callG {x : Str} {ps : List Str} {k n : Nat} {Dom : List PyData → Prop} {R : List PyData → Out → Prop} {Pd : List PyData → Prop} (G : Fc C.X.prog C.X.w C.X.K C.X.mg C.X.base x ps k (spP n Dom R)) (hk : k ≤ C.lv) (hg : Gl C.X x) (ha : DA C Ξ ρ (e :: es) (AllD Pd)) (hl : ∀ ds, Pd ds → ds.length = n ∧ Dom ds)
    (hP : ∀ ds d, Pd ds → R ds (.rt d) → P d) (hX : ∀ ds c, Pd ds → R ds (.ex c) → Ξ c) (hcalm : C.X.calm = true := by rfl) (hdb : (x == ("__debug__" : Str)) = false := by decide) (he : starEach (e :: es) C.X.env = (false, eval e C.X.env) :: starEach es C.X.env := by rfl) (hpl : (backTo pos (starEach es C.X.env)).any (·.1) = false := by rfl) :
    DE C Ξ ρ (.Call (.Name x p) (e :: es) [] pos) P := fun σ H E Q q z => by
  obtain ⟨f, fd, hm, kp, hb, F⟩ := G.ex
  refine ⟨_, pe_callS F ((C.room' hcalm).mono hk) hg hm kp hb (fun σ => L2N.passAt C.tk σ) pA hdb he hpl, ha σ H E _ (fun l vs H2 pl g r => ?_) z⟩
  obtain ⟨ds, rfl, pd⟩ := pl
  obtain ⟨hl1, hl2⟩ := hl ds pd
  refine ⟨inn C ρ, ds, hl1, (E.grow g).out, r.ats, hl2, fun d v H' hr s ra => q d v H' (hP ds d pd hr) (g.trans (Gr.of s)) ra, fun c H' hr s => z c H' (hX ds c pd hr) (g.trans (Gr.of s))⟩
theorem de_call {x : Str} {ps : List Str} {k n : Nat} {Dom : List PyData → Prop} {R : List PyData → Out → Prop} {ds : List PyData} (G : Fc C.X.prog C.X.w C.X.K C.X.mg C.X.base x ps k (spP n Dom R)) (hk : k ≤ C.lv) (hg : Gl C.X x) (ha : DAd C Ξ ρ (e :: es) ds) (hl : ds.length = n) (hd : Dom ds)
    (hP : ∀ d, R ds (.rt d) → P d) (hX : ∀ c, R ds (.ex c) → Ξ c) (hcalm : C.X.calm = true := by rfl) (hdb : (x == ("__debug__" : Str)) = false := by decide) (he : starEach (e :: es) C.X.env = (false, eval e C.X.env) :: starEach es C.X.env := by rfl) (hpl : (backTo pos (starEach es C.X.env)).any (·.1) = false := by rfl) :
    DE C Ξ ρ (.Call (.Name x p) (e :: es) [] pos) P :=
  de_callG (Pd := fun l => l = ds) G hk hg (fun σ H E Q q z => ha σ H E Q (fun l vs H2 pl => q l vs H2 ⟨ds, pl, rfl⟩) z) (fun l e => by rw [e]; exact ⟨hl, hd⟩) (fun l d e => by rw [e]; exact hP d) (fun l c e => by rw [e]; exact hX c) hcalm hdb he hpl
end
end DD
namespace DD
open PySem L2
/-! ## defs that are functions of their data -/
abbrev spD (n : Nat) (Dom : List PyData → Prop) (f : List PyData → Out) : Sp := spP n Dom (fun ds o => o = f ds)
section
variable {C : Ct} {Ξ : Addr → Prop} {ρ : Rho} {e : Expr} {es : List Expr} {pos p : Pos} {P : PyData → Prop}
theorem de_fn {x : Str} {ps : List Str} {k n : Nat} {Dom : List PyData → Prop} {f : List PyData → Out} {ds : List PyData} {d : PyData} (G : Fc C.X.prog C.X.w C.X.K C.X.mg C.X.base x ps k (spD n Dom f)) (hk : k ≤ C.lv) (hg : Gl C.X x) (ha : DAd C Ξ ρ (e :: es) ds) (hl : ds.length = n) (hd : Dom ds)
    (h : f ds = .rt d) (hcalm : C.X.calm = true := by rfl) (hdb : (x == ("__debug__" : Str)) = false := by decide) (he : starEach (e :: es) C.X.env = (false, eval e C.X.env) :: starEach es C.X.env := by rfl) (hpl : (backTo pos (starEach es C.X.env)).any (·.1) = false := by rfl) :
    DEd C Ξ ρ (.Call (.Name x p) (e :: es) [] pos) d :=
  de_call G hk hg ha hl hd (fun d' q => by rw [h] at q; injection q) (fun c q => by rw [h] at q; cases q) hcalm hdb he hpl
theorem dx_fn {x : Str} {ps : List Str} {k n : Nat} {Dom : List PyData → Prop} {f : List PyData → Out} {ds : List PyData} {c : Addr} (G : Fc C.X.prog C.X.w C.X.K C.X.mg C.X.base x ps k (spD n Dom f)) (hk : k ≤ C.lv) (hg : Gl C.X x) (ha : DAd C Ξ ρ (e :: es) ds) (hl : ds.length = n) (hd : Dom ds)
    (h : f ds = .ex c) (hx : Ξ c) (hcalm : C.X.calm = true := by rfl) (hdb : (x == ("__debug__" : Str)) = false := by decide) (he : starEach (e :: es) C.X.env = (false, eval e C.X.env) :: starEach es C.X.env := by rfl) (hpl : (backTo pos (starEach es C.X.env)).any (·.1) = false := by rfl) :
    DE C Ξ ρ (.Call (.Name x p) (e :: es) [] pos) P :=
  de_call G hk hg ha hl hd (fun d' q => by rw [h] at q; cases q) (fun c' q => by rw [h] at q; injection q with q; rw [q]; exact hx) hcalm hdb he hpl
end
end DD

namespace DD
open PySem L2
/-! ## promises by what the arguments stand for -/
def spX {α : Type} (enc : α → List PyData) (Dom : α → Prop) (R : α → Out → Prop) : Sp := fun vs H Q E => ∃ (O : Addr → Bool) (x : α), (∀ a, O a = true → H a ≠ none) ∧ AtAll (hid O H) vs (enc x) ∧ Dom x ∧
  (∀ d v H', R x (.rt d) → Same H H' → At (hid O H') v d → Q v H') ∧ ∀ c H', R x (.ex c) → Same H H' → E (.ref c) none H'
abbrev spF {α : Type} (enc : α → List PyData) (Dom : α → Prop) (g : α → Out) : Sp := spX enc Dom (fun x o => o = g x)
theorem fn_X {α : Type} {enc : α → List PyData} {P : Program} {w : World} {K : PySem.W.Frag} {mg : Str → Option Value} {base : Heap} {x : Str} {st : Stmt} {f : Addr} {fd : FuncData} {N ps : List Str} {k : Nat} {Dom : α → Prop} {R : α → Out → Prop}
    (F : FunD K x x (defArgs st) (defBody st) (defScope st) [] [] f fd) (S : FnScope N ps (defScope st)) (hn : ∀ y, (enc y).length = ps.length) (hN : ps.length ≤ N.length)
    (body : ∀ cdv A outer s H E hr O y, Dom y → DSs (fnC P w K mg base N x (defScope st) f cdv A outer s H E k hr O) (outF (R y)) (rho N.length (enc y)) (defBody st)) : FnOk P w K mg base (L2N.CX P w) (k + 1) f fd ps (spX enc Dom R) := by
  refine F.ok (CX := L2N.CX P w) S (fun vs H Q E h => ?_) (fun cdv A outer s H vs Q E hr h => ?_)
  · obtain ⟨O, ds, _, ha, _⟩ := h
    rw [ha.len, hn]
  · obtain ⟨O, ds, ho, ha, hd, h1, h2⟩ := h
    refine ⟨_, pSs, body cdv A outer s H E hr O ds hd _ _ H (env_start (C := fnC P w K mg base N x (defScope st) f cdv A outer s H E k hr O) ha (by rw [hn]; exact hN) ho fun _ => rfl) ⟨fun ρ' σ' H' f E' s' => ?_, fun d v H' f g r => h1 d v H' f g.same r, fun c σ' H' f g => h2 c H' f g.same, fun _ _ _ f => f.elim, fun _ _ _ f => f.elim⟩⟩
    exact h1 .none .non H' f E'.gr.same .non
theorem fc_X {α : Type} {enc : α → List PyData} {P : Program} {w : World} {K : PySem.W.Frag} {mg : Str → Option Value} {base : Heap} {x : Str} {st : Stmt} {N ps : List Str} {k : Nat} {Dom : α → Prop} {R : α → Out → Prop}
    (D : ∃ fd, FunD K x x (defArgs st) (defBody st) (defScope st) [] [] (He.ga K x) fd) (g : mg x = some (.ref (He.ga K x))) (S : FnScope N ps (defScope st)) (hn : ∀ y, (enc y).length = ps.length) (hN : ps.length ≤ N.length)
    (hb : ∀ (kV doc pm : Value) (an : Option Addr) (cdv ct : Value) (us : List Value), us.length = ps.length → bindArgs (PySem.W.fnOf x x (defArgs st) (defBody st) (defScope st) .none kV doc pm an cdv ct) ⟨us, []⟩ = pure (ps.zip us))
    (body : ∀ cdv A outer s H E hr O y, Dom y → DSs (fnC P w K mg base N x (defScope st) (He.ga K x) cdv A outer s H E k hr O) (outF (R y)) (rho N.length (enc y)) (defBody st)) : Fc P w K mg base x ps (k + 1) (spX enc Dom R) := by
  obtain ⟨fd, F⟩ := D
  exact ⟨_, fd, g, F.kp, FunD.bindsN F hb, fn_X F S hn hN body⟩
section
variable {α : Type} {enc : α → List PyData} {C : Ct} {Ξ : Addr → Prop} {ρ : Rho} {e : Expr} {es : List Expr} {pos p : Pos} {P : PyData → Prop}
theorem de_cx {x : Str} {ps : List Str} {k : Nat} {Dom : α → Prop} {R : α → Out → Prop} (y : α) (G : Fc C.X.prog C.X.w C.X.K C.X.mg C.X.base x ps k (spX enc Dom R)) (hk : k ≤ C.lv) (hg : Gl C.X x) (ha : DAd C Ξ ρ (e :: es) (enc y)) (hd : Dom y)
    (hP : ∀ d, R y (.rt d) → P d) (hX : ∀ c, R y (.ex c) → Ξ c) (hcalm : C.X.calm = true := by rfl) (hdb : (x == ("__debug__" : Str)) = false := by decide) (he : starEach (e :: es) C.X.env = (false, eval e C.X.env) :: starEach es C.X.env := by rfl) (hpl : (backTo pos (starEach es C.X.env)).any (·.1) = false := by rfl) :
    DE C Ξ ρ (.Call (.Name x p) (e :: es) [] pos) P := fun σ H E Q q z => by
  obtain ⟨f, fd, hm, kp, hb, F⟩ := G.ex
  refine ⟨_, pe_callS F ((C.room' hcalm).mono hk) hg hm kp hb (fun σ => L2N.passAt C.tk σ) pA hdb he hpl, ha σ H E _ (fun l vs H2 pl g r => ?_) z⟩
  subst pl
  refine ⟨inn C ρ, y, (E.grow g).out, r.ats, hd, fun d v H' hr s ra => q d v H' (hP d hr) (g.trans (Gr.of s)) ra, fun c H' hr s => z c H' (hX c hr) (g.trans (Gr.of s))⟩
theorem de_f {x : Str} {ps : List Str} {k : Nat} {Dom : α → Prop} {f : α → Out} {d : PyData} (y : α) (G : Fc C.X.prog C.X.w C.X.K C.X.mg C.X.base x ps k (spF enc Dom f)) (hg : Gl C.X x) (ha : DAd C Ξ ρ (e :: es) (enc y)) (hd : Dom y)
    (h : f y = .rt d) (hk : k ≤ C.lv := by exact Nat.le_of_ble_eq_true rfl) (hcalm : C.X.calm = true := by rfl) (hdb : (x == ("__debug__" : Str)) = false := by decide) (he : starEach (e :: es) C.X.env = (false, eval e C.X.env) :: starEach es C.X.env := by rfl) (hpl : (backTo pos (starEach es C.X.env)).any (·.1) = false := by rfl) :
    DEd C Ξ ρ (.Call (.Name x p) (e :: es) [] pos) d :=
  de_cx y G hk hg ha hd (fun d' q => by rw [h] at q; injection q) (fun c q => by rw [h] at q; cases q) hcalm hdb he hpl
theorem dx_f {x : Str} {ps : List Str} {k : Nat} {Dom : α → Prop} {f : α → Out} {c : Addr} (y : α) (G : Fc C.X.prog C.X.w C.X.K C.X.mg C.X.base x ps k (spF enc Dom f)) (hg : Gl C.X x) (ha : DAd C Ξ ρ (e :: es) (enc y)) (hd : Dom y)
    (h : f y = .ex c) (hx : Ξ c) (hk : k ≤ C.lv := by exact Nat.le_of_ble_eq_true rfl) (hcalm : C.X.calm = true := by rfl) (hdb : (x == ("__debug__" : Str)) = false := by decide) (he : starEach (e :: es) C.X.env = (false, eval e C.X.env) :: starEach es C.X.env := by rfl) (hpl : (backTo pos (starEach es C.X.env)).any (·.1) = false := by rfl) :
    DE C Ξ ρ (.Call (.Name x p) (e :: es) [] pos) P :=
  de_cx y G hk hg ha hd (fun d' q => by rw [h] at q; cases q) (fun c' q => by rw [h] at q; injection q with q; rw [q]; exact hx) hcalm hdb he hpl
/-- a def that may raise, as a statement -/
def thenO (o : Out) (F : Out → Prop) (ρ : Rho) : Prop := match o with
  | .rt _ => F (.nx ρ)
  | .ex c => F (.ex c)
  | _ => False
theorem ds_call {F : Out → Prop} {x : Str} {ps : List Str} {k : Nat} {Dom : α → Prop} {f : α → Out} (y : α) (G : Fc C.X.prog C.X.w C.X.K C.X.mg C.X.base x ps k (spF enc Dom f)) (hg : Gl C.X x) (ha : DAd C (xi F) ρ (e :: es) (enc y)) (hd : Dom y) (h : thenO (f y) F ρ)
    (hk : k ≤ C.lv := by exact Nat.le_of_ble_eq_true rfl) (hs : swapsWith (.Call (.Name x p) (e :: es) [] pos) none pos.line C.X.env = pure false := by rfl) (hcalm : C.X.calm = true := by rfl) (hdb : (x == ("__debug__" : Str)) = false := by decide) (he : starEach (e :: es) C.X.env = (false, eval e C.X.env) :: starEach es C.X.env := by rfl) (hpl : (backTo pos (starEach es C.X.env)).any (·.1) = false := by rfl) :
    DS C F ρ (.Expr (.Call (.Name x p) (e :: es) [] pos) pos) :=
  ds_expr (de_cx (P := fun d => f y = .rt d) y G hk hg ha hd (fun d q => q.symm) (fun c q => by rw [← q] at h; exact h) hcalm hdb he hpl) (fun d q => by rw [q] at h; exact h) hs
end
/-! ## the numbers of the program -/
def iv (ns : List Int) : List PyData := ns.map PyData.int
abbrev tI (ns : List Int) : PyData := .tuple (iv ns)
abbrev lI (ns : List Int) : PyData := .list (iv ns)
theorem iv_len (ns : List Int) : (iv ns).length = ns.length := List.length_map ..
theorem iv_app (a b : List Int) : iv (a ++ b) = iv a ++ iv b := List.map_append
theorem iv_at {ns : List Int} {k : Nat} {d : PyData} (h : (iv ns)[k]? = some d) : ∃ n, ns[k]? = some n ∧ d = .int n := by
  unfold iv at h
  rw [List.getElem?_map] at h
  cases e : ns[k]? with
  | none => rw [e] at h; cases h
  | some n => rw [e] at h; injection h with h; exact ⟨n, rfl, h.symm⟩
theorem iv_inj {a b : List Int} (h : iv a = iv b) : a = b := by
  induction a generalizing b with
  | nil => cases b with
    | nil => rfl
    | cons y ys => cases h
  | cons x xs ih => cases b with
    | nil => cases h
    | cons y ys =>
      injection h with h1 h2
      injection h1 with h1
      rw [h1, ih h2]
def isW : PyData → Int → Int → Bool
  | .int i, lo, hi => decide (lo ≤ i) && decide (i ≤ hi)
  | _, _, _ => false
def rowOk (b : Int) : PyData → Bool
  | .tuple ds => (decide ((1 : Int) ≤ ds.length) && decide ((ds.length : Int) ≤ 8)) && ds.all fun d => isW d 0 (b - 1)
  | _ => false
/-- digits of a base -/
def Dg (b : Int) (ns : List Int) : Prop := ∀ n ∈ ns, 0 ≤ n ∧ n < b
def Row (b : Int) (ns : List Int) : Prop := (1 ≤ ns.length ∧ ns.length ≤ 8) ∧ Dg b ns
def Base (b : Int) : Prop := 2 ≤ b ∧ b ≤ 12
theorem rowOk_iff {b : Int} {d : PyData} : rowOk b d = true ↔ ∃ ns, d = tI ns ∧ Row b ns := by
  constructor
  · intro h
    cases d with
    | tuple ds =>
      unfold rowOk at h
      rw [Bool.and_eq_true, Bool.and_eq_true, decide_eq_true_iff, decide_eq_true_iff, List.all_eq_true] at h
      obtain ⟨⟨h1, h2⟩, h3⟩ := h
      have : ∃ ns, ds = iv ns ∧ Dg b ns := by
        clear h1 h2
        induction ds with
        | nil => exact ⟨[], rfl, fun _ h => nomatch h⟩
        | cons x xs ih =>
          obtain ⟨ns, e, g⟩ := ih fun z hz => h3 z (List.mem_cons_of_mem _ hz)
          have q := h3 x List.mem_cons_self
          cases x with
          | int i =>
            unfold isW at q
            rw [Bool.and_eq_true, decide_eq_true_iff, decide_eq_true_iff] at q
            refine ⟨i :: ns, by rw [e]; rfl, fun n hn => ?_⟩
            rcases List.mem_cons.mp hn with e | hn
            · subst e; omega
            · exact g n hn
          | _ => cases q
      obtain ⟨ns, rfl, g⟩ := this
      rw [iv_len] at h1 h2
      exact ⟨ns, rfl, ⟨by omega, by omega⟩, g⟩
    | _ => cases h
  · rintro ⟨ns, rfl, ⟨h1, h2⟩, h3⟩
    unfold rowOk
    rw [Bool.and_eq_true, Bool.and_eq_true, decide_eq_true_iff, decide_eq_true_iff, List.all_eq_true, iv_len]
    refine ⟨⟨by omega, by omega⟩, fun d hd => ?_⟩
    obtain ⟨n, hn, rfl⟩ := List.mem_map.mp hd
    have := h3 n hn
    unfold isW
    rw [Bool.and_eq_true, decide_eq_true_iff, decide_eq_true_iff]
    omega
theorem Row.ok {b : Int} {ns : List Int} (h : Row b ns) : rowOk b (tI ns) = true := rowOk_iff.mpr ⟨ns, rfl, h⟩
theorem Base.ok {b : Int} (h : Base b) : isW (.int b) 2 12 = true := by
  unfold isW
  rw [Bool.and_eq_true, decide_eq_true_iff, decide_eq_true_iff]
  exact h
theorem base_iff {d : PyData} : isW d 2 12 = true ↔ ∃ b, d = .int b ∧ Base b := by
  constructor
  · intro h
    cases d with
    | int i =>
      unfold isW at h
      rw [Bool.and_eq_true, decide_eq_true_iff, decide_eq_true_iff] at h
      exact ⟨i, rfl, h⟩
    | _ => cases h
  · rintro ⟨b, rfl, h⟩
    exact h.ok
/-- the value -/
def numI (b : Int) (ns : List Int) : Int := ns.foldl (fun f d => f * b + d) 0
def wrI (b : Int) : Nat → Int → List Int → List Int
  | 0, _, acc => acc
  | k + 1, n, acc => wrI b k (n / b) (n % b :: acc)
def srtI (ns : List Int) : List Int := ns.mergeSort fun a b => decide (a ≤ b)
def falI (ns : List Int) : List Int := (srtI ns).reverse
def stepI (b : Int) (ns : List Int) : List Int := wrI b ns.length (numI b (falI ns) - numI b (srtI ns)) []
def powI (b : Int) (k : Nat) : Int := b ^ k
theorem numI_app (b : Int) (ns : List Int) (d : Int) : numI b (ns ++ [d]) = numI b ns * b + d := by
  unfold numI
  rw [List.foldl_append]
  rfl
theorem Dg.app {b : Int} {xs ys : List Int} (h : Dg b xs) (h' : Dg b ys) : Dg b (xs ++ ys) := fun n hn => by
  rcases List.mem_append.mp hn with q | q
  · exact h n q
  · exact h' n q
theorem Dg.sub {b : Int} {xs ys : List Int} (h : Dg b xs) (s : ∀ n ∈ ys, n ∈ xs) : Dg b ys := fun n hn => h n (s n hn)
theorem snoc_ind {α : Type} {p : List α → Prop} (h0 : p []) (h1 : ∀ xs x, p xs → p (xs ++ [x])) : ∀ xs, p xs := fun xs => by
  rw [← List.reverse_reverse xs]
  induction xs.reverse with
  | nil => exact h0
  | cons x t ih => rw [List.reverse_cons]; exact h1 _ _ ih
theorem numI_bd {b : Int} (hb : 1 ≤ b) : ∀ {ns : List Int}, Dg b ns → 0 ≤ numI b ns ∧ numI b ns + 1 ≤ b ^ ns.length := fun {ns} => by
  refine snoc_ind (p := fun ns => Dg b ns → 0 ≤ numI b ns ∧ numI b ns + 1 ≤ b ^ ns.length) (fun _ => ⟨Int.le_refl _, by unfold numI; simp⟩) (fun xs x ih h => ?_) ns
  obtain ⟨h1, h2⟩ := ih (h.sub fun n hn => List.mem_append_left _ hn)
  obtain ⟨h3, h4⟩ := h x (List.mem_append_right _ List.mem_cons_self)
  rw [numI_app, List.length_append, List.length_cons, List.length_nil, Int.pow_succ]
  constructor
  · have := Int.mul_nonneg h1 (by omega : 0 ≤ b)
    omega
  · have := Int.mul_le_mul_of_nonneg_right h2 (by omega : 0 ≤ b)
    rw [Int.add_mul] at this
    omega
theorem pow_bd {b : Int} (h : Base b) {k : Nat} (hk : k ≤ 8) : 1 ≤ b ^ k ∧ b ^ k ≤ 429981696 := by
  have h1 : ∀ k : Nat, 1 ≤ b ^ k ∧ b ^ k ≤ 12 ^ k := fun k => by
    induction k with
    | zero => simp
    | succ k ih =>
      rw [Int.pow_succ, Int.pow_succ]
      obtain ⟨a1, a2⟩ := ih
      obtain ⟨b1, b2⟩ := h
      constructor
      · have := Int.mul_le_mul a1 (by omega : 1 ≤ b) (by decide) (by omega)
        omega
      · exact Int.mul_le_mul a2 b2 (by omega) (by omega)
  obtain ⟨a1, a2⟩ := h1 k
  refine ⟨a1, ?_⟩
  have : (12 : Int) ^ k ≤ 12 ^ 8 := by
    have e := Nat.pow_le_pow_right (by decide : 0 < 12) hk
    have := Int.ofNat_le.mpr e
    simpa using this
  exact Int.le_trans a2 this
theorem wrI_len (b : Int) : ∀ (k : Nat) (n : Int) (acc : List Int), (wrI b k n acc).length = k + acc.length
  | 0, _, acc => by show acc.length = _; omega
  | k + 1, n, acc => by
    show (wrI b k (n / b) (n % b :: acc)).length = _
    rw [wrI_len, List.length_cons]
    omega
theorem wrI_dg {b : Int} (hb : 1 ≤ b) : ∀ (k : Nat) (n : Int) (acc : List Int), Dg b acc → Dg b (wrI b k n acc)
  | 0, _, _, h => h
  | k + 1, n, acc, h => wrI_dg hb k _ _ fun m hm => by
    rcases List.mem_cons.mp hm with e | q
    · rw [e]; exact ⟨Int.emod_nonneg _ (by omega), Int.emod_lt_of_pos _ (by omega)⟩
    · exact h m q
theorem wrI_acc (b : Int) : ∀ (k : Nat) (n : Int) (acc : List Int), wrI b k n acc = wrI b k n [] ++ acc
  | 0, _, acc => rfl
  | k + 1, n, acc => by
    show wrI b k (n / b) (n % b :: acc) = wrI b k (n / b) [n % b] ++ acc
    rw [wrI_acc b k _ (n % b :: acc), wrI_acc b k _ [n % b], List.append_assoc]
    rfl
theorem wrI_succ (b : Int) (k : Nat) (n : Int) : wrI b (k + 1) n [] = wrI b k (n / b) [] ++ [n % b] := wrI_acc b k _ _
theorem srtI_perm (ns : List Int) : (srtI ns).Perm ns := List.mergeSort_perm _ _
theorem srtI_len (ns : List Int) : (srtI ns).length = ns.length := (srtI_perm ns).length_eq
theorem falI_len (ns : List Int) : (falI ns).length = ns.length := by unfold falI; rw [List.length_reverse, srtI_len]
theorem Dg.srt {b : Int} {ns : List Int} (h : Dg b ns) : Dg b (srtI ns) := h.sub fun n hn => (srtI_perm ns).mem_iff.mp hn
theorem Dg.fal {b : Int} {ns : List Int} (h : Dg b ns) : Dg b (falI ns) := h.srt.sub fun n hn => List.mem_reverse.mp hn
theorem stepI_len (b : Int) (ns : List Int) : (stepI b ns).length = ns.length := by unfold stepI; rw [wrI_len]; rfl
theorem Row.step {b : Int} {ns : List Int} (hb : 1 ≤ b) (h : Row b ns) : Row b (stepI b ns) := ⟨by rw [stepI_len]; exact h.1, wrI_dg hb _ _ _ fun _ h => nomatch h⟩
theorem dLe_int (a b : Int) : decide (a ≤ b) = dLe (.int a) (.int b) := by
  exact (congrFun (congrFun (PySem.W.dataLe_int (fun b : Int => b)) a) b).symm
theorem sort_iv (ns : List Int) : (iv ns).mergeSort dLe = iv (srtI ns) := by
  unfold iv srtI
  exact (List.map_mergeSort (r := fun a b => decide (a ≤ b)) (s := dLe) (f := PyData.int) (l := ns) (fun a _ b _ => dLe_int a b)).symm
theorem lfs_iv : ∀ ns : List Int, lfs (iv ns) = true
  | [] => rfl
  | n :: ns => by
    have := lfs_iv ns
    show (lf (.int n) && lfs (iv ns)) = true
    rw [this]; rfl
theorem can_iv (ns : List Int) : CanSort (iv ns) where
  al := PySem.W.AllAlike.of fun _ _ => rfl
  so := PySem.W.Sortable.others fun b => ⟨by simp, fun xs => by simp⟩
  lf := lfs_iv ns
  dp := fun d hd => by
    obtain ⟨n, _, rfl⟩ := List.mem_map.mp hd
    simp [PyData.depth]
end DD
namespace DD
open PySem L2
/-- a, b = x, y, of known data -/
theorem ds_pard {C : Ct} {F : Out → Prop} {ρ : Rho} {a b : Expr} {pos : Pos} (i j : Nat) {x y : Str} {d d' : PyData} {px py pt : Pos} {kt k2 pt2} (ha : DAd C (xi F) ρ [a, b] [d, d']) (k : F (.nx ((ρ.set i (.dat d)).set j (.dat d')))) (hN : C.X.N.Nodup) (hi : C.X.N[i]? = some x) (hj : C.X.N[j]? = some y) (hij : i ≠ j)
    (hx : C.X.env.scope.names.lookup x = some .local) (hy : C.X.env.scope.names.lookup y = some .local) (hw : swappedStores [.Tuple [.Name x px, .Name y py] kt pt] (.Tuple [a, b] k2 pt2) C.X.env = pure (some [x, y]))
    (hc : C.X.calm = true := by rfl) (hs : swapsWithSole [.Tuple [.Name x px, .Name y py] kt pt] (.Tuple [a, b] k2 pt2) pos.line C.X.env = pure false := by rfl) :
    DS C F ρ (.Assign [.Tuple [.Name x px, .Name y py] kt pt] (.Tuple [a, b] k2 pt2) pos) :=
  ds_par (P2 := fun z z' => z = d ∧ z' = d') i j (fun σ H E Q q z => ha σ H E Q (fun l vs H2 pl => q l vs H2 ⟨[d, d'], pl, d, d', rfl, rfl, rfl⟩) z) (fun z z' e => by rw [e.1, e.2]; exact k) hN hi hj hij hx hy hw hc hs
end DD

namespace DD
open PySem PySem.Spec PyProof.Rows L2 L2H HotX
section
variable {prog : Program} {w : World} {A : Around} {E : Value → Shared → Prop} {s : Shared}
/-- a list's iterator at its end, while an exception is handled -/
theorem list_end_hot {it l x1 : Addr} {i : Nat} {items : Array Value} {Q : Option Value → Shared → Prop} (hot : HotAt A x1 s.heap) (ne : x1 ≠ it) (hit : s.heap.IsListIter it l i) (hl : s.heap.IsList l items) (hx : items[i]? = none)
    (hQ : ∀ h', Heap.ExtBut it s.heap h' → Q none { s with heap := h' }) : wpAny (model prog w) A (pyNext (.ref it)) Q E s := by
  obtain ⟨hh, o1, vs1, h1, d1, c1⟩ := hot
  obtain ⟨ol, gl, _, nl, dl⟩ := hl
  obtain ⟨o, ho, hc, hd⟩ := id hit
  unfold pyNext
  refine wpAny_bind (wpAny_attempt (wpAny_callSpecial?_slot (name := Str.ofString "__next__") hit.typeIs slot_listiter_next (wpAny_call_entry slot_listiter_next hit.typeIs entry_listiter_next ?_ (args_listiter_next _))))
  show wpAny _ _ (field (.ref it) 0 >>= _) _ _ s
  refine wpAny_bind (wpAny_field ho hd (x := .ref l) rfl ?_)
  show wpAny _ _ (if (Value.ref l == Value.none) = true then _ else _) _ _ s
  rw [if_neg (by exact Bool.false_ne_true)]
  show wpAny _ _ (field (.ref it) 1 >>= _) _ _ s
  refine wpAny_bind (wpAny_field ho hd (x := .int i 0) rfl ?_)
  show wpAny _ _ (seqItems? (.ref l) >>= _) _ _ s
  refine wpAny_bind (wpAny_seqItems gl dl ?_)
  simp only [Int.toNat_natCast, hx]
  have up : ∀ b u, b ≠ it → s.heap.get? b = some u → (s.heap.update it (Obj.mapFields (·.setIfInBounds 0 .none))).get? b = some u := fun b u n e => by rw [Heap.get?_update_other _ _ (Ne.symm n)]; exact e
  refine wpAny_bind (wpAny_rule (wpAny_bind (wpAny_setField ho hd (by simp) ?_)))
  show wpAny _ _ (newExc (.type "StopIteration") [] >>= _) _ _ _
  refine wpAny_bind ?_
  simp only [newExc, newTuple]
  refine wpAny_bind (wpAny_newObj_type ?_ (by size_fits))
  refine wpAny_bind (m := firstArgMember _ _) (wpAny_of_eq (a := Value.none) (by first | rfl | (simp only [firstArgMember]; rfl)) ?_)
  refine wpAny_newObj_type ?_ (by size_fits)
  refine raiseNew_hot ⟨hh, o1, vs1, Heap.get?_push_of_some _ (Heap.get?_push_of_some _ (up x1 o1 ne h1)), d1, c1⟩ (Nat.ne_of_lt (Heap.lt_size (Heap.get?_push_of_some _ (up x1 o1 ne h1)))) (Heap.get?_push_size _ rfl) rfl
    (by first | (simp; done) | (simp; omega) | (simp only [Array.size_append]; simp; omega)) ?_
  refine wpAny_bind (wpAny_isInstance (T := "StopIteration") (b := true) ⟨_, Heap.get?_update_self _ (Heap.get?_push_size _ rfl) rfl, rfl⟩ isSubtype_stop ?_)
  refine wpAny_pure (hQ _ fun b u n e => ?_)
  rw [Heap.get?_update_other _ _ (Nat.ne_of_gt (Heap.lt_size (Heap.get?_push_of_some _ (up b u n e))))]
  exact Heap.get?_push_of_some _ (Heap.get?_push_of_some _ (up b u n e))
end
/-- the handled exception stands apart from what is tracked or fresh -/
theorem hot_ne {X : Cx} {pins : List (Addr × Obj)} {σ : L2.St} {H : Hp} {s : Shared} (c : HotC X) (I : Inv X pins σ H s) {it : Addr} (hf : FpOk X pins H it) : ∃ x1, HotAt X.A x1 s.heap ∧ x1 ≠ it := by
  obtain ⟨p, ⟨hh, v1, e1, c1⟩, hp⟩ := c
  refine ⟨p.1, ⟨hh, p.2, v1, (I.pin p (List.mem_append_left _ hp)).1, e1, c1⟩, fun z => ?_⟩
  exact hf.2.2.2.2.2 p (List.mem_append_left _ hp) z
/-- a list walked there -/
theorem turn_listH {P : Program} {w : World} {K : PySem.W.Frag} {tg : Expr} (a it : Addr) : TurnH P w K tg (Itl K a) [it] it (fun i h => h.IsListIter it a i) where
  mem := List.mem_cons_self
  obj := fun i h st b hb => by
    obtain rfl := List.mem_singleton.mp hb
    obtain ⟨o, e, _, d⟩ := st
    exact ⟨o, e, fun v z => by rw [d] at z; cases z⟩
  keep := fun i h h' st k => st.at fun o e => k it List.mem_cons_self o e
  item := by
    rintro X rfl rfl rfl hc i pins s σ H E I hf st ⟨xs, x, hq, hx⟩
    obtain ⟨its, rv, p, _⟩ := I.list hq
    obtain ⟨u, hu, ru⟩ := rv.get hx
    obtain ⟨g0, g1, g2, g3, g4, g5⟩ := hf it List.mem_cons_self
    refine wpAny_pyNext_list_item st p.isList (x := u) (by simpa using hu) fun h2 st2 sb => ?_
    have J : Inv X pins σ H { s with heap := h2 } := I.turned (t' := s.toks) (fun b o hb e => (sb.2 b hb).trans e) g0 g1 g3 g4 g5
    obtain ⟨o, e, c, d⟩ := id st2
    refine ⟨u, rfl, go_of (s := { s with heap := h2 }) e c d (by decide) ⟨x, H, J, ru, ⟨rfl, fun ys hy => ?_⟩, st2, fun b hb => (hf b hb).1⟩⟩
    rw [J.list_inj hy hq]
    exact hx
  done := by
    rintro X rfl rfl rfl hc i pins s σ H E I hf st ⟨xs, hq, hx⟩
    obtain ⟨its, rv, p, _⟩ := I.list hq
    obtain ⟨g0, g1, g2, g3, g4, g5⟩ := hf it List.mem_cons_self
    obtain ⟨x1, hot, ne⟩ := hot_ne hc I (hf it List.mem_cons_self)
    have hl := rv.length
    exact list_end_hot hot ne st p.isList (by simp; omega) fun h2 eb => ⟨rfl, I.turned (t' := s.toks) (fun b o hb e => eb b o hb e) g0 g1 g3 g4 g5⟩
  self := fun _ _ _ _ _ st h => wpAny_pyIter_listiter st h
theorem pi_listH {X : Cx} {tg l : Expr} {tl : TE} (hl : PE X l tl) : PIH X tg l (iList X.K tl) := by
  refine ⟨fun pins s σ H R I h => ?_⟩
  refine thn (hl.run pins s σ H _ I h) fun v s1 ⟨x, H1, I1, r1, a, e, ⟨xs, hq⟩, q⟩ => ?_
  subst e
  cases r1
  obtain ⟨its, rv, p, _⟩ := I1.list hq
  refine wpAny_pyIter_list p.isList ⟨s1.heap.objs.size, [s1.heap.objs.size], _, _, H1, rfl, I1.kept (t' := s1.toks) fun b o e => Heap.get?_push_of_some _ e, turn_listH a _, ⟨_, Heap.get?_push_size _ rfl, rfl, rfl⟩, fun b hb => ?_, q⟩
  obtain rfl := List.mem_singleton.mp hb
  exact I1.fpOk (Nat.le_refl _) (I1.hok.fresh (Nat.le_refl _))
end DD

namespace DD
open PySem PySem.Spec PyProof.Rows L2 L2H HotX
theorem hot_pin {X : Cx} {pins : List (Addr × Obj)} {σ : L2.St} {H : Hp} {s : Shared} (c : HotC X) (I : Inv X pins σ H s) : ∃ p : Addr × Obj, Hot1 X.A p ∧ PinOk X.stack H s p := by
  obtain ⟨p, h, hp⟩ := c
  have z := I.pin p (List.mem_append_left _ hp)
  exact ⟨p, h, z.1, z.2.1, fun hm => (List.mem_cons.mp (I.stkSub p.1 hm)).elim z.2.2.1 z.2.2.2.1, z.2.2.2.2⟩
/-- [elt for n in iter] of a list, while an exception is handled: each item's result, the heap kept -/
def tLcH (K : PySem.W.Frag) (i : Nat) (ti te : TE) : TE := fun σ H Q => ti σ H fun x H1 => ∃ (a : Addr) (xs ys : List V), x = .ref a ∧ H1 a = some (.lst xs) ∧ ys.length = xs.length ∧ xs.length < 1000000 ∧
  (∀ (k : Nat) (x y : V) (H' : Hp), xs[k]? = some x → ys[k]? = some y → te ((wipe σ [i]).set i (some x)) H' fun z H'' => H'' = H' ∧ z = y) ∧ ∀ D, H1 D = none → Q (.ref D) (upd H1 D (.lst ys))
theorem pe_lcH {X : Cx} {elt iter : Expr} {n : Str} {np pos : Pos} {scope : Scope} {i : Nat} {ti te : TE} (hc : HotC X) (hN : X.N.Nodup) (hi : PE X iter ti) (ok : BlkOk X.N X.env.scope scope [(n, i)]) (hix : X.N[i]? = some n)
    (hl : ∀ (s : Shared) (H : Hp) (C : Addr) (cl : List (Str × Addr)) (fp : List Addr), PG (X.blk s H scope (compEnvC scope cl C X.env) fp) (.Name n np) (gName i))
    (he : ∀ (s : Shared) (H : Hp) (C : Addr) (cl : List (Str × Addr)) (fp : List Addr), PE (X.blk s H scope (compEnvC scope cl C X.env) fp) elt te) (hs : ∀ x, foldedSetIterable iter X.env x = pure x := by intro _; rfl) :
    PE X (.ListComp elt [⟨.Name n np, iter, [], 0⟩] scope pos) (tLcH X.K i ti te) := by
  refine ⟨fun pins s σ H Q I h => ?_⟩
  rw [eval_ListComp]
  have cells : ∀ y ∈ scope.names, y.2 = .free → ∃ c, X.env.cells.lookup y.1 = some c := fun y hy e => I.ok.has _ ((ok.free y hy e).elim .inl .inr)
  refine wpAny_comprehension_free (use := none) rfl hs (closure_ok cells) ok.kind (fun y hy e => by rw [ok.uniq y hy, e]) (thn (hi.run pins s σ H _ I h) fun v1 s1 ⟨x1, H1, I1, r1, a, xs, ys, ex, hq, hly, hlx, step, fin⟩ => ?_)
  subst ex
  cases r1
  obtain ⟨its, rv, pl, _⟩ := I1.list (SqL.of hq)
  refine wpAny_pyIter_list pl.isList ?_
  -- the iterator
  generalize hit : s1.heap.objs.size = it
  have I2 : Inv X pins σ H1 { s1 with heap := s1.heap.push { cls := .type "list_iterator", data := .fields #[.ref a, .int 0 0] } } := I1.kept (t' := s1.toks) fun b o e => Heap.get?_push_of_some _ e
  have st2 : (s1.heap.push { cls := .type "list_iterator", data := .fields #[.ref a, .int 0 0] }).IsListIter it a 0 := by rw [← hit]; exact ⟨_, Heap.get?_push_size _ rfl, rfl, rfl⟩
  have f2 : FpOk X pins H1 it := by rw [← hit]; exact I1.fpOk (Nat.le_refl _) (I1.hok.fresh (Nat.le_refl _))
  generalize hs2 : ({ s1 with heap := s1.heap.push { cls := .type "list_iterator", data := .fields #[.ref a, .int 0 0] } } : Shared) = s2 at I2 st2 ⊢
  have st2 : s2.heap.IsListIter it a 0 := by rw [← hs2]; exact st2
  refine wpAny_newObj_type (newEnv_comp ?_) (by show 0 ≤ sizeLine; decide)
  generalize hD : s2.heap.objs.size = D
  have hDn : H1 D = none := I2.hok.fresh (Nat.le_of_eq hD)
  have aD : a ≠ D := ne_of_none hq hDn
  generalize hs3 : ({ s2 with heap := s2.heap.push { cls := .type "list", data := .seq ([] : List Value).toArray } } : Shared) = s3
  have g3 : ∀ b o, s2.heap.get? b = some o → s3.heap.get? b = some o := fun b o e => by rw [← hs3]; exact Heap.get?_push_of_some _ e
  have I3 : Inv X pins σ (upd H1 D (.lst [])) s3 := by
    rw [← hs3]
    refine I2.laid (t' := s2.toks) (fun b o e => Heap.get?_push_of_some _ e) (Nat.le_of_eq hD) ⟨Nat.zero_le _, [], 0, .nil, ?_⟩
    rw [← hD]
    exact Heap.get?_push_size _ rfl
  have ltI : it < s2.heap.objs.size := by obtain ⟨o, e, _⟩ := st2; exact Heap.lt_size e
  have f3 : FpOk X pins (upd H1 D (.lst [])) it := ⟨by rw [upd_ne (by rw [← hD]; exact Nat.ne_of_lt ltI)]; exact f2.1, f2.2⟩
  have sz3 : it < s3.heap.objs.size := by rw [← hs3]; show it < (s2.heap.push _).objs.size; rw [Heap.size_push]; exact Nat.lt_succ_of_lt ltI
  have I4 := block_start I3 ok hN (fp := [it]) fun b hb => by rw [List.mem_singleton.mp hb]; exact ⟨f3, sz3⟩
  have pg := hl s3 (upd H1 D (.lst [])) s3.heap.objs.size (cellsFrom (s3.heap.objs.size + 1) scope.names (cloFrom X.env.cells scope.names [])) [it]
  have pe := he s3 (upd H1 D (.lst [])) s3.heap.objs.size (cellsFrom (s3.heap.objs.size + 1) scope.names (cloFrom X.env.cells scope.names [])) [it]
  obtain ⟨p, ⟨hh, v0, e0, c0⟩, hpn⟩ := hc
  have pz := I3.pin p (List.mem_append_left _ hpn)
  show codeAny _ _ (.compStart (.ListComp elt [⟨.Name n np, iter, [], 0⟩] scope pos) 0 (.ref it) (.ref D) (compEnvC scope (cellsFrom (s3.heap.objs.size + 1) scope.names (cloFrom X.env.cells scope.names [])) s3.heap.objs.size X.env)) _ { s3 with heap := pushCells (s3.heap.push { cls := .type "dict", data := .dict #[] }) scope.names }
  have cL : (compEnvC scope (cellsFrom (s3.heap.objs.size + 1) scope.names (cloFrom X.env.cells scope.names [])) s3.heap.objs.size X.env).locals = s3.heap.objs.size := rfl
  generalize compEnvC scope (cellsFrom (s3.heap.objs.size + 1) scope.names (cloFrom X.env.cells scope.names [])) s3.heap.objs.size X.env = ce at I4 pg pe cL ⊢
  have g4 : ∀ b o, s3.heap.get? b = some o → (pushCells (s3.heap.push { cls := .type "dict", data := .dict #[] }) scope.names).get? b = some o := fun b o e => pushCells_keeps _ _ _ _ (Heap.get?_push_of_some _ e)
  generalize hs4 : ({ s3 with heap := pushCells (s3.heap.push { cls := .type "dict", data := .dict #[] }) scope.names } : Shared) = s4 at I4 ⊢
  have g4 : ∀ b o, s3.heap.get? b = some o → s4.heap.get? b = some o := fun b o e => by rw [← hs4]; exact g4 b o e
  have st4 : s4.heap.IsListIter it a 0 := st2.at fun o e => g4 _ _ (g3 _ _ e)
  have nit : p.1 ≠ it := f3.2.2.2.2.2 p (List.mem_append_left _ hpn)
  have nD : p.1 ≠ D := fun z => by
    have q := pz.2.1
    rw [z, upd_same] at q
    cases q
  have nL : p.1 ≠ ce.locals := by
    rw [cL]
    exact Nat.ne_of_lt (Heap.lt_size pz.1)
  have nS : p.1 ∉ frs X.stack := fun hm => (List.mem_cons.mp (I3.stkSub p.1 hm)).elim pz.2.2.1 pz.2.2.2.1
  have hIt : upd H1 D (.lst []) it = none := f3.1
  have itD : it ≠ D := by rw [← hD]; exact Nat.ne_of_lt ltI
  have h1it : H1 it = none := f2.1
  have I5 : Inv (X.blk s3 (upd H1 D (.lst [])) scope ce [it]) [p] (wipe σ [i]) (upd H1 D (.lst [])) s4 := I4.pins_of fun q hq => by
    obtain rfl := List.mem_singleton.mp hq
    exact ⟨g4 _ _ pz.1, pz.2.1, nL, nS, pz.2.2.2.2⟩
  have stat : ∀ {σ' : L2.St} {H' : Hp} {s' : Shared}, Inv (X.blk s3 (upd H1 D (.lst [])) scope ce [it]) [p] σ' H' s' → H' it = none → ∀ b ∈ [it], FpOk (X.blk s3 (upd H1 D (.lst [])) scope ce [it]) [p] H' b := fun {σ' H' s'} J hn b hb => by
    obtain rfl := List.mem_singleton.mp hb
    refine ⟨hn, (J.ok.exf b hb).1, J.ok.exfs b hb, .inl hb, fun x c e => (J.ok.exf b hb).2 x c e, fun q hq => ?_⟩
    obtain rfl := List.mem_singleton.mp hq
    exact nit
  have hU : ∀ k, upd (upd H1 D (.lst [])) D (.lst (ys.take k)) = upd H1 D (.lst (ys.take k)) := fun k => by
    funext b
    by_cases z : b = D
    · rw [z, upd_same, upd_same]
    · rw [upd_ne z, upd_ne z, upd_ne z]
  have hU2 : ∀ l l', upd (upd H1 D (.lst l)) D (.lst l') = upd H1 D (.lst l') := fun l l' => by
    funext b
    by_cases z : b = D
    · rw [z, upd_same, upd_same]
    · rw [upd_ne z, upd_ne z, upd_ne z]
  have nIt : ∀ l, upd H1 D (.lst l) it = none := fun l => by rw [upd_ne itD]; exact h1it
  have loop : codeAny (model X.prog X.w) X.A (.compLoop (.ListComp elt [⟨.Name n np, iter, [], 0⟩] scope pos) 0 (.ref it) (.ref D) ce) (compPost (model X.prog X.w) X.A X.xe none (EP X pins σ Q) (.ref D) s3.heap.objs.size) s4 := by
    refine compLoop_any (fun m s' => ∃ k, m = xs.length - k ∧ k ≤ xs.length ∧ Inv (X.blk s3 (upd H1 D (.lst [])) scope ce [it]) [p] (wipe σ [i]) (upd H1 D (.lst (ys.take k))) s' ∧ s'.heap.IsListIter it a k) ?_ xs.length ⟨0, rfl, Nat.zero_le _, I5, st4⟩
    rintro m s5 ⟨k, rfl, hk, J, st5⟩
    have hqa : upd H1 D (.lst (ys.take k)) a = some (.lst xs) := by rw [upd_ne aD]; exact hq
    obtain ⟨its2, rv2, pl2, _⟩ := J.list (SqL.of hqa)
    have hl2 := rv2.length
    obtain ⟨t0, t1, t2, t3, t4, t5⟩ := stat J (nIt _) it List.mem_cons_self
    by_cases hlt : k < xs.length
    · obtain ⟨xk, hxk⟩ : ∃ z, xs[k]? = some z := ⟨_, List.getElem?_eq_getElem hlt⟩
      obtain ⟨yk, hyk⟩ : ∃ z, ys[k]? = some z := ⟨_, List.getElem?_eq_getElem (by omega)⟩
      obtain ⟨u, hu, ru⟩ := rv2.get hxk
      refine wpAny_pyNext_list_item st5 pl2.isList (x := u) (by simpa using hu) fun h6 st6 sb => ?_
      have J6 : Inv (X.blk s3 (upd H1 D (.lst [])) scope ce [it]) [p] (wipe σ [i]) (upd H1 D (.lst (ys.take k))) { s5 with heap := h6 } := J.turned (t' := s5.toks) (fun b o hb e => (sb.2 b hb).trans e) t0 t1 t3 t4 t5
      obtain ⟨o6, e6, c6, d6⟩ := id st6
      refine go_of (s := { s5 with heap := h6 }) e6 c6 d6 (by decide) ?_
      have J7 := J6.pinned (stat J6 (nIt _)) fun b hb => by
        obtain rfl := List.mem_singleton.mp hb
        exact ⟨o6, e6, fun v z => by rw [d6] at z; cases z⟩
      refine thnF (pg.run _ _ _ _ xk u (fun σ2 H2 => σ2 = (wipe σ [i]).set i (some xk) ∧ H2 = upd H1 D (.lst (ys.take k))) J7 ru ⟨rfl, rfl⟩) fun _ s8 ⟨σ8, H8, J8, e8, e9⟩ => ?_
      subst e8 e9
      refine wpAny_tests_nil ?_
      simp only [if_true]
      refine thnF (pe.run _ s8 _ _ _ J8 (step k xk yk _ hxk hyk)) fun z s10 ⟨yv, H10, J10, r10, e10, e11⟩ => ?_
      subst e10 e11
      have hyl : (ys.take k).length = k := by rw [List.length_take]; omega
      refine app_ok (X := X.blk s3 (upd H1 D (.lst [])) scope ce [it]) J10 upd_same (by rw [hyl, sizeLine_eq]; omega) r10 fun s11 J11 => ⟨xs.length - (k + 1), by omega, k + 1, rfl, hlt, ?_, ?_⟩
      · rw [hU2, show ys.take k ++ [yv] = ys.take (k + 1) by rw [List.take_succ, hyk]; rfl] at J11
        refine (J11.unpinned (pins := [p])).weak (by rw [List.length_set]) fun j v e => ?_
        have hw : (wipe σ [i])[j]? = some (some v) := e
        by_cases hj : j = i
        · exfalso
          rw [hj] at hw
          unfold wipe at hw
          unfold wipe at hw
          rw [List.getElem?_set] at hw
          split at hw
          · split at hw <;> cases hw
          · contradiction
        · rw [List.getElem?_set_ne (Ne.symm hj)]
          exact hw
      · exact st6.at fun o e => (J11.pin (it, o) (List.mem_append_right _ (List.mem_append_right _ (mem_pinsAt List.mem_cons_self e)))).1
    · have hke : k = xs.length := by omega
      subst hke
      have hot : HotAt X.A p.1 s5.heap := ⟨hh, p.2, v0, (J.pin p (List.mem_append_right _ List.mem_cons_self)).1, e0, c0⟩
      refine list_end_hot hot nit st5 pl2.isList (by simp; omega) fun h6 eb => ?_
      have J6 : Inv (X.blk s3 (upd H1 D (.lst [])) scope ce [it]) [p] (wipe σ [i]) (upd H1 D (.lst (ys.take xs.length))) { s5 with heap := h6 } := J.turned (t' := s5.toks) (fun b o hb e => eb b o hb e) t0 t1 t3 t4 t5
      rw [List.take_of_length_le (by omega)] at J6
      have B : Inv X pins σ (upd H1 D (.lst ys)) { s5 with heap := h6 } := I3.call' (ch := [it]) J6.os J6.base J6.hok J6.bare fun b hb => by
        obtain rfl := List.mem_singleton.mp hb
        exact ⟨f3.2.2.2.1, f3.2.1, f3.2.2.2.2.1, f3.2.2.2.2.2⟩
      have nC : upd H1 D (.lst ys) s3.heap.objs.size = none := by
        have z : upd H1 D (.lst ys) ce.locals = none := J6.free
        rw [cL] at z
        exact z
      obtain ⟨m6, hn6, _⟩ := J6.loc
      have hn6 : h6.Ns ce.locals m6 := hn6
      rw [cL] at hn6
      obtain ⟨w0, w1, w2, w3, w4, w5⟩ := I3.fpOk (Nat.le_refl _) nC
      exact ⟨m6, hn6, fun h7 sb => ⟨.ref D, _, B.turned (t' := s5.toks) (fun b o hb e => (sb.2 b hb).trans e) w0 w1 w3 w4 w5, rfl, fin D hDn⟩⟩
  exact codeAny_compStart_list loop (wpAny_pyIter_listiter st4 loop)
end DD

namespace DD
open PySem PySem.Spec PyProof.Rows L2 L2H HotX
theorem presum_list (ns : List Int) : ∀ k, k ≤ ns.length → preSum (fun j => ns.getD j 0) k = (ns.take k).sum
  | 0, _ => by simp [preSum]
  | k + 1, h => by
    have hk : ns[k]? = some ns[k] := List.getElem?_eq_getElem (by omega)
    rw [preSum, presum_list ns k (by omega), List.take_succ, hk, List.sum_append, List.getD_eq_getElem?_getD, hk]
    simp
theorem vals_int {ns : List Int} {us : List Value} (r : Vals (ns.map V.int) us) {k : Nat} {v : Value} (e : us[k]? = some v) : ∃ t, v = .int (ns.getD k 0) t := by
  have hl := r.length
  have hk : k < us.length := (List.getElem?_eq_some_iff.mp e).1
  rw [List.length_map] at hl
  have hn : (ns.map V.int)[k]? = some (.int (ns[k]'(by omega))) := by rw [List.getElem?_map, List.getElem?_eq_getElem (by omega)]; rfl
  obtain ⟨u, hu, ru⟩ := r.get hn
  rw [e] at hu
  obtain rfl := Option.some.inj hu
  obtain ⟨t, rfl⟩ := ru
  exact ⟨t, by rw [List.getD_eq_getElem?_getD, List.getElem?_eq_getElem (by omega)]; rfl⟩
/-- sum(xs) of a list of ints, while an exception is handled -/
theorem cr_sumH {X : Cx} (hc : HotC X) : CallR X (.builtin "sum") (rSum X.K) := by
  intro pins s σ H vs us Q I r h
  obtain ⟨a, ns, rfl, hs, q⟩ := h
  obtain ⟨its, rv, pl, _⟩ := I.list hs
  have hlen := rv.length
  rw [List.length_map] at hlen
  obtain ⟨p, ⟨hh, v0, e0, c0⟩, pz⟩ := hot_pin hc I
  rw [Vals.ref1 r]
  have la : a < s.heap.objs.size := by obtain ⟨_, e, _⟩ := pl.isList; exact Heap.lt_size e
  refine call_sum_walkAnyS (wpAny_pyIter_list pl.isList ?_)
  generalize hit : s.heap.objs.size = it
  have st : (s.heap.push { cls := .type "list_iterator", data := .fields #[.ref a, .int 0 0] }).IsListIter it a 0 := by rw [← hit]; exact ⟨_, Heap.get?_push_size _ rfl, rfl, rfl⟩
  have nai : a ≠ it := by rw [← hit]; exact Nat.ne_of_lt la
  have npi : p.1 ≠ it := by rw [← hit]; exact Nat.ne_of_lt (Heap.lt_size pz.get)
  refine ⟨it, [it, a, p.1], [it], fun x y => y = x, its.toArray.size, fun k v => its.toArray[k]? = some v, fun k s' => s'.heap.IsListIter it a k ∧ s'.heap.IsList a its.toArray ∧ s'.heap.get? p.1 = some p.2, fun j => ns.getD j 0, rfl, ?_, ⟨st, pl.isList.push _, Heap.get?_push_of_some _ pz.get⟩, fun b hb => ?_, fun k v e => vals_int rv (by simpa using e), fun s' t' m => ?_⟩
  · refine ⟨fun b hb => by rw [List.mem_singleton.mp hb]; exact List.mem_cons_self, fun _ => rfl, fun x y z e1 e2 => e2.trans e1, fun k s1 h' tk z _ kp => ⟨z.1.at fun o e => kp it (by simp) o e, z.2.1.at fun o e => kp a (by simp) o e, kp p.1 (by simp) _ z.2.2⟩, fun k s1 Q E hk z hQ => ?_, fun s1 Q E z hQ => ?_, fun k s1 Q E z hQ => wpAny_pyIter_listiter z.1 hQ⟩
    · refine wpAny_pyNext_list_item z.1 z.2.1 (x := its.toArray[k]) (Array.getElem?_eq_getElem hk) fun h' st' sb => hQ _ { s1 with heap := h' } (Array.getElem?_eq_getElem hk) ⟨st', z.2.1.extBut sb.extBut nai, sb.extBut _ _ npi z.2.2⟩ ?_
      exact ⟨fun b o hb e => sb.extBut b o (fun h => hb (by rw [h]; exact List.mem_cons_self)) e, rfl, rfl, rfl, Nat.le_refl _⟩
    · refine list_end_hot ⟨hh, p.2, v0, z.2.2, e0, c0⟩ npi z.1 z.2.1 (Array.getElem?_eq_none (Nat.le_refl _)) fun h' eb => hQ { s1 with heap := h' } ?_
      exact ⟨fun b o hb e => eb b o (fun h => hb (by rw [h]; exact List.mem_cons_self)) e, rfl, rfl, rfl, Nat.le_refl _⟩
  · show b < (s.heap.push _).objs.size
    rw [Heap.size_push]
    simp only [List.mem_cons, List.not_mem_nil, or_false] at hb
    have lp := Heap.lt_size pz.get
    rcases hb with e | e | e
    · rw [e, ← hit]; exact Nat.lt_succ_self _
    · rw [e]; exact Nat.lt_succ_of_lt la
    · rw [e]; exact Nat.lt_succ_of_lt lp
  · have I2 : Inv X pins σ H s' := by
      obtain ⟨m1, m2, m3, m4, m5⟩ := m
      obtain ⟨hp, gs, dr, tk, os⟩ := s'
      have e1 : gs = s.gens := m2
      have e2 : dr = s.drawn := m3
      have e3 : os = s.os := m4
      subst e1 e2 e3
      exact I.kept (t' := tk) fun b o e => m1 b o (fun hb => by
        have := Heap.lt_size e
        rw [List.mem_singleton.mp hb, ← hit] at this
        exact Nat.lt_irrefl _ this) (Heap.get?_push_of_some _ e)
    have e : preSum (fun j => ns.getD j 0) its.toArray.size = ns.sum := by
      rw [presum_list ns _ (by simp; omega), List.take_of_length_le (by simp; omega)]
    refine ⟨.int ns.sum, H, I2, ⟨t', ?_⟩, q⟩
    rw [e]
end DD

namespace DD
open PySem PySem.Spec PyProof.Rows L2 L2H HotX LamX
/-- all but the table at P stays, the table too tells what it told -/
structure Laid (P : Addr) (q : Str) (H H' : Hp) : Prop where
  keep : ∀ b o, b ≠ P → H b = some o → H' b = some o
  tab : TabS H' P q
section
variable {X : Cx} {pins : List (Addr × Obj)} {σ : L2.St} {H : Hp} {s : Shared}
theorem tab_more {P c' : Addr} {q : Str} {ps : Array Value} {pos : Pos} (hP : H P = some (.tbl ps)) (ht : TriplesOk ps.toList) (ha : ∀ (pos : Pos) (cv : Value), codeAmong pos ps.toList = some cv → ∃ c, cv = .ref c ∧ H c = some (CodeO c q)) (nC : H c' = none) :
    Laid P q H (upd (upd H P (.tbl (ps ++ #[rawInt pos.line, rawInt pos.col, .ref c']))) c' (CodeO c' q)) := by
  have kp : ∀ b o, b ≠ P → H b = some o → upd (upd H P (.tbl (ps ++ #[rawInt pos.line, rawInt pos.col, .ref c']))) c' (CodeO c' q) b = some o := fun b o n e => by
    rw [upd_ne (ne_of_none e nC), upd_ne n]
    exact e
  have el : (ps ++ #[rawInt pos.line, rawInt pos.col, .ref c']).toList = ps.toList ++ [rawInt pos.line, rawInt pos.col, .ref c'] := by simp
  refine ⟨kp, _, by rw [upd_ne (ne_of_none hP nC), upd_same], by rw [el]; exact PySem.TriplesOk_snoc _ _ _ _ ht, fun p2 cv h => ?_⟩
  rw [el] at h
  rcases among_app _ ht h with z | z
  · obtain ⟨d, e1, e2⟩ := ha p2 cv z
    exact ⟨d, e1, kp _ _ (fun y => by rw [y, hP] at e2; unfold CodeO at e2; cases e2) e2⟩
  · exact ⟨c', z, upd_same⟩
theorem lam_mk {c P : Addr} {params : Arguments} {body : Expr} {scope : Scope} {pos : Pos} {E Q : Value → Shared → Prop} (I : Inv X pins σ H s) (TB : TabB X.base X.mg c P) (hcode : X.env.code = .ref c) (hT : TabS H P (X.env.qual ++ "<lambda>"))
    (hdef : defaultsOf params X.env = ([], [])) (hfree : ∀ y ∈ scope.names, y.2 = .free → ∃ c, X.env.cells.lookup y.1 = some c)
    (h : ∀ (f c' : Addr) (pm ctv : Value) (H1 : Hp) (s' : Shared), Inv X pins σ H1 s' → Laid P (X.env.qual ++ "<lambda>") H H1 →
      s'.heap.get? f = some (PySem.W.kla_obj "<lambda>" (X.env.qual ++ "<lambda>") params body scope (cloFrom X.env.cells scope.names []) pm c' ctv) → H1 f = none → f ∉ frs X.stack → H1 c' = some (CodeO c' (X.env.qual ++ "<lambda>")) → Q (.ref f) s') :
    wpAny (model X.prog X.w) X.A (eval (.Lambda params body scope pos) X.env) Q E s := by
  obtain ⟨ps, hP, ht, ha⟩ := id hT
  have atP : s.heap.get? P = some { cls := .none, data := .fields ps } := I.hok P _ hP
  have out : ∀ f, s.heap.objs.size ≤ f → f ∉ frs X.stack := fun f hf z => (List.mem_cons.mp (I.stkSub _ z)).elim (fun e => Nat.lt_irrefl _ (Nat.lt_of_lt_of_le (by rw [e]; exact I.lt) hf)) (I.nofs hf)
  refine PySem.W.kla_eval hdef ?_
  cases hc : codeAmong pos ps.toList with
  | some cv =>
    obtain ⟨c', e, hco⟩ := ha pos cv hc
    subst e
    refine PySem.W.kla_makeFunctionHit (mg := X.mg) (c := c) (P := P) (ps := ps) (closure_ok hfree) I.ok.glob (I.mod.glob.keeps I.bk) hcode (TB.code.keeps I.bk) atP ht hc (TB.bm.keeps I.bk) fun ctv h' tk hx hsz => ?_
    exact h h'.objs.size c' ((X.mg "__name__").getD .none) ctv H _ (I.kept (t' := tk) fun b o e => Heap.get?_push_of_some _ (hx b o e)) ⟨fun _ _ _ e => e, hT⟩ (Heap.get?_push_size _ rfl) (I.hok.fresh hsz) (out _ hsz) hco
  | none =>
    refine PySem.W.kla_makeFunction (mg := X.mg) (c := c) (P := P) (ps := ps) (closure_ok hfree) I.ok.glob (I.mod.glob.keeps I.bk) hcode (TB.code.keeps I.bk) atP ht hc TB.gP (TB.bm.keeps I.bk) fun c' ctv h' tk hx hge hlt hrec htb => ?_
    obtain ⟨c2, oc, vs, t, e2, hoc, hd, hv⟩ := hrec
    cases e2
    have hsz : s.heap.objs.size ≤ h'.objs.size := Nat.le_trans hge (Nat.le_of_lt hlt)
    have nC : H c' = none := I.hok.fresh hge
    have J := inv_table (t' := tk) (more := #[rawInt pos.line, rawInt pos.col, .ref c']) (h' := h'.push (PySem.W.kla_obj "<lambda>" (X.env.qual ++ "<lambda>") params body scope (cloFrom X.env.cells scope.names []) ((X.mg "__name__").getD .none) c' ctv)) I hP (fun b o hb e => Heap.get?_push_of_some _ (hx b o hb e)) (Heap.get?_push_of_some _ htb) hge ⟨oc, vs, t, Heap.get?_push_of_some _ hoc, hd, hv⟩
    refine h h'.objs.size c' ((X.mg "__name__").getD .none) ctv _ _ J (tab_more hP ht ha nC) (Heap.get?_push_size _ rfl) ?_ (out _ hsz) upd_same
    rw [upd_ne (Nat.ne_of_gt hlt), upd_ne (Nat.ne_of_gt (Nat.lt_of_lt_of_le (Heap.lt_size atP) hsz))]
    exact I.hok.fresh hsz
end
/-! ### the lambda's body, its exceptions as ExcCtx has them -/
def lamN (X : Cx) (A : Around) (outer : List PySem.Env) (s : Shared) (H : Hp) (E : XK) (scope : Scope) (f c' : Addr) : Cx :=
  { lamCx X A outer s H E scope f c' with
    xe := fun e s' => wpAny (model X.prog X.w) (A.deeper (lamEnv X scope s.heap.objs.size f c')) (leaving (lamEnv X scope s.heap.objs.size f c') e) (fun _ s'' => L2N.CX X.prog X.w outer H s E e s'') (fun e' s'' => L2N.CX X.prog X.w outer H s E e' s'') s' }
theorem toN {X : Cx} {A : Around} {outer : List PySem.Env} {s s' : Shared} {H H' : Hp} {E : XK} {scope : Scope} {f c' : Addr} {pins : List (Addr × Obj)} {σ : L2.St} (I : Inv (lamCx X A outer s H E scope f c') pins σ H' s') : Inv (lamN X A outer s H E scope f c') pins σ H' s' :=
  let z := I.ok
  ⟨⟨z.mod, z.kind, z.glob, z.blt, z.above, z.inj, z.has, z.cab, z.hd, z.frames, z.stk, z.exf, z.bs, z.bsz, z.noex, z.exfs, z.funs, z.frf⟩, I.os, I.bare, I.base, I.loc, I.cell, I.free, I.freeC, I.pin, I.hok, I.len⟩
section
variable {X : Cx} {pins : List (Addr × Obj)} {σ : L2.St} {H HZ : Hp} {s : Shared}
theorem actN {CXg : CXT} {Eg : XK} {Ng : List Str} {qg : Str} {sg : Scope} {g f c' : Addr} {cdg pm ctv : Value} {params : Arguments} {body : Expr} {scope : Scope} {k i : Nat} {a : Str} {pn : List (Addr × Obj)} {xe : Value → Shared → Prop} {W : WX} {E : XK} {tb : Hp → TE} {p1 p2 : Pos}
    (I : Inv X pins σ H s) (L : LamS X.env.scope scope) (hf : s.heap.get? f = some (PySem.W.kla_obj "<lambda>" (X.env.qual ++ "<lambda>") params body scope (cloFrom X.env.cells scope.names []) pm c' ctv)) (hfn : H f = none) (hfr : f ∉ frs X.stack)
    (hbind : bindArgs (PySem.W.kla_fn "<lambda>" (X.env.qual ++ "<lambda>") params body scope (cloFrom X.env.cells scope.names []) pm (.ref c') ctv) ⟨[], []⟩ = pure [])
    (tk : L2N.Takes ((cxOf CXg X.prog X.w X.K X.mg X.base Ng qg sg g cdg X.A X.stack s H Eg).tr pn xe) W) (hr : Room (k + 1) (X.A.deeper (envOfC qg sg s.heap.objs.size g cdg)))
    (hbody : ∀ (A : Around) (outer : List PySem.Env) (s : Shared) (H : Hp), Room k (A.deeper (lamEnv X scope s.heap.objs.size f c')) → PE (lamN X A outer s H E scope f c') body (tb H))
    (hN : Ng[i]? = some a) (hv : Vis sg a) (hd : (a == ("__debug__" : Str)) = false := by decide) (hcd : (a == ("__classdict__" : Str)) = false := by decide) :
    PE ((cxOf CXg X.prog X.w X.K X.mg X.base Ng qg sg g cdg X.A X.stack s H Eg).tr pn xe) (.Call (.Name a p1) [] [] p2)
      (fun σZ HZ Q => σZ[i]? = some (some (.ref f)) ∧ HZ c' = some (CodeO c' (X.env.qual ++ "<lambda>")) ∧ (∀ cls d H', E cls d H' → W cls d σZ H') ∧ tb HZ σ HZ Q) := by
  refine ⟨fun pz sz σz Hz Q Iz ⟨e1, e2, hW, e3⟩ => ?_⟩
  refine wpAny_Call_Name_kw (thn ((pe_var (pos := p1) (i := i) hN hv hd hcd).run pz sz σz Hz (fun v H1 => v = .ref f ∧ H1 = Hz) Iz ⟨.ref f, e1, rfl, rfl⟩) fun u s1 ⟨v, H1, J, r1, ev, eh⟩ => ?_)
  subst ev eh
  obtain rfl : u = Value.ref f := r1
  have atF := J.base.keep f _ hf hfn hfr (fun z => nomatch (show f ∈ ([] : List Addr) from z))
  refine PySem.W.callWith_F0 ⟨_, _, _, _, atF⟩ ?_
  obtain ⟨⟨oc, vs, t, hoc, hdc, hvc⟩, _, _⟩ := J.hok c' _ e2
  have run : codeAny (model X.prog X.w) (X.A.deeper (envOfC qg sg s.heap.objs.size g cdg)) (.call (.ref f) ⟨[], []⟩) (CR (L2N.CX X.prog X.w) (envOfC qg sg s.heap.objs.size g cdg :: X.stack) X.prog X.w H1 s1 Q E) s1 := by
    refine PySem.W.kla_callFunE hr.depth atF rfl L.co L.gen rfl ⟨c', oc, vs, t, rfl, hoc, hdc, hvc⟩ ?_
    rw [hbind]
    refine wpAny_pure (wpAny_newFunctionEnv (fun y hy => (L.own y hy).2) (fun y hy => absurd hy (by simp)) (fun h₁ hns hsb => ⟨J.nolimit.fresh _ hsb, ?_⟩) L.kind)
    show codeAny _ _ (.expr body (lamEnv X scope s1.heap.objs.size f c')) _ _
    have kp : ∀ b o, s1.heap.get? b = some o → h₁.get? b = some o := fun b o e => hsb.extBut b o (Nat.ne_of_lt (Heap.lt_size e)) (Heap.get?_push_of_some _ e)
    have Z : Inv (lamN X (X.A.deeper (envOfC qg sg s.heap.objs.size g cdg)) (envOfC qg sg s.heap.objs.size g cdg :: X.stack) s1 H1 E scope f c') [] σ H1 { s1 with heap := h₁, toks := s1.toks + ([] : List (Str × Value)).length } :=
      toN (lam_start2 I L J.env0 hr.hd J.base hns kp)
    refine PySem.W.kla_codeExpr (wpAny_mono ((hbody _ _ s1 H1 (hr.deeper _)).run [] _ _ H1 Q Z e3) (fun v s' hq => ?_) fun e s' hq => hq)
    obtain ⟨w', H', Z', rv, q⟩ := hq
    exact ⟨w', H', Z'.os, Z'.bare, Z'.base, Z'.hok, rv, q⟩
  refine wpAny_call (codeAny_mono run fun r s' hq => ?_)
  cases r with
  | error e => exact tk e s' (L2N.XE.of_call J hW hq)
  | ok fl =>
    cases fl with
    | ret u => exact J.after hq
    | next => exact False.elim hq
    | brk => exact False.elim hq
    | cont => exact False.elim hq
end
end DD

namespace DD
open PySem PySem.Spec PyProof.Rows L2 L2H HotX LamX
/-- a def entered while p is handled -/
theorem run_hot {CX : CXT} {P : Program} {w : World} {K : PySem.W.Frag} {mg : Str → Option Value} {base : Heap} {k : Nat} {f : Addr} {name qual : Str} {params : Arguments} {body : List Stmt} {scope : Scope} {dV kV doc pm cdv ct oc : Value} {an od : Option Addr}
    {osl : Array (Option Value)} {N ps : List Str} (lk : K.lookup f = some ⟨oc, od, .func (PySem.W.fnOf name qual params body scope dV kV doc pm an cdv ct), osl⟩) (hcd : PySem.W.codeIn K cdv qual = true) (S : FnScope N ps scope)
    {A : Around} {outer : List PySem.Env} {s : Shared} {H : Hp} {args : Args} {us : List Value} {vs : List V} {Q : VK} {E : XK} {p : Addr × Obj} (hr : RoomH (k + 1) A) (hpin : PinOk outer H s p) (e0 : Env0 P w K mg base A outer s H)
    (hb : BindsTo s (PySem.W.fnOf name qual params body scope dV kV doc pm an cdv ct) args (ps.zip us)) (r : Vals vs us) (hl : vs.length = ps.length)
    (hbody : RoomH k (A.deeper (envOfC qual scope s.heap.objs.size f cdv)) → ∃ t, PSs (cxH CX P w K mg base N qual scope f cdv A outer s H E p) body t ∧ t { nx := fun _ H' => Q .non H', rt := Q } (L2.start N vs) H) :
    codeAny (model P w) A (.call (.ref f) args) (CR CX outer P w H s Q E) s := by
  have kin : K.In s.heap := e0.mod.kin.keeps fun b o e => (e0.bs b o e).1
  have lim : s.heap.NoLimit := e0.mod.nolimit.keeps fun b o e => (e0.bs b o e).1
  refine codeAny_call_function hr.depth (kin _ _ lk) rfl S.co S.gen rfl (PySem.W.codeRec_of kin hcd) (hb _ _ _ _ ?_)
  refine wpAny_newFunctionEnv_cells S.kind (fun ⟨n, v⟩ hy => ?_) fun env he s1 x => ?_
  · rcases S.par n (List.of_mem_zip hy).1 with q | q
    · exact .inl q
    · exact .inr ⟨q, PySem.W.cellsFrom_some _ _ _ (.inl q)⟩
  subst he
  refine ⟨lim.keeps x.toInCall.keep, codeAny_func ?_⟩
  obtain ⟨t, ht, hq⟩ := hbody (hr.deeper _)
  refine wpAny_mono (ht.run [] s1 (L2.start N vs) H _ (inv_startH S hpin e0 hl r x) hq) (fun fl s' hs => ?_) fun e s' hs => hs
  cases fl with
  | ret u => obtain ⟨v, σ', H', J, rv, q⟩ := hs; exact ⟨v, H', J.os, J.bare, J.base, J.hok, rv, q⟩
  | next => obtain ⟨σ', H', J, q⟩ := hs; exact ⟨V.non, H', J.os, J.bare, J.base, J.hok, rfl, q⟩
  | brk => obtain ⟨_, _, _, q⟩ := hs; exact False.elim q
  | cont => obtain ⟨_, _, _, q⟩ := hs; exact False.elim q
theorem call_isP {X : Cx} {a D : Addr} {oe : Obj} (C : ExcC X.K D) (hz : Zc (.ref D) none oe) (hf : ∃ vs, oe.data = .fields vs) (hp : (a, oe) ∈ X.pn) : CallR X (.builtin "isinstance") (rIsE X.K D a) := by
  rintro pins s σ H xs us Q I r ⟨c, cv, b, rfl, hcv, e, q⟩
  cases r with
  | cons rx rr =>
    cases rr with
    | cons rt rr =>
      cases rr
      cases rx
      obtain rfl := hcv _ rt
      obtain ⟨here, _⟩ := I.pin (a, oe) (List.mem_append_left _ hp)
      obtain ⟨vs, hv⟩ := hf
      have J : PySem.W.InstAt s.heap a oe D none := by
        obtain ⟨oc, od, oda, osl⟩ := oe
        obtain ⟨h1, h2⟩ := hz
        dsimp only at h1 h2 hv
        subst h1 h2 hv
        exact ⟨here, rfl, rfl, trivial⟩
      exact PySem.W.kia_one (PySem.W.handS_kitx_exc C.hg C.hk C.hs C.hd C.ha C.hn C.ht C.hm) I.kIn J e (fun z => nomatch z) fun tk => ⟨.bl b, H, I.kept (t' := tk) fun _ _ z => z, rfl, q⟩
section
variable {C : Ct} {Ξ : Addr → Prop} {ρ : Rho} {pos p p1 p2 : Pos}
theorem raw_at {C : Ct} {ρ : Rho} {σ : L2.St} {H : Hp} {v : V} {i : Nat} (E : Env C ρ σ H) (h : gt ρ i = .raw v) : σ[i]? = some (some v) := by
  have s := E.slot i
  rw [h] at s
  have s : σ.getD i none = some v := s
  rw [List.getD_eq_getElem?_getD] at s
  cases q : σ[i]? with
  | none => rw [q] at s; cases s
  | some o => rw [q] at s; exact congrArg some s
theorem de_isE (i : Nat) {e x : Str} {a D : Addr} {oe : Obj} {c : V} {cv : Value} {b : Bool} (F : ExcC C.X.K D) (hz : Zc (.ref D) none oe) (hf : ∃ vs, oe.data = .fields vs) (hp : (a, oe) ∈ C.X.pn) (hs : gt ρ i = .raw (.ref a)) (hN : C.X.N[i]? = some e) (hv : Vis C.X.env.scope e)
    (hx : PE C.X (.Name x p2) (tC c)) (hc : ∀ u, RelV c u → u = cv) (hk : PySem.W.kitOne C.X.K (.ref D) cv = some b) (hg : Gl C.X "isinstance") (hm : C.X.mg "isinstance" = none)
    (hd : (e == ("__debug__" : Str)) = false := by decide) (hcd : (e == ("__classdict__" : Str)) = false := by decide) (he : starEach [.Name e p1, .Name x p2] C.X.env = (false, eval (.Name e p1) C.X.env) :: starEach [.Name x p2] C.X.env := by rfl) (he2 : starEach [.Name x p2] C.X.env = (false, eval (.Name x p2) C.X.env) :: starEach [] C.X.env := by rfl)
    (hpl : (backTo pos (starEach [.Name x p2] C.X.env)).any (·.1) = false := by rfl) : DEd C Ξ ρ (.Call (.Name "isinstance" p) [.Name e p1, .Name x p2] [] pos) (.bool b) := fun σ H E Q q z =>
  ⟨_, pe_callB (call_isP F hz hf hp) hg hm b_isi (pa_cons (pe_var hN hv hd hcd) (pa_cons hx pa_nil he2) he) (by decide) (by decide) he hpl, _, raw_at E hs, c, cv, b, rfl, hc, hk, q _ _ H rfl (Gr.refl _ _) (.bl b)⟩
/-- xs.index(x) -/
theorem de_index (j : Nat) {o e : Expr} {apos cpos : Pos} {ds : List PyData} {d z : PyData} (hu : C.X.A.units + 65 < cLine) (ho : DEd C Ξ ρ o (.list ds)) (ha : DEd C Ξ ρ e d) (sl : SeqAt.shaped (.list ds) = true) (sd : SeqAt.shaped d = true) (hz : ds[j]? = some z) (hzj : PyData.eqv z d = true)
    (hno : ∀ (m : Nat) (z' : PyData), m < j → ds[m]? = some z' → PyData.eqv z' d = false) (hbase : attributeBase o "index" C.X.env (eval o C.X.env) = eval o C.X.env := by rfl)
    (hfew : ((backTo cpos (starEach [e] C.X.env)).all (fun x => !x.1) && (backToKw cpos (keywordEach [] C.X.env)).all (fun x => x.1.isSome) && decide ([e].length + ([] : List Keyword).length + (if ([] : List Keyword).isEmpty then 0 else 1) < 30)) = true := by rfl)
    (hline : (apos.endLine == cpos.line) = true := by rfl) (hs : starEach [e] C.X.env = (false, eval e C.X.env) :: starEach [] C.X.env := by rfl) (hplain : (backTo cpos (starEach [] C.X.env)).any (·.1) = false := by rfl) :
    DEd C Ξ ρ (.Call (.Attribute o "index" apos) [e] [] cpos) (.int j) := fun σ H E Q q z0 =>
  ⟨_, pe_bm PySem.F.plainAttrs_list PySem.F.slot_list_index PySem.F.type_list_index (mt_indexD hu) pE pA hbase hfew hline hs hplain, ho σ H E _ (fun d1 v H2 p1 g1 r1 => by
    subst p1
    obtain ⟨a, xs, rfl, h1, h2⟩ := r1.ref_list
    refine ⟨.inl ⟨rfl, xs, SqL.of (hid_le _ _ h1)⟩, da_cons ha da_nil hs σ H2 (E.grow g1) _ (fun l vs H3 p2 g2 r2 => ?_) fun c H3 x g2 => z0 c H3 x (g1.trans g2)⟩
    subst p2
    obtain ⟨u, rfl, ru⟩ := r2.ats.one
    have h1' := vis_gr g2 _ _ h1
    exact ⟨a, u, d, ds, j, z, rfl, rfl, .lst (SqL.of (hid_le _ _ h1')) (AtAll.dp' _ _ _ (by have := nod_lay _ (SeqAt.canLay_of_shaped sl); rw [nod] at this; exact this) ((h2.up (vis_gr g2)).up hid_le)), Ct.dpv sd ru, sl, sd, hz, hzj, hno, q _ _ H3 rfl (g1.trans g2) (.int _)⟩) z0⟩
theorem de_sumH {e : Expr} {ns : List Int} (hot : HotC C.X) (hg : Gl C.X "sum") (hm : C.X.mg "sum" = none) (ha : DEd C Ξ ρ e (.list (ns.map .int))) (he : starEach [e] C.X.env = (false, eval e C.X.env) :: starEach [] C.X.env := by rfl) : DEd C Ξ ρ (.Call (.Name "sum" p) [e] [] pos) (.int ns.sum) :=
  de_cb (cr_sumH hot) hg hm b_sum (da_cons ha da_nil he) rc_sum (he := he)
def bI (b : Bool) : Int := if b then 1 else 0
theorem de_flags (i : Nat) {x : Str} {iter : Expr} {bs : List Bool} {scope : Scope} {px p3 p4 : Pos} (hot : HotC C.X) (hN : C.X.N.Nodup) (ok : BlkOk C.X.N C.X.env.scope scope [(x, i)]) (hi : DEd C Ξ ρ iter (.list (bs.map .bool))) (hz : bs.length < 1000000) (hl : i < ρ.length) (hix : C.X.N[i]? = some x)
    (hx : ∀ (s : Shared) (H : Hp) (Cc : Addr) (cl : List (Str × Addr)) (fp : List Addr), (compEnvC scope cl Cc C.X.env).scope.names.lookup x = some .local) (hg : ∀ (s : Shared) (H : Hp) (Cc : Addr) (cl : List (Str × Addr)) (fp : List Addr), Gl (C.X.blk s H scope (compEnvC scope cl Cc C.X.env) fp) "int") (hm : C.X.mg "int" = none)
    (hd : (x == ("__debug__" : Str)) = false := by decide) (hcd : (x == ("__classdict__" : Str)) = false := by decide) (hs : ∀ x, foldedSetIterable iter C.X.env x = pure x := by intro _; rfl) :
    DEd C Ξ ρ (.ListComp (.Call (.Name "int" p3) [.Name x p4] [] p) [⟨.Name x px, iter, [], 0⟩] scope pos) (.list (bs.map fun b => .int (bI b))) := fun σ H E Q q z =>
  ⟨_, pe_lcH hot hN pE ok hix (fun s H Cc cl fp => pg_name hN hix (.inl (hx s H Cc cl fp)) (.inr (hx s H Cc cl fp))) (fun s H Cc cl fp => pe_callTy call_int1 (hg s H Cc cl fp) hm b_int (pa_cons (pe_var hix (.inl (hx s H Cc cl fp)) hd hcd) pa_nil)) hs, hi σ H E _ (fun d v H2 pd g r => by
    subst pd
    obtain ⟨a, xs, rfl, h1, h2⟩ := r.ref_list
    obtain rfl := h2.bls
    have hi2 : i < (wipe σ [i]).length := by
      rw [wipe_length, E.len]
      exact hl
    refine ⟨a, _, bs.map fun b => .int (bI b), rfl, hid_le _ _ h1, by rw [List.length_map, List.length_map], by rw [List.length_map]; exact hz, fun k x y H' e1 e2 => ?_, fun D hD => ?_⟩
    · rw [List.getElem?_map] at e1 e2
      cases hb : bs[k]? with
      | none => rw [hb] at e1; cases e1
      | some b =>
        rw [hb] at e1 e2
        cases e1
        cases e2
        exact ⟨.bl b, by rw [List.getElem?_set_self hi2], .inr ⟨b, rfl, rfl, rfl⟩⟩
    · refine q _ _ _ rfl (g.trans (Gr.of (same_new hD))) (.lst ((E.grow g).newV hD) ?_)
      have : (bs.map fun b => V.int (bI b)) = (bs.map bI).map V.int := by rw [List.map_map]; rfl
      rw [this, show (bs.map fun b => PyData.int (bI b)) = (bs.map bI).map PyData.int by rw [List.map_map]; rfl]
      exact atAll_ints _) z⟩
end
end DD

namespace DD
open PySem PySem.Spec PyProof.Rows L2 L2H HotX LamX
/-- the context of a def entered while p is handled; nothing is let out -/
def hotC (CX : CXT) (P : Program) (w : World) (K : PySem.W.Frag) (mg : Str → Option Value) (base : Heap) (N : List Str) (qual : Str) (scope : Scope) (f : Addr) (cdv : Value) (A : Around) (outer : List PySem.Env) (s : Shared) (H : Hp) (E : XK) (p : Addr × Obj) (k : Nat) (hr : RoomH k (A.deeper (envOfC qual scope s.heap.objs.size f cdv))) : Ct where
  X := cxH CX P w K mg base N qual scope f cdv A outer s H E p
  W := fun _ _ _ _ => False
  tk := takes0N
  O := fun _ => false
  U := fun _ => false
  le := fun _ h => by cases h
  base := H
  lv := k
  room := hr
  hd := fun h => by cases h
theorem env_raw {C : Ct} {n : Nat} {v : V} (ho : ∀ a, C.O a = false) : Env C (.raw v :: List.replicate n .no) (some v :: List.replicate n none) C.base := by
  have hg : ∀ i, gt (.raw v :: List.replicate n .no) i = .raw v ∧ i = 0 ∨ gt (.raw v :: List.replicate n .no) i = .no := fun i => by
    cases i with
    | zero => exact .inl ⟨rfl, rfl⟩
    | succ i =>
      right
      unfold gt
      rw [List.getD_cons_succ, List.getD_eq_getElem?_getD, List.getElem?_replicate]
      split <;> rfl
  refine ⟨by simp, fun i => ?_, fun a h => ?_, fun a h => ?_, Gr.refl _ _, fun i j p h1 h2 => ?_⟩
  · rcases hg i with ⟨e, rfl⟩ | e
    · rw [e]; rfl
    · rw [e]; trivial
  · rw [O_U (ho a)] at h; cases h
  · rw [ho a] at h; cases h
  · rcases hg i with ⟨e, _⟩ | e <;> rw [e] at h1 <;> cases h1
/-- x(e), e the handled exception -/
theorem pe_callP {X : Cx} {p : Addr × Obj} {x y : Str} {g : Addr} {k i : Nat} {pg : Arguments} {bg : List Stmt} {sg : Scope} {fd : FuncData} {Ng ps : List Str} {q q2 pos : Pos} {G : V → Hp → VK → Prop}
    (hot : Hot1 X.A p) (hp : p ∈ X.pn) (F : FunD X.K x x pg bg sg [] [] g fd) (hg : Gl X x) (hm : X.mg x = some (.ref g)) (hb : L2.Binds X.K fd ps []) (S : FnScope Ng ps sg) (hl : ps.length = 1) (hr : RoomH (k + 1) X.A) (hN : X.N[i]? = some y) (hv : Vis X.env.scope y)
    (body : ∀ (cdv : Value) (A : Around) (outer : List PySem.Env) (s : Shared) (H : Hp) (Q : VK) (v : V), RoomH k (A.deeper (envOfC x sg s.heap.objs.size g cdv)) → Hot1 A p → G v H Q → ∃ t, PSs (cxH C8.CX0 X.prog X.w X.K X.mg X.base Ng x sg g cdv A outer s H C8.E0 p) bg t ∧ t { nx := fun _ H' => Q .non H', rt := Q } (L2.start Ng [v]) H)
    (hdb : (x == ("__debug__" : Str)) = false := by decide) (hd : (y == ("__debug__" : Str)) = false := by decide) (hcd : (y == ("__classdict__" : Str)) = false := by decide) (he : starEach [.Name y q2] X.env = (false, eval (.Name y q2) X.env) :: starEach [] X.env := by rfl) (hpl : (backTo pos (starEach [] X.env)).any (·.1) = false := by rfl) :
    PE X (.Call (.Name x q) [.Name y q2] [] pos) (fun σ H Q => ∃ v, σ[i]? = some (some v) ∧ G v H Q) := by
  refine ⟨fun pins s σ H Q I ⟨v, hv0, hG⟩ => ?_⟩
  obtain ⟨oc, od, dV, kV, doc, pm, an, cdv, ct, osl, rfl, lk, hcd', _, _⟩ := F.ex
  refine wpAny_Call_Name_kw (ld_glob I hg hm ?_ hdb)
  have ha : PA X [.Name y q2] _ := pa_cons (pe_var hN hv hd hcd) pa_nil he
  refine PySem.W.callWith_K (h₀ := X.base) I.ok.mod.kin F.kp (thn (ha.run pos pins s σ H (fun vs H1 => vs = [v] ∧ H1 = H) I ⟨v, hv0, rfl, rfl⟩) fun us s1 ⟨vs, H1, I1, r, ev, eh⟩ => ⟨I1.kIn, ?_⟩) he hpl
  subst ev eh
  have z := I1.pin p (List.mem_append_left _ hp)
  have hpin : PinOk X.stack H1 s1 p := ⟨z.1, z.2.1, fun hm => (List.mem_cons.mp (I1.stkSub p.1 hm)).elim z.2.2.1 z.2.2.2.1, z.2.2.2.2⟩
  have hu : us.length = ps.length := by rw [← r.length, hl]; rfl
  have b := hb s1 us I1.kIn (by rw [List.append_nil]; exact hu)
  rw [List.append_nil] at b
  refine wpAny_call (codeAny_mono (run_hot (CX := C8.CX0) (E := C8.E0) (Q := Q) lk hcd' S hr hpin I1.env0 b r (by rw [hl]; rfl) fun hr' => body cdv X.A X.stack s1 H1 Q v hr' hot hG) fun r s' hq => ?_)
  cases r with
  | error e => exact (show False from hq).elim
  | ok fl =>
    cases fl with
    | ret u => exact I1.after hq
    | next => exact False.elim hq
    | brk => exact False.elim hq
    | cont => exact False.elim hq
end DD

namespace DD
open PySem PySem.Spec PyProof.Rows L2 L2H HotX LamX
/-! ## the exceptions by name -/
def xnm : List Str := ["InvalidBase", "InvalidRow", "InvalidLength", "InvalidNumber", "InvalidSteps", "InvalidPlace", "InvalidDigit", "InvalidText", "TooLarge", "TooGreat", "NothingToUndo"]
structure Exs (K : PySem.W.Frag) (mg : Str → Option Value) : Prop where
  g : ∀ x ∈ xnm, mg x = some (.ref (He.ga K x))
  c : ∀ x ∈ xnm, ExcC K (He.ga K x)
  k : ∀ x ∈ xnm, ∀ y ∈ xnm, PySem.W.kitOne K (.ref (He.ga K x)) (.ref (He.ga K y)) = some (decide (x = y))
  v : ∀ x ∈ xnm, PySem.W.kitOne K (.ref (He.ga K x)) (.type "ValueError") = some true
  m : ∀ x ∈ xnm, PySem.W.exmOne K (.ref (He.ga K x)) (.ref (He.ga K "DigitError")) = some true
def excB (K : PySem.W.Frag) (D : Addr) : Bool :=
  He.eqO (PySem.W.findIn K (.ref D) "__getattribute__") (some (some (.builtin "BaseException.__getattribute__"))) && (He.eqO (PySem.W.findIn K (.ref D) "__getattr__") (some none) && (decide (PySem.W.subIn K (.ref D) (.type "BaseException") = some true) && (PySem.W.hasDictIn K D &&
    (He.eqO (PySem.W.findIn K (.ref D) "__class__") (some (some (.builtin "object.__class__"))) && (He.eqO (PySem.W.specialIn K (.builtin "object.__class__") "__get__") (some (some (.builtin "getset_descriptor.__get__"))) && (decide (PySem.W.takesIn K (.builtin "object.__class__") = some true) && decide (PySem.W.mroIn K D (.type "object") = some true)))))))
theorem excB_ok {K : PySem.W.Frag} {D : Addr} (h : excB K D = true) : ExcC K D := by
  unfold excB at h
  obtain ⟨h1, h⟩ := He.ba h
  obtain ⟨h2, h⟩ := He.ba h
  obtain ⟨h3, h⟩ := He.ba h
  obtain ⟨h4, h⟩ := He.ba h
  obtain ⟨h5, h⟩ := He.ba h
  obtain ⟨h6, h⟩ := He.ba h
  obtain ⟨h7, h8⟩ := He.ba h
  exact ⟨He.eqO_ok h1, He.eqO_ok h2, of_decide_eq_true h3, h4, He.eqO_ok h5, He.eqO_ok h6, of_decide_eq_true h7, of_decide_eq_true h8⟩
def exB (K : PySem.W.Frag) : Bool := xnm.all fun x => excB K (He.ga K x) && (decide (PySem.W.kitOne K (.ref (He.ga K x)) (.type "ValueError") = some true) && xnm.all fun y => decide (PySem.W.kitOne K (.ref (He.ga K x)) (.ref (He.ga K y)) = some (decide (x = y))))
theorem exs_of {K : PySem.W.Frag} {mg : Str → Option Value} (h : exB K = true) (g : ∀ x ∈ xnm, mg x = some (.ref (He.ga K x))) (m : ∀ x ∈ xnm, PySem.W.exmOne K (.ref (He.ga K x)) (.ref (He.ga K "DigitError")) = some true) : Exs K mg := by
  have q : ∀ x ∈ xnm, _ := fun x hx => List.all_eq_true.mp h x hx
  exact ⟨g, fun x hx => excB_ok (He.ba (q x hx)).1, fun x hx y hy => of_decide_eq_true (List.all_eq_true.mp (He.ba (He.ba (q x hx)).2).2 y hy), fun x hx => of_decide_eq_true (He.ba (He.ba (q x hx)).2).1, m⟩
theorem xnm_ix : ∀ x ∈ xnm, ∃ j ∈ List.range 11, xnm[j]? = some x ∧ atI xnm (j : Int) = some x ∧ ∀ m ∈ List.range j, xnm[m]? ≠ some x := by decide +kernel
def flg (x : Str) : List Bool := xnm.map fun y => decide (x = y)
theorem flg_sum : ∀ x ∈ xnm, ((flg x).map bI).sum = 1 := by decide +kernel
theorem atI_map {α β : Type} {f : α → β} {l : List α} {i : Int} {a : α} (h : atI l i = some a) : atI (l.map f) i = some (f a) := by
  unfold atI at h ⊢
  rw [List.length_map]
  cases e : ixN l.length i with
  | none => rw [e] at h; cases h
  | some j =>
    rw [e] at h
    have h : l[j]? = some a := h
    show (l.map f)[j]? = _
    rw [List.getElem?_map, h]
    rfl
/-- what _law_term makes of it -/
abbrev errD (x : Str) : PyData := .tuple [.str "error", .str x]
/-- the lambda handed to the def that tells: its table, then its body's reading -/
def tTold (K : PySem.W.Frag) (P : Addr) (q : Str) (te : Hp → XK → TE) : TE := fun σ H Q => TabS H P q ∧ ∀ H1, Laid P q H H1 → te H1 (fun cls d H' => ∃ x, x ∈ xnm ∧ cls = .ref (He.ga K x) ∧ d = none ∧ ∀ v H'', Same H' H'' → At H'' v (errD x) → Q v H'') σ H1 Q
end DD

namespace DD
open PySem L2
/-! ## dices -/
theorem cell_eq {H H' : Hp} {a b : Addr} {k : Option Str} (hd : Cell none H a) (ne : b ≠ a) (kp : ∀ c o, c ≠ a → H c = some o → H' c = some o) (h : Cell k H b) : Cell k H' b := by
  obtain ⟨x0, y0, hd⟩ := hd
  cases k with
  | none => obtain ⟨x, y, h⟩ := h; exact ⟨x, y, kp _ _ ne h⟩
  | some q =>
    obtain ⟨hq, ps, h1, h2, h3⟩ := h
    refine ⟨hq, ps, kp _ _ ne h1, h2, fun pos cv hc => ?_⟩
    obtain ⟨c, e1, e2⟩ := h3 pos cv hc
    exact ⟨c, e1, kp _ _ (fun z => by rw [z, hd] at e2; unfold LamX.CodeO at e2; cases e2) e2⟩
theorem gr_dice {U : Addr → Bool} {H H' : Hp} {a : Addr} (ha : U a = true) (hd : Cell none H a) (g : Gr (fun b => b == a) H H') : Gr U H H' := by
  have kp : ∀ c o, c ≠ a → H c = some o → H' c = some o := fun c o ne e => g.keep c o (beq_eq_false_iff_ne.mpr ne) e
  refine ⟨fun b o hu e => kp b o (fun z => by rw [z, ha] at hu; cases hu) e, fun b k hu h => ?_⟩
  by_cases z : b = a
  · subst z
    exact g.cell b k (beq_self_eq_true b) h
  · exact cell_eq hd z kp h
/-- a def that gets a dice and data -/
def spC {α : Type} (enc : α → List PyData) (Dom : α → Prop) (R : α → PyData → Prop) : Sp := fun vs H Q E => ∃ (O : Addr → Bool) (a : Addr) (x : α) (us : List V), vs = .ref a :: us ∧ O a = true ∧ (∀ b, O b = true → H b ≠ none) ∧ Cell none H a ∧ AtAll (hid O H) us (enc x) ∧ Dom x ∧
  ∀ d v H', R x d → Gr (fun b => b == a) H H' → At (hid O H') v d → Q v H'
def dicC (P : Program) (w : World) (K : PySem.W.Frag) (mg : Str → Option Value) (base : Heap) (N : List Str) (qual : Str) (scope : Scope) (f : Addr) (cdv : Value) (A : Around) (outer : List PySem.Env) (s : Shared) (H : Hp) (E : XK) (k : Nat) (hr : Room k (A.deeper (PyProof.Rows.envOfC qual scope s.heap.objs.size f cdv))) (O : Addr → Bool) (a : Addr) : Ct where
  X := cxOf (L2N.CX P w) P w K mg base N qual scope f cdv A outer s H E
  W := fun _ _ _ _ => False
  tk := takes0N
  O := fun b => O b || b == a
  U := fun b => b == a
  le := fun b h => by rw [h, Bool.or_true]
  base := H
  lv := k
  room := L2H.roomH_of hr
  hd := fun _ => hr.hd
theorem env_dice {C : Ct} {N : List Str} {a : Addr} {ds : List PyData} {us : List V} (hU : ∀ b, C.U b = true → b = a) (hd : Cell none C.base a) (h : AtAll (hid C.O C.base) us ds) (hl : ds.length + 1 ≤ N.length) (ho : ∀ b, C.O b = true → C.base b ≠ none) :
    Env C (.raw (.ref a) :: rho (N.length - 1) ds) (L2.start N (.ref a :: us)) C.base := by
  have e := h.len
  have own0 : ∀ b, owns (.raw (.ref a) :: rho (N.length - 1) ds) b = false := fun b => by
    show (((SV.raw (.ref a)).addr == some b) || owns (rho (N.length - 1) ds) b) = false
    rw [owns_rho]; rfl
  have hv : vis C (.raw (.ref a) :: rho (N.length - 1) ds) C.base = hid C.O C.base := by
    unfold vis inn
    congr 1
    funext b
    rw [own0, Bool.or_false]
  have hst : L2.start N (.ref a :: us) = some (.ref a) :: (us.map some ++ List.replicate (N.length - 1 - us.length) none) := by
    unfold L2.start
    rw [List.map_cons, List.cons_append, List.length_cons, show N.length - (us.length + 1) = N.length - 1 - us.length by omega]
  rw [hst]
  refine ⟨?_, fun i => ?_, fun b q => ?_, ho, Gr.refl _ _, fun i j p hi => ?_⟩
  · unfold rho
    simp only [List.length_cons, List.length_append, List.length_map, List.length_replicate]
    omega
  · cases i with
    | zero => rfl
    | succ i =>
      unfold gt rho
      rw [List.getD_cons_succ, List.getD_cons_succ, List.getD_eq_getElem?_getD, List.getD_eq_getElem?_getD, List.getElem?_append, List.getElem?_append]
      by_cases hi : i < ds.length
      · rw [if_pos (by rw [List.length_map]; exact hi), if_pos (by rw [List.length_map]; omega), List.getElem?_map, List.getElem?_map, List.getElem?_eq_getElem hi]
        obtain ⟨v, h1, h2⟩ := h.get (List.getElem?_eq_getElem hi)
        rw [h1]
        refine ⟨v, rfl, ?_⟩
        have h3 := h2
        rw [← hv] at h3
        exact h3
      · rw [if_neg (by rw [List.length_map]; exact hi), if_neg (by rw [List.length_map]; omega)]
        rw [List.getElem?_replicate]
        split <;> exact True.intro
  · rw [hU b q]
    exact ⟨none, hd⟩
  · exfalso
    have : owns (.raw (.ref a) :: rho (N.length - 1) ds) p = true := owns_iff.mpr ⟨i, hi⟩
    rw [own0] at this
    cases this
theorem fc_C {α : Type} {enc : α → List PyData} {P : Program} {w : World} {K : PySem.W.Frag} {mg : Str → Option Value} {base : Heap} {x : Str} {st : Stmt} {N ps : List Str} {k : Nat} {Dom : α → Prop} {R : α → PyData → Prop}
    (D : ∃ fd, FunD K x x (defArgs st) (defBody st) (defScope st) [] [] (He.ga K x) fd) (g : mg x = some (.ref (He.ga K x))) (S : FnScope N ps (defScope st)) (hn : ∀ y, (enc y).length + 1 = ps.length) (hN : ps.length ≤ N.length)
    (hb : ∀ (kV doc pm : Value) (an : Option Addr) (cdv ct : Value) (us : List Value), us.length = ps.length → bindArgs (PySem.W.fnOf x x (defArgs st) (defBody st) (defScope st) .none kV doc pm an cdv ct) ⟨us, []⟩ = pure (ps.zip us))
    (body : ∀ cdv A outer s H E hr O y a, Dom y → Cell none H a → DSs (dicC P w K mg base N x (defScope st) (He.ga K x) cdv A outer s H E k hr O a) (fun o => ∃ d, o = .rt d ∧ R y d) (.raw (.ref a) :: rho (N.length - 1) (enc y)) (defBody st)) : Fc P w K mg base x ps (k + 1) (spC enc Dom R) := by
  obtain ⟨fd, F⟩ := D
  refine ⟨_, fd, g, F.kp, FunD.bindsN F hb, F.ok (CX := L2N.CX P w) S (fun vs H Q E h => ?_) (fun cdv A outer s H vs Q E hr h => ?_)⟩
  · obtain ⟨O, a, y, us, rfl, _, _, _, ha, _⟩ := h
    rw [List.length_cons, ha.len, hn]
  · obtain ⟨O, a, y, us, rfl, hOa, ho, hc, ha, hd, hq⟩ := h
    have eO : (fun b => O b || b == a) = O := by
      funext b
      by_cases z : b = a
      · rw [z, hOa]; rfl
      · rw [beq_eq_false_iff_ne.mpr z, Bool.or_false]
    refine ⟨_, pSs, body cdv A outer s H E hr O y a hd hc _ _ H (env_dice (C := dicC P w K mg base N x (defScope st) (He.ga K x) cdv A outer s H E k hr O a) (fun b h => eq_of_beq h) hc (by rw [show (dicC P w K mg base N x (defScope st) (He.ga K x) cdv A outer s H E k hr O a).O = O from eO]; exact ha) (by rw [hn]; exact hN) (by rw [show (dicC P w K mg base N x (defScope st) (He.ga K x) cdv A outer s H E k hr O a).O = O from eO]; exact ho))
      ⟨fun ρ' σ' H' ⟨d, e, _⟩ => (by cases e), fun d v H' ⟨d', e, r⟩ gg at' => ?_, fun c σ' H' ⟨d, e, _⟩ => (by cases e), fun _ _ _ ⟨d, e, _⟩ => (by cases e), fun _ _ _ ⟨d, e, _⟩ => (by cases e)⟩⟩
    injection e with e
    subst e
    refine hq d v H' r gg ?_
    have at2 : At (hid (fun b => O b || b == a) H') v d := at'
    rw [eO] at at2
    exact at2
section
variable {α : Type} {enc : α → List PyData} {C : Ct} {Ξ : Addr → Prop} {ρ : Rho} {e e1 e2 : Expr} {es : List Expr} {pos p p1 : Pos} {P : PyData → Prop}
/-- x(dice, ..) -/
theorem de_dice (i : Nat) {x y : Str} {ps : List Str} {k : Nat} {Dom : α → Prop} {R : α → PyData → Prop} {a : Addr} (z : α) (G : Fc C.X.prog C.X.w C.X.K C.X.mg C.X.base x ps k (spC enc Dom R)) (hs0 : gt ρ i = .raw (.ref a)) (hU : C.U a = true) (hc : Cell none C.base a) (hg : Gl C.X x) (hN : C.X.N[i]? = some y) (hv : Vis C.X.env.scope y) (ha : DAd C Ξ ρ es (enc z)) (hd : Dom z) (hP : ∀ d, R z d → P d)
    (hk : k ≤ C.lv := by exact Nat.le_of_ble_eq_true rfl) (hcalm : C.X.calm = true := by rfl) (hdb : (x == ("__debug__" : Str)) = false := by decide) (hyd : (y == ("__debug__" : Str)) = false := by decide) (hyc : (y == ("__classdict__" : Str)) = false := by decide) (he : starEach (.Name y p1 :: es) C.X.env = (false, eval (.Name y p1) C.X.env) :: starEach es C.X.env := by rfl) (hpl : (backTo pos (starEach es C.X.env)).any (·.1) = false := by rfl) :
    DE C Ξ ρ (.Call (.Name x p) (.Name y p1 :: es) [] pos) P := fun σ H E Q q zz => by
  obtain ⟨f, fd, hm, kp, hb, F⟩ := G.ex
  refine ⟨_, pe_callS F ((C.room' hcalm).mono hk) hg hm kp hb (fun σ => L2N.passAt C.tk σ) (pa_cons (pe_var hN hv hyd hyc) pA he) hdb he hpl, _, raw_at E hs0, ha σ H E _ (fun l vs H2 pl g r => ?_) zz⟩
  subst pl
  have E2 := E.grow g
  have hc2 : Cell none H2 a := E2.gr.cell a none hU hc
  refine ⟨inn C ρ, a, z, vs, rfl, by unfold inn; rw [C.le a hU]; rfl, E2.out, hc2, r.ats, hd, fun d v H' hr gg ra => q d v H' (hP d hr) (g.trans (gr_dice hU hc2 gg)) ra⟩
end
end DD

namespace DD
open PySem L2
/-! ## shapes and equality of rows -/
theorem lay_iv : ∀ ns : List Int, PyData.canLayAll0 (iv ns) = true ∧ PyData.depthAll (iv ns) = 0
  | [] => ⟨by simp [iv, PyData.canLayAll0], by simp [iv, PyData.depthAll]⟩
  | n :: ns => by
    obtain ⟨h1, h2⟩ := lay_iv ns
    have e : iv (n :: ns) = .int n :: iv ns := rfl
    rw [e]
    simp [PyData.canLayAll0, PyData.depthAll, PyData.canLay0, PyData.depth, h1, h2]
theorem shT (ns : List Int) : SeqAt.shaped (tI ns) = true := by
  unfold SeqAt.shaped
  simp [PyData.canLay0, PyData.depth, (lay_iv ns).1, (lay_iv ns).2]
theorem shL (ns : List Int) : SeqAt.shaped (lI ns) = true := by
  unfold SeqAt.shaped
  simp [PyData.canLay0, PyData.depth, (lay_iv ns).1, (lay_iv ns).2]
theorem shI (n : Int) : SeqAt.shaped (.int n) = true := rfl
theorem eqv_iv : ∀ a b : List Int, PyData.eqvAll (iv a) (iv b) = decide (a = b)
  | [], [] => by simp [iv, PyData.eqvAll]
  | [], y :: b => by simp [iv, PyData.eqvAll]
  | x :: a, [] => by simp [iv, PyData.eqvAll]
  | x :: a, y :: b => by
    have h := eqv_iv a b
    have e : PyData.eqvAll (iv (x :: a)) (iv (y :: b)) = (PyData.eqv (.int x) (.int y) && PyData.eqvAll (iv a) (iv b)) := by
      show PyData.eqvAll (.int x :: iv a) (.int y :: iv b) = _
      rw [PyData.eqvAll]
    rw [e, h]
    have e2 : PyData.eqv (.int x) (.int y) = decide (x = y) := by rw [PyData.eqv]; rfl
    rw [e2]
    by_cases h1 : x = y <;> by_cases h2 : a = b <;> simp [h1, h2]
theorem eqvT (a b : List Int) : PyData.eqv (tI a) (tI b) = decide (a = b) := by rw [PyData.eqv]; exact eqv_iv a b
theorem eqvL (a b : List Int) : PyData.eqv (lI a) (lI b) = decide (a = b) := by rw [PyData.eqv]; exact eqv_iv a b
theorem eqvI (a b : Int) : PyData.eqv (.int a) (.int b) = decide (a = b) := by rw [PyData.eqv]; rfl
section
variable {C : Ct} {Ξ : Addr → Prop} {ρ : Rho} {a b e : Expr} {pos p : Pos}
theorem dt_neT {x y : List Int} (ha : DEd C Ξ ρ a (tI x)) (hb : DEd C Ξ ρ b (tI y)) (hm : behindInMarks .NotEq b = false := by rfl) : DTd C Ξ ρ (.Compare a [.NotEq] [b] pos) (!decide (x = y)) :=
  DT.to (dt_cmp (op_neD (by have := C.un; omega)) hm ha hb (rb_ne (shT x) (shT y))) (by rw [eqvT])
theorem dt_eqT {x y : List Int} (ha : DEd C Ξ ρ a (tI x)) (hb : DEd C Ξ ρ b (tI y)) (hm : behindInMarks .Eq b = false := by rfl) : DTd C Ξ ρ (.Compare a [.Eq] [b] pos) (decide (x = y)) :=
  DT.to (dt_cmp (op_eqD (by have := C.un; omega)) hm ha hb (rb_eq (shT x) (shT y))) (by rw [eqvT])
theorem de_eqT {x y : List Int} (ha : DEd C Ξ ρ a (tI x)) (hb : DEd C Ξ ρ b (tI y)) (hm : behindInMarks .Eq b = false := by rfl) : DEd C Ξ ρ (.Compare a [.Eq] [b] pos) (.bool (decide (x = y))) :=
  DE.to (de_cmp (op_eqD (by have := C.un; omega)) hm ha hb (rb_eq (shT x) (shT y))) (by rw [eqvT])
theorem dt_neI {x y : Int} (ha : DEd C Ξ ρ a (.int x)) (hb : DEd C Ξ ρ b (.int y)) (hm : behindInMarks .NotEq b = false := by rfl) : DTd C Ξ ρ (.Compare a [.NotEq] [b] pos) (!decide (x = y)) :=
  DT.to (dt_cmp (op_neD (by have := C.un; omega)) hm ha hb (rb_ne (shI x) (shI y))) (by rw [eqvI])
theorem dt_eqI {x y : Int} (ha : DEd C Ξ ρ a (.int x)) (hb : DEd C Ξ ρ b (.int y)) (hm : behindInMarks .Eq b = false := by rfl) : DTd C Ξ ρ (.Compare a [.Eq] [b] pos) (decide (x = y)) :=
  DT.to (dt_cmp (op_eqD (by have := C.un; omega)) hm ha hb (rb_eq (shI x) (shI y))) (by rw [eqvI])
theorem de_eqI {x y : Int} (ha : DEd C Ξ ρ a (.int x)) (hb : DEd C Ξ ρ b (.int y)) (hm : behindInMarks .Eq b = false := by rfl) : DEd C Ξ ρ (.Compare a [.Eq] [b] pos) (.bool (decide (x = y))) :=
  DE.to (de_cmp (op_eqD (by have := C.un; omega)) hm ha hb (rb_eq (shI x) (shI y))) (by rw [eqvI])
theorem dt_neD {x y : PyData} (hx : SeqAt.shaped x = true) (hy : SeqAt.shaped y = true) (ha : DEd C Ξ ρ a x) (hb : DEd C Ξ ρ b y) (hm : behindInMarks .NotEq b = false := by rfl) : DTd C Ξ ρ (.Compare a [.NotEq] [b] pos) (!PyData.eqv x y) :=
  dt_cmp (op_neD (by have := C.un; omega)) hm ha hb (rb_ne hx hy)
theorem dt_eqD {x y : PyData} (hx : SeqAt.shaped x = true) (hy : SeqAt.shaped y = true) (ha : DEd C Ξ ρ a x) (hb : DEd C Ξ ρ b y) (hm : behindInMarks .Eq b = false := by rfl) : DTd C Ξ ρ (.Compare a [.Eq] [b] pos) (PyData.eqv x y) :=
  dt_cmp (op_eqD (by have := C.un; omega)) hm ha hb (rb_eq hx hy)
/-! ## the dice's two numbers -/
theorem di_cell (i : Nat) {y : Str} {j : Int} {q : Addr} (h0 : 0 ≤ j) (h1 : j ≤ 1) (hs0 : gt ρ i = .raw (.ref q)) (hU : C.U q = true) (hc : Cell none C.base q) (hN : C.X.N[i]? = some y) (hv : Vis C.X.env.scope y) (hb : DEd C Ξ ρ b (.int j)) (hd : (y == ("__debug__" : Str)) = false := by decide) (hcd : (y == ("__classdict__" : Str)) = false := by decide) (hs : PlainIx b := by intro _ _; rfl) : DI C Ξ ρ (.Subscript (.Name y p) b pos) (fun _ => True) := fun σ H E Q k z =>
  ⟨_, pe_ix ix_seq (pe_var hN hv hd hcd) pE hs, _, raw_at E hs0, hb σ H E _ (fun d u H2 pd g r => by
    subst pd
    rw [r.int_inv]
    obtain ⟨x, y', hq⟩ := (E.grow g).gr.cell q none hU hc
    refine .inl ⟨q, [.int x, .int y'], j, .int (if j = 0 then x else y'), rfl, rfl, SqL.of hq, ?_, k _ _ H2 ⟨_, rfl, trivial⟩ g (.int _)⟩
    by_cases hj : j = 0
    · subst hj; rfl
    · have : j = 1 := by omega
      subst this; rfl) z⟩
theorem ds_cell (i : Nat) {F : Out → Prop} {y : Str} {j : Int} {q : Addr} {k : Nat} {ip sp : Pos} (h0 : 0 ≤ j) (h1 : j ≤ 1) (hs0 : gt ρ i = .raw (.ref q)) (hU : C.U q = true) (hc : Cell none C.base q) (hN : C.X.N[i]? = some y) (hv : Vis C.X.env.scope y) (he : DI C (xi F) ρ e fun _ => True) (kk : F (.nx ρ)) (hd : (y == ("__debug__" : Str)) = false := by decide) (hcd : (y == ("__classdict__" : Str)) = false := by decide)
    (ha : ∀ v, assign (.Subscript (.Name y p) (.Constant (.int j) k ip) sp) C.X.env v = (do
      let ov ← holding [v] (eval (.Name y p) C.X.env)
      let iv ← holding [v, ov] (eval (.Constant (.int j) k ip) C.X.env)
      standAt sp
      holding [v, ov, iv] (setItem ov iv v)
      release [v, ov, iv] []) := by intro _; rfl) (hs : swapsWithSole [.Subscript (.Name y p) (.Constant (.int j) k ip) sp] e pos.line C.X.env = pure false := by rfl) (hw : swappedStores [.Subscript (.Name y p) (.Constant (.int j) k ip) sp] e C.X.env = pure none := by rfl)
    (hx1 : (assignEach [.Subscript (.Name y p) (.Constant (.int j) k ip) sp] C.X.env).map (·.2) = [assign (.Subscript (.Name y p) (.Constant (.int j) k ip) sp) C.X.env] := by rfl) : DS C F ρ (.Assign [.Subscript (.Name y p) (.Constant (.int j) k ip) sp] e pos) := fun D σ H E q0 =>
  ⟨_, ps_asg pE (pg_sub (pe_var hN hv hd hcd) pe_int set_list ha) hs hw hx1, he σ H E _ (fun d v H2 pd g r => by
    obtain ⟨m, rfl, _⟩ := pd
    rw [r.int_inv]
    have E2 := E.grow g
    have hc2 := E2.gr.cell q none hU hc
    obtain ⟨x, y', hq⟩ := id hc2
    have gg : Gr C.U H2 (upd H2 q (.lst ([.int x, .int y'].set j.toNat (.int m)))) := gr_dice hU hc2 ⟨fun b o hb eb => by
      have ne : b ≠ q := beq_eq_false_iff_ne.mp hb
      rw [upd_ne ne]; exact eb, fun b kk hb hk => by
      obtain rfl := eq_of_beq hb
      cases kk with
      | none =>
        by_cases hj : j = 0
        · subst hj; exact ⟨m, y', upd_same⟩
        · have : j = 1 := by omega
          subst this; exact ⟨x, m, upd_same⟩
      | some s =>
        obtain ⟨_, ps, h, _⟩ := hk
        rw [hq] at h
        cases h⟩
    refine ⟨_, raw_at E hs0, q, [.int x, .int y'], j, j.toNat, rfl, rfl, hq, ?_, q0.nx ρ σ _ kk (E2.grow gg) (vis_gr (g.trans gg))⟩
    by_cases hj : j = 0
    · subst hj; rfl
    · have : j = 1 := by omega
      subst this; rfl) (q0.exE E)⟩
/-! ## the script -/
theorem sql_keep {K : PySem.W.Frag} {U : Addr → Bool} {H H' : Hp} {q : Addr} {xs : List V} (g : Gr U H H') (hu : U q = false) (h : SqL K H q xs) : SqL K H' q xs := by
  rcases h with (h | ⟨o, h⟩) | h
  · exact .inl (.inl (g.keep _ _ hu h))
  · exact .inl (.inr ⟨o, g.keep _ _ hu h⟩)
  · exact .inr h
theorem dpAll_iv {K : PySem.W.Frag} {H : Hp} (ns : List Int) : DpAll K H (ns.map V.int) (iv ns) := AtAll.dp' K _ _ (nods_lay _ (lay_iv ns).1) (atAll_ints ns)
theorem de_nilS (i : Nat) {y : Str} {q : Addr} {ns : List Int} {p2 : Pos} (hs0 : gt ρ i = .raw (.ref q)) (hU : C.U q = false) (hq : SqL C.X.K C.base q (ns.map V.int)) (hN : C.X.N[i]? = some y) (hv : Vis C.X.env.scope y) (hd : (y == ("__debug__" : Str)) = false := by decide) (hcd : (y == ("__classdict__" : Str)) = false := by decide) : DTd C Ξ ρ (.Compare (.Name y p) [.Eq] [.List [] p2] pos) (decide (ns = [])) := fun σ H E Q k z =>
  ⟨_, pt_cmpR (op_eqD (by have := C.un; omega)) (pe_var hN hv hd hcd) pE rfl, _, raw_at E hs0, de_lst (Ξ := none') da_nil (by decide) σ H E _ (fun d u H2 pd g r => by
    subst pd
    refine ⟨lI ns, .list [], .lst (sql_keep (E.gr.trans g) hU hq) (dpAll_iv ns), Ct.dpv (shL []) r, shL ns, shL [], decide (ns = []), ?_, k _ H2 rfl g⟩
    rw [show PyData.list [] = lI [] from rfl, eqvL]) (fun _ _ f _ => f.elim)⟩
theorem de_lenScr (i : Nat) {y : Str} {q : Addr} {ns : List Int} {p2 : Pos} (hs0 : gt ρ i = .raw (.ref q)) (hU : C.U q = false) (hq : SqL C.X.K C.base q (ns.map V.int)) (hN : C.X.N[i]? = some y) (hv : Vis C.X.env.scope y) (hg : Gl C.X "len") (hm : C.X.mg "len" = none) (hd : (y == ("__debug__" : Str)) = false := by decide) (hcd : (y == ("__classdict__" : Str)) = false := by decide)
    (he : starEach [.Name y p2] C.X.env = (false, eval (.Name y p2) C.X.env) :: starEach [] C.X.env := by rfl) (hpl : (backTo pos (starEach [] C.X.env)).any (·.1) = false := by rfl) : DEd C Ξ ρ (.Call (.Name "len" p) [.Name y p2] [] pos) (.int ns.length) := fun σ H E Q k z =>
  ⟨_, pe_callB call_len hg hm b_len (pa_cons (pe_var hN hv hd hcd) pa_nil he) (by decide) (by decide) he hpl, _, raw_at E hs0, .ref q, (ns.map V.int).length, rfl, .inl ⟨_, sql_keep E.gr hU hq, rfl⟩, by rw [List.length_map]; exact k _ _ H rfl (Gr.refl _ _) (.int _)⟩
theorem de_ixScr (i : Nat) {y : Str} {q : Addr} {ns : List Int} {j n : Int} (hj : atI ns j = some n) (hs0 : gt ρ i = .raw (.ref q)) (hU : C.U q = false) (hq : SqL C.X.K C.base q (ns.map V.int)) (hN : C.X.N[i]? = some y) (hv : Vis C.X.env.scope y) (hb : DEd C Ξ ρ b (.int j)) (hd : (y == ("__debug__" : Str)) = false := by decide) (hcd : (y == ("__classdict__" : Str)) = false := by decide) (hs : PlainIx b := by intro _ _; rfl) : DEd C Ξ ρ (.Subscript (.Name y p) b pos) (.int n) := fun σ H E Q k z =>
  ⟨_, pe_ix ix_seq (pe_var hN hv hd hcd) pE hs, _, raw_at E hs0, hb σ H E _ (fun d u H2 pd g r => by
    subst pd
    rw [r.int_inv]
    exact .inl ⟨q, ns.map V.int, j, .int n, rfl, rfl, sql_keep (E.gr.trans g) hU hq, atI_map hj, k _ _ H2 rfl g (.int n)⟩) z⟩
end
/-- a def that gets the script and data -/
def spS {α : Type} (enc : α → List PyData) (Dom : List Int → α → Prop) (R : α → PyData → Prop) (K : PySem.W.Frag) : Sp := fun vs H Q E => ∃ (O : Addr → Bool) (a : Addr) (ns : List Int) (x : α) (us : List V), vs = .ref a :: us ∧ SqL K H a (ns.map V.int) ∧ (∀ b, O b = true → H b ≠ none) ∧ AtAll (hid O H) us (enc x) ∧ Dom ns x ∧
  ∀ d v H', R x d → Same H H' → At (hid O H') v d → Q v H'
def scrC (P : Program) (w : World) (K : PySem.W.Frag) (mg : Str → Option Value) (base : Heap) (N : List Str) (qual : Str) (scope : Scope) (f : Addr) (cdv : Value) (A : Around) (outer : List PySem.Env) (s : Shared) (H : Hp) (E : XK) (k : Nat) (hr : Room k (A.deeper (PyProof.Rows.envOfC qual scope s.heap.objs.size f cdv))) (O : Addr → Bool) : Ct where
  X := cxOf (L2N.CX P w) P w K mg base N qual scope f cdv A outer s H E
  W := fun _ _ _ _ => False
  tk := takes0N
  O := O
  U := fun _ => false
  le := fun b h => by cases h
  base := H
  lv := k
  room := L2H.roomH_of hr
  hd := fun _ => hr.hd
theorem env_scr {C : Ct} {N : List Str} {a : Addr} {ds : List PyData} {us : List V} (hU : ∀ b, C.U b = false) (h : AtAll (hid C.O C.base) us ds) (hl : ds.length + 1 ≤ N.length) (ho : ∀ b, C.O b = true → C.base b ≠ none) :
    Env C (.raw (.ref a) :: rho (N.length - 1) ds) (L2.start N (.ref a :: us)) C.base := by
  have e := h.len
  have own0 : ∀ b, owns (.raw (.ref a) :: rho (N.length - 1) ds) b = false := fun b => by
    show (((SV.raw (.ref a)).addr == some b) || owns (rho (N.length - 1) ds) b) = false
    rw [owns_rho]; rfl
  have hv : vis C (.raw (.ref a) :: rho (N.length - 1) ds) C.base = hid C.O C.base := by
    unfold vis inn
    congr 1
    funext b
    rw [own0, Bool.or_false]
  have hst : L2.start N (.ref a :: us) = some (.ref a) :: (us.map some ++ List.replicate (N.length - 1 - us.length) none) := by
    unfold L2.start
    rw [List.map_cons, List.cons_append, List.length_cons, show N.length - (us.length + 1) = N.length - 1 - us.length by omega]
  rw [hst]
  refine ⟨?_, fun i => ?_, fun b q => (by rw [hU] at q; cases q), ho, Gr.refl _ _, fun i j p hi => ?_⟩
  · unfold rho
    simp only [List.length_cons, List.length_append, List.length_map, List.length_replicate]
    omega
  · cases i with
    | zero => rfl
    | succ i =>
      unfold gt rho
      rw [List.getD_cons_succ, List.getD_cons_succ, List.getD_eq_getElem?_getD, List.getD_eq_getElem?_getD, List.getElem?_append, List.getElem?_append]
      by_cases hi : i < ds.length
      · rw [if_pos (by rw [List.length_map]; exact hi), if_pos (by rw [List.length_map]; omega), List.getElem?_map, List.getElem?_map, List.getElem?_eq_getElem hi]
        obtain ⟨v, h1, h2⟩ := h.get (List.getElem?_eq_getElem hi)
        rw [h1]
        refine ⟨v, rfl, ?_⟩
        have h3 := h2
        rw [← hv] at h3
        exact h3
      · rw [if_neg (by rw [List.length_map]; exact hi), if_neg (by rw [List.length_map]; omega)]
        rw [List.getElem?_replicate]
        split <;> exact True.intro
  · exfalso
    have : owns (.raw (.ref a) :: rho (N.length - 1) ds) p = true := owns_iff.mpr ⟨i, hi⟩
    rw [own0] at this
    cases this
theorem fc_S {α : Type} {enc : α → List PyData} {P : Program} {w : World} {K : PySem.W.Frag} {mg : Str → Option Value} {base : Heap} {x : Str} {st : Stmt} {N ps : List Str} {k : Nat} {Dom : List Int → α → Prop} {R : α → PyData → Prop}
    (D : ∃ fd, FunD K x x (defArgs st) (defBody st) (defScope st) [] [] (He.ga K x) fd) (g : mg x = some (.ref (He.ga K x))) (S : FnScope N ps (defScope st)) (hn : ∀ y, (enc y).length + 1 = ps.length) (hN : ps.length ≤ N.length)
    (hb : ∀ (kV doc pm : Value) (an : Option Addr) (cdv ct : Value) (us : List Value), us.length = ps.length → bindArgs (PySem.W.fnOf x x (defArgs st) (defBody st) (defScope st) .none kV doc pm an cdv ct) ⟨us, []⟩ = pure (ps.zip us))
    (body : ∀ cdv A outer s H E hr O y a ns, Dom ns y → SqL K H a (ns.map V.int) → DSs (scrC P w K mg base N x (defScope st) (He.ga K x) cdv A outer s H E k hr O) (fun o => ∃ d, o = .rt d ∧ R y d) (.raw (.ref a) :: rho (N.length - 1) (enc y)) (defBody st)) : Fc P w K mg base x ps (k + 1) (spS enc Dom R K) := by
  obtain ⟨fd, F⟩ := D
  refine ⟨_, fd, g, F.kp, FunD.bindsN F hb, F.ok (CX := L2N.CX P w) S (fun vs H Q E h => ?_) (fun cdv A outer s H vs Q E hr h => ?_)⟩
  · obtain ⟨O, a, ns, y, us, rfl, _, _, ha, _⟩ := h
    rw [List.length_cons, ha.len, hn]
  · obtain ⟨O, a, ns, y, us, rfl, hs, ho, ha, hd, hq⟩ := h
    refine ⟨_, pSs, body cdv A outer s H E hr O y a ns hd hs _ _ H (env_scr (C := scrC P w K mg base N x (defScope st) (He.ga K x) cdv A outer s H E k hr O) (fun b => rfl) ha (by rw [hn]; exact hN) ho)
      ⟨fun ρ' σ' H' ⟨d, e, _⟩ => (by cases e), fun d v H' ⟨d', e, r⟩ gg at' => ?_, fun c σ' H' ⟨d, e, _⟩ => (by cases e), fun _ _ _ ⟨d, e, _⟩ => (by cases e), fun _ _ _ ⟨d, e, _⟩ => (by cases e)⟩⟩
    injection e with e
    subst e
    exact hq d v H' r gg.same at'
section
variable {α : Type} {enc : α → List PyData} {C : Ct} {Ξ : Addr → Prop} {ρ : Rho} {es : List Expr} {pos p p1 : Pos} {P : PyData → Prop}
theorem de_scr (i : Nat) {x y : Str} {ps : List Str} {k : Nat} {Dom : List Int → α → Prop} {R : α → PyData → Prop} {a : Addr} {ns : List Int} (z : α) (G : Fc C.X.prog C.X.w C.X.K C.X.mg C.X.base x ps k (spS enc Dom R C.X.K)) (hs0 : gt ρ i = .raw (.ref a)) (hU : C.U a = false) (hq : SqL C.X.K C.base a (ns.map V.int)) (hg : Gl C.X x) (hN : C.X.N[i]? = some y) (hv : Vis C.X.env.scope y) (ha : DAd C Ξ ρ es (enc z)) (hd : Dom ns z) (hP : ∀ d, R z d → P d)
    (hk : k ≤ C.lv := by exact Nat.le_of_ble_eq_true rfl) (hcalm : C.X.calm = true := by rfl) (hdb : (x == ("__debug__" : Str)) = false := by decide) (hyd : (y == ("__debug__" : Str)) = false := by decide) (hyc : (y == ("__classdict__" : Str)) = false := by decide) (he : starEach (.Name y p1 :: es) C.X.env = (false, eval (.Name y p1) C.X.env) :: starEach es C.X.env := by rfl) (hpl : (backTo pos (starEach es C.X.env)).any (·.1) = false := by rfl) :
    DE C Ξ ρ (.Call (.Name x p) (.Name y p1 :: es) [] pos) P := fun σ H E Q q zz => by
  obtain ⟨f, fd, hm, kp, hb, F⟩ := G.ex
  refine ⟨_, pe_callS F ((C.room' hcalm).mono hk) hg hm kp hb (fun σ => L2N.passAt C.tk σ) (pa_cons (pe_var hN hv hyd hyc) pA he) hdb he hpl, _, raw_at E hs0, ha σ H E _ (fun l vs H2 pl g r => ?_) zz⟩
  subst pl
  exact ⟨inn C ρ, a, ns, z, vs, rfl, sql_keep (E.gr.trans g) hU hq, (E.grow g).out, r.ats, hd, fun d v H' hr ss ra => q d v H' (hP d hr) (g.trans (Gr.of ss)) ra⟩
end
end DD
namespace DD
open PySem L2
section
variable {C : Ct} {Ξ : Addr → Prop} {ρ : Rho} {a b e e2 : Expr} {pos p : Pos}
theorem di_div {A : Int → Prop} {j : Int} (ha : DI C Ξ ρ a A) (hb : DEd C Ξ ρ b (.int j)) (h : CDivW 0 j) : DI C Ξ ρ (.BinOp a .FloorDiv b pos) (fun _ => True) :=
  (de_op2 (P := fun d => ∃ i, d = .int i) op_fdivW ha hb fun x y ⟨i, e, _⟩ e' => by
    subst e; subst e'
    intro A' ρ' σ H v u Q E r1 r2 k
    exact rd_int (C' := fun i j => CDivW i j) (g := fun i j => i / j) (i := i) (j := j) h A' ρ' σ H v u Q E r1 r2 fun d w H2 pd => k d w H2 ⟨_, pd⟩).imp fun d ⟨i, e⟩ => ⟨i, e, trivial⟩
/-- x(a, b) of two numbers that are not wholly known, its result a number -/
theorem di_call2 {x : Str} {ps : List Str} {k : Nat} {Dom : Int × Int → Prop} (G : Fc C.X.prog C.X.w C.X.K C.X.mg C.X.base x ps k (spX (fun z : Int × Int => [.int z.1, .int z.2]) Dom (fun _ o => ∃ i : Int, o = .rt (.int i)))) (hk : k ≤ C.lv) (hg : Gl C.X x) {A B : Int → Prop} (ha : DI C Ξ ρ a A) (hb : DI C Ξ ρ b B) (hd : ∀ i j, Dom (i, j))
    (hcalm : C.X.calm = true := by rfl) (hdb : (x == ("__debug__" : Str)) = false := by decide) (he : starEach [a, b] C.X.env = (false, eval a C.X.env) :: starEach [b] C.X.env := by rfl) (he2 : starEach [b] C.X.env = (false, eval b C.X.env) :: starEach [] C.X.env := by rfl) (hpl : (backTo pos (starEach [b] C.X.env)).any (·.1) = false := by rfl) :
    DI C Ξ ρ (.Call (.Name x p) [a, b] [] pos) (fun _ => True) := fun σ H E Q q z => by
  obtain ⟨f, fd, hm, kp, hbn, F⟩ := G.ex
  refine ⟨_, pe_callS F ((C.room' hcalm).mono hk) hg hm kp hbn (fun σ => L2N.passAt C.tk σ) (pa_cons pE (pa_cons pE pa_nil he2) he) hdb he hpl, ha σ H E _ (fun d1 v1 H1 ⟨i, e1, _⟩ g1 r1 => hb σ H1 (E.grow g1) _ (fun d2 v2 H2 ⟨j, e3, _⟩ g2 r2 => ?_) fun c H' x g => z c H' x (g1.trans g)) z⟩
  subst e1; subst e3
  exact ⟨inn C ρ, (i, j), ((E.grow g1).grow g2).out, .cons (r1.up (vis_gr g2)) (.cons r2 .nil), hd i j, fun d v H' ⟨n, e⟩ ss ra => (by injection e with e; exact q d v H' ⟨n, e, trivial⟩ ((g1.trans g2).trans (Gr.of ss)) ra), fun c H' ⟨n, e⟩ _ => (by cases e)⟩
end
end DD
namespace DD
open PySem L2
/-- tuple(xs) of a list that is not wholly known -/
theorem de_tupleLG {C : Ct} {Ξ : Addr → Prop} {ρ : Rho} {e : Expr} {pos p : Pos} {P : List PyData → Prop} (hg : Gl C.X "tuple") (hm : C.X.mg "tuple" = none) (ha : DE C Ξ ρ e (fun d => ∃ ds, d = .list ds ∧ P ds)) (he : starEach [e] C.X.env = (false, eval e C.X.env) :: starEach [] C.X.env := by rfl) (hpl : (backTo pos (starEach [] C.X.env)).any (·.1) = false := by rfl) :
    DE C Ξ ρ (.Call (.Name "tuple" p) [e] [] pos) (fun d => ∃ ds, d = .tuple ds ∧ P ds) := fun σ H E Q q z =>
  ⟨_, pe_callTy call_tuple_of hg hm b_tuple (pa_cons pE pa_nil he) (by decide) (by decide) he hpl, ha σ H E _ (fun d v H2 ⟨ds, ed, pd⟩ g r => by
    subst ed
    exact rc_tupleL C ρ σ H2 [v] Q (E.grow g) (.cons r .nil) fun d w H3 e s rw' => q d w H3 ⟨ds, e, pd⟩ (g.trans (Gr.of s)) rw') z⟩
end DD

namespace DD
open PySem L2
def forBody : List Stmt → List Stmt
  | [.For _ _ body _ _, _] => body
  | _ => []
def dcD (c : Int) : PyData := .list [.int c, .int 0]
def lawC (P : Program) (w : World) (K : PySem.W.Frag) (mg : Str → Option Value) (base : Heap) (N : List Str) (scope : Scope) (f : Addr) (cdv : Value) (A : Around) (outer : List PySem.Env) (s : Shared) (H : Hp) (E : XK) (k : Nat) (hr : Room k (A.deeper (PyProof.Rows.envOfC "law" scope s.heap.objs.size f cdv))) (U : Addr → Bool) (H1 : Hp) : Ct where
  X := cxOf (L2N.CX P w) P w K mg base N "law" scope f cdv A outer s H E
  W := fun _ _ _ _ => False
  tk := takes0N
  O := U
  U := U
  le := fun b h => h
  base := H1
  lv := k
  room := L2H.roomH_of hr
  hd := fun _ => hr.hd
theorem env_turn {C : Ct} {n : Nat} {σ : L2.St} {x : V} {H : Hp} (hl : σ.length = n + 2) (hO : C.O = C.U) (hc : ∀ b, C.U b = true → ∃ k, Cell k H b) (g : Gr C.U C.base H) : Env C (.no :: .raw x :: List.replicate n .no) (σ.set 1 (some x)) H := by
  have hg : ∀ i, gt (.no :: .raw x :: List.replicate n .no) i = .raw x ∧ i = 1 ∨ gt (.no :: .raw x :: List.replicate n .no) i = .no := fun i => by
    rcases i with _ | _ | i
    · exact .inr rfl
    · exact .inl ⟨rfl, rfl⟩
    · right
      unfold gt
      rw [List.getD_cons_succ, List.getD_cons_succ, List.getD_eq_getElem?_getD, List.getElem?_replicate]
      split <;> rfl
  refine ⟨by rw [List.length_set, hl]; simp, fun i => ?_, hc, fun b hb => ?_, g, fun i j p h1 h2 => ?_⟩
  · rcases hg i with ⟨e, rfl⟩ | e
    · rw [e]
      show (σ.set 1 (some x)).getD 1 none = some x
      rw [List.getD_eq_getElem?_getD, List.getElem?_set_self (by omega)]
      rfl
    · rw [e]; trivial
  · rw [hO] at hb
    obtain ⟨k, hk⟩ := hc b hb
    exact hk.there
  · rcases hg i with ⟨e, _⟩ | e <;> rw [e] at h1 <;> cases h1
def lawSp (K : PySem.W.Frag) (Pt : Addr) : Sp := fun vs H Q _ => ∃ (a : Addr) (ns : List Int), vs = [.ref a] ∧ SqL K H a (ns.map V.int) ∧ ns.length ≤ 100 ∧ H Pt = some (.tbl #[]) ∧ ∀ H', Q (.bl true) H'
theorem law_run {P : Program} {w : World} {K : PySem.W.Frag} {mg : Str → Option Value} {base : Heap} {st : Stmt} {N : List Str} {k n : Nat} {f Pt : Addr} {body : List Stmt} {m : Int} {pd pr ps pm pc pf pt pe : Pos} {jm jt : Nat}
    {dV kV doc pm' cdv ct oc : Value} {an od : Option Addr} {osl : Array (Option Value)}
    (lk : K.lookup f = some ⟨oc, od, .func (PySem.W.fnOf "law" "law" (defArgs st) (defBody st) (defScope st) dV kV doc pm' an cdv ct), osl⟩) (hcd : PySem.W.codeIn K cdv "law" = true) (S : FnScope N ["_law_script"] (defScope st))
    (hbd : defBody st = [.For (.Name "_law_dice" pd) (.Call (.Name "_law_rounds" pr) [.Name "_law_script" ps, .Constant (.int m) jm pm] [] pc) body [] pf, .Return (some (.Constant (.bool true) jt pt)) pe])
    (hN0 : N[0]? = some ("_law_script" : Str)) (hN1 : N[1]? = some ("_law_dice" : Str)) (hn : N.length = n + 2) (hs : (defScope st).names.lookup ("_law_script" : Str) = some .local) (hdl : Loc (defScope st) "_law_dice") (hrg : (defScope st).names.lookup ("_law_rounds" : Str) = some .globalImplicit) (hm : 1 ≤ m ∧ m ≤ 100) (hk : 2 ≤ k)
    (G : Fc P w K mg base "_law_rounds" ["_law_script", "_law_most"] 2 (spS (α := Int) (fun m => [.int m]) (fun ns m => ns.length ≤ 100 ∧ 1 ≤ m ∧ m ≤ 100) (fun _ d => ∃ cs : List Int, d = .list (cs.map dcD)) K))
    (turn : ∀ A outer s H E hr U H1 a, U a = true → Cell none H1 a → U Pt = true → Cell (some lamQ) H1 Pt →
      DSs (lawC P w K mg base N (defScope st) f cdv A outer s H E k hr U H1) (turnF (fun ρ => ρ.length = N.length) fun _ => False) (.no :: .raw (.ref a) :: List.replicate n .no) body) :
    FnOk P w K mg base (L2N.CX P w) (k + 1) f (PySem.W.fnOf "law" "law" (defArgs st) (defBody st) (defScope st) dV kV doc pm' an cdv ct) ["_law_script"] (lawSp K Pt) := by
  refine fn_of lk hcd S (fun vs H Q E ⟨a, ns, e, _⟩ => by rw [e]; rfl) fun A outer s H vs Q E hr ⟨a, ns, ev, hq, hlen, hP, hQ⟩ => ?_
  subst ev
  rw [hbd]
  refine ⟨_, pss_cons (ps_for (passes_of rfl) rfl (pi_list pE) (pg_name S.nd hN1 hdl (.inl rfl)) pSs (fun _ => rfl)) (pss_one (ps_ret pe_bl)), ?_⟩
  have E0 : Env (scrC P w K mg base N "law" (defScope st) f cdv A outer s H E k hr fun _ => false) (.raw (.ref a) :: rho (N.length - 1) []) (L2.start N [.ref a]) H :=
    env_scr (C := scrC P w K mg base N "law" (defScope st) f cdv A outer s H E k hr fun _ => false) (ds := []) (us := []) (fun _ => rfl) .nil (by rw [hn]; show 1 ≤ _; omega) (fun b h => by cases h)
  have call := de_scr (C := scrC P w K mg base N "law" (defScope st) f cdv A outer s H E k hr fun _ => false) (Ξ := none') (ρ := .raw (.ref a) :: rho (N.length - 1) []) (pos := pc) (p := pr) (p1 := ps) (es := [.Constant (.int m) jm pm]) (P := fun d => ∃ cs : List Int, d = .list (cs.map dcD)) 0 (y := "_law_script") m G rfl rfl hq hrg hN0 (.inl hs) (da_cons de_int da_nil) ⟨hlen, hm⟩ (fun d h => h) hk
  refine call _ H E0 _ (fun d v H1 ⟨cs, ed⟩ g r => ?_) (fun _ _ f _ => f.elim)
  subst ed
  obtain ⟨l, xs, rfl, h1, h2⟩ := (r.up hid_le).ref_list
  have hs1 : Same H H1 := g.same
  refine ⟨l, rfl, ⟨xs, SqL.of h1⟩, ?_⟩
  have hdice : ∀ x, x ∈ xs → ∃ b, x = .ref b ∧ Cell none H1 b := fun x hx => by
    obtain ⟨i, hi⟩ := List.mem_iff_getElem?.mp hx
    obtain ⟨d, e1, e2⟩ := h2.get' hi
    rw [List.getElem?_map] at e1
    cases q : cs[i]? with
    | none => rw [q] at e1; cases e1
    | some c =>
      rw [q] at e1
      have e1 : some (dcD c) = some d := e1
      injection e1 with e1
      subst e1
      obtain ⟨b, ys, rfl, h3, h4⟩ := e2.ref_list
      obtain ⟨v1, v2, rfl, r1, r2⟩ := h4.two
      rw [r1.int_inv, r2.int_inv] at h3
      exact ⟨b, rfl, c, 0, h3⟩
  have hP1 : H1 Pt = some (.tbl #[]) := hs1 _ _ hP
  let U : Addr → Bool := fun b => @decide (b = Pt ∨ V.ref b ∈ xs) (Classical.propDecidable _)
  have hU : ∀ b, U b = true ↔ (b = Pt ∨ V.ref b ∈ xs) := fun b => by
    show @decide _ (Classical.propDecidable _) = true ↔ _
    exact @decide_eq_true_iff _ (Classical.propDecidable _)
  have hcell : ∀ b, U b = true → ∃ k, Cell k H1 b := fun b hb => by
    rcases (hU b).mp hb with e | hm
    · rw [e]; exact ⟨some lamQ, rfl, LamX.TabS.nil hP1⟩
    · obtain ⟨b', e, hc⟩ := hdice _ hm
      cases e
      exact ⟨none, hc⟩
  have hlU : U l = false := by
    cases e : U l with
    | false => rfl
    | true =>
      exfalso
      rcases (hU l).mp e with z | hm
      · rw [z, hP1] at h1; cases h1
      · obtain ⟨b', e', x, y, hc⟩ := hdice _ hm
        cases e'
        rw [h1] at hc
        injection hc with hc
        injection hc with hc
        rw [hc] at hm
        simp at hm
  refine ⟨fun i mm σ' H' => mm = xs.length - i ∧ i ≤ xs.length ∧ σ'.length = N.length ∧ Gr U H1 H', ⟨xs.length, rfl, Nat.zero_le _, start_len N [.ref a] (by rw [hn]; show 1 ≤ _; omega), Gr.refl _ _⟩, ?_⟩
  rintro i mm σ' H' ⟨rfl, hi, hσ, gg⟩
  have hl' : H' l = some (.lst xs) := gg.keep _ _ hlU h1
  by_cases hlt : i < xs.length
  · have hx : xs[i]? = some xs[i] := List.getElem?_eq_getElem hlt
    refine .inr ⟨⟨xs, xs[i], SqL.of hl', hx⟩, fun σ2 H2 => i + 1 ≤ xs.length ∧ σ2.length = N.length ∧ Gr U H1 H2, fun σ2 H2 ⟨a1, a2⟩ => ⟨xs.length - (i + 1), by omega, rfl, a1, a2⟩, fun x H2 ⟨e1, e2⟩ => ?_⟩
    subst e1
    have ex := e2 xs (SqL.of hl')
    rw [hx] at ex
    injection ex with ex
    subst ex
    obtain ⟨b, eb, hcb⟩ := hdice _ (List.getElem_mem hlt)
    rw [eb]
    have hb : U b = true := (hU b).mpr (.inr (by rw [← eb]; exact List.getElem_mem hlt))
    refine turn A outer s H E hr U H1 b hb hcb ((hU Pt).mpr (.inl rfl)) ⟨rfl, LamX.TabS.nil hP1⟩ _ _ _ (env_turn (C := lawC P w K mg base N (defScope st) f cdv A outer s H E k hr U H1) (by rw [hσ, hn]) rfl (fun b hb => by
      obtain ⟨kk, hk⟩ := hcell b hb
      exact ⟨kk, gg.cell b kk hb hk⟩) gg) ⟨fun ρ' σ3 H3 f E' s' => ⟨hlt, by rw [E'.len]; exact f, E'.gr⟩, fun _ _ _ f => f.elim, fun _ _ _ f => f.elim, fun _ _ _ f => f.elim, fun ρ' σ3 H3 f E' s' => ⟨hlt, by rw [E'.len]; exact f, E'.gr⟩⟩
  · exact .inl ⟨⟨xs, SqL.of hl', by omega⟩, hQ H'⟩
end DD

namespace DD
open PySem L2
variable {K : PySem.W.Frag}
def fNB (K : PySem.W.Frag) (b : PyData) : Out := if isW b 2 12 = true then .rt .none else .ex (He.ga K "InvalidBase")
def fNR (K : PySem.W.Frag) (b v : PyData) : Out := if isW b 2 12 = true then (if rowOk (match b with | .int i => i | _ => 0) v = true then .rt .none else .ex (He.ga K "InvalidRow")) else .ex (He.ga K "InvalidBase")
def fIR (K : PySem.W.Frag) (b v : PyData) : Out := if isW b 2 12 = true then .rt (.bool (rowOk (match b with | .int i => i | _ => 0) v)) else .ex (He.ga K "InvalidBase")
theorem fNR_ok {b : Int} {ns : List Int} (hb : Base b) (h : Row b ns) : fNR K (.int b) (tI ns) = .rt .none := by
  unfold fNR
  rw [hb.ok, if_pos rfl, h.ok, if_pos rfl]

def fNL (K : PySem.W.Frag) (b v : PyData) : Out := if isW b 2 12 = true then (if isW v 1 8 = true then .rt .none else .ex (He.ga K "InvalidLength")) else .ex (He.ga K "InvalidBase")
def fNS (K : PySem.W.Frag) (b : Int) (n : Nat) : Out := if 10000 < b ^ n then .ex (He.ga K "TooLarge") else .rt .none
def sq (t : Bool) (ns : List Int) : PyData := if t then tI ns else lI ns
theorem take_snoc {ns : List Int} {k : Nat} {n : Int} (h : ns[k]? = some n) : ns.take (k + 1) = ns.take k ++ [n] := by
  rw [List.take_succ, h]; rfl
theorem iv_rev (ns : List Int) : (iv ns).reverse = iv ns.reverse := List.map_reverse.symm
end DD
namespace DD
open PySem PySem.Spec PyProof.Rows L2
/-! ## min, max of data -/
def rMM (K : PySem.W.Frag) (m : PyData → List PyData → PyData) : List V → Hp → VK → Prop := fun vs H Q => ∃ (a : Addr) (xs : List V) (x : PyData) (ds : List PyData), vs = [.ref a] ∧ (SqL K H a xs ∨ SqT K H a xs) ∧ DpAll K H xs (x :: ds) ∧ PySem.W.AlikeAll (x :: ds) ∧ PyData.canLayAll0 (x :: ds) = true ∧ PyData.depthAll (x :: ds) ≤ 60 ∧
  ∀ (i : Nat) (v : V), xs[i]? = some v → (x :: ds)[i]? = some (m x ds) → Q v H
theorem canLay_at : ∀ {ds : List PyData} {i : Nat} {d : PyData}, PyData.canLayAll0 ds = true → ds[i]? = some d → d.canLay0 = true
  | [], _, _, _, h => by simp at h
  | x :: xs, 0, d, h, e => by
    rw [PyData.canLayAll0, Bool.and_eq_true] at h
    simp at e; subst e; exact h.1
  | x :: xs, i + 1, d, h, e => by
    rw [PyData.canLayAll0, Bool.and_eq_true] at h
    exact canLay_at h.2 (by simpa using e)
theorem mm_core {X : Cx} {pins : List (Addr × Obj)} {σ : L2.St} {H : Hp} {s : Shared} {xs : List V} {its : List Value} {ds : List PyData} {as : List Addr} {i : Nat} {v : Value} {h' : Heap} {m : PyData} {bs : List Addr} (rv : Vals xs its) (hr : ReadsAll s.heap its ds as) (hc : PyData.canLayAll0 ds = true) (hv : its.toArray[i]? = some v) (r : Reads h' v m bs) (k : ∀ b o, s.heap.get? b = some o → h'.get? b = some o) :
    ∃ x, xs[i]? = some x ∧ L2.RelV x v ∧ ds[i]? = some m := by
  have hv' : its[i]? = some v := by simpa using hv
  obtain ⟨cs, r1, hi, _, _⟩ := PySem.W.readsAll_at hr i v hv'
  have e1 : ds[i]? = some (ds.getD i .none) := by rw [List.getD_eq_getElem?_getD, List.getElem?_eq_getElem hi]; rfl
  have e2 : ds.getD i .none = m := SeqAt.Reads.unique _ _ v _ _ (canLay_at hc e1) (PySem.W.reads_keeps k r1) r
  have hl := rv.length
  have hi2 : i < xs.length := by rw [hl]; exact (List.getElem?_eq_some_iff.mp hv').1
  obtain ⟨u, hu, ru⟩ := rv.get (List.getElem?_eq_getElem hi2)
  rw [hv'] at hu
  injection hu with hu
  subst hu
  exact ⟨_, List.getElem?_eq_getElem hi2, ru, by rw [e1, e2]⟩
theorem cr_minD {X : Cx} (hc : X.calm = true) (hu : X.A.units + 100 < cLine) : CallR X (.builtin "min") (rMM X.K PySem.W.minD) := by
  rintro pins s σ H vs us Q I r ⟨a, xs, x, ds, rfl, hs, hd, ha, hcl, hdp, q⟩
  rw [Vals.ref1 r]
  rcases hs with hs | hs
  · obtain ⟨its, rv, pl, _⟩ := I.list hs
    obtain ⟨as, hr⟩ := Dp.readsAll I (x :: ds) xs its hd rv
    refine PySem.W.min_list_data (I.ok.hd hc) pl.isList (by simpa using hr) ha (by omega) fun i v h' tk bs hv rr k => ?_
    obtain ⟨z, e1, e2, e3⟩ := mm_core (X := X) (pins := pins) (σ := σ) (H := H) rv hr hcl hv rr k
    exact ⟨z, H, I.kept k, e2, q i z e1 e3⟩
  · obtain ⟨its, rv, pl, _⟩ := I.tuple hs
    obtain ⟨as, hr⟩ := Dp.readsAll I (x :: ds) xs its hd rv
    refine PySem.W.min_tuple_data (I.ok.hd hc) pl (by simpa using hr) ha (by omega) fun i v h' tk bs hv rr k => ?_
    obtain ⟨z, e1, e2, e3⟩ := mm_core (X := X) (pins := pins) (σ := σ) (H := H) rv hr hcl hv rr k
    exact ⟨z, H, I.kept k, e2, q i z e1 e3⟩
theorem cr_maxD {X : Cx} (hc : X.calm = true) (hu : X.A.units + 100 < cLine) : CallR X (.builtin "max") (rMM X.K PySem.W.maxD) := by
  rintro pins s σ H vs us Q I r ⟨a, xs, x, ds, rfl, hs, hd, ha, hcl, hdp, q⟩
  rw [Vals.ref1 r]
  rcases hs with hs | hs
  · obtain ⟨its, rv, pl, _⟩ := I.list hs
    obtain ⟨as, hr⟩ := Dp.readsAll I (x :: ds) xs its hd rv
    refine PySem.W.max_list_data (I.ok.hd hc) pl.isList (by simpa using hr) ha (by omega) fun i v h' tk bs hv rr k => ?_
    obtain ⟨z, e1, e2, e3⟩ := mm_core (X := X) (pins := pins) (σ := σ) (H := H) rv hr hcl hv rr k
    exact ⟨z, H, I.kept k, e2, q i z e1 e3⟩
  · obtain ⟨its, rv, pl, _⟩ := I.tuple hs
    obtain ⟨as, hr⟩ := Dp.readsAll I (x :: ds) xs its hd rv
    refine PySem.W.max_tuple_data (I.ok.hd hc) pl (by simpa using hr) ha (by omega) fun i v h' tk bs hv rr k => ?_
    obtain ⟨z, e1, e2, e3⟩ := mm_core (X := X) (pins := pins) (σ := σ) (H := H) rv hr hcl hv rr k
    exact ⟨z, H, I.kept k, e2, q i z e1 e3⟩
section
variable {C : Ct} {Ξ : Addr → Prop} {ρ : Rho} {e : Expr} {pos p : Pos}
theorem rc_mm {K : PySem.W.Frag} {m : PyData → List PyData → PyData} {x : PyData} {ds : List PyData} {t : Bool} (ha : PySem.W.AlikeAll (x :: ds)) (hc : PyData.canLayAll0 (x :: ds) = true) (hd : PyData.depthAll (x :: ds) ≤ 60) : RCd (rMM K m) [if t then .tuple (x :: ds) else .list (x :: ds)] (fun d => d = m x ds) := fun A ρ σ H vs Q E r k => by
  obtain ⟨v, rfl, r1⟩ := r.one
  cases t with
  | true =>
    obtain ⟨a, xs, rfl, h1, h2⟩ := At.ref_tup r1
    exact ⟨a, xs, x, ds, rfl, .inr (SqT.of (hid_le _ _ h1)), AtAll.dp' _ _ _ (nods_lay _ hc) (h2.up hid_le), ha, hc, hd, fun i v e1 e2 => by
      obtain ⟨d, e3, r3⟩ := h2.get' e1
      rw [e2] at e3
      injection e3 with e3
      exact k _ _ H rfl (Same.refl _) (by rw [e3]; exact r3)⟩
  | false =>
    obtain ⟨a, xs, rfl, h1, h2⟩ := At.ref_list r1
    exact ⟨a, xs, x, ds, rfl, .inl (SqL.of (hid_le _ _ h1)), AtAll.dp' _ _ _ (nods_lay _ hc) (h2.up hid_le), ha, hc, hd, fun i v e1 e2 => by
      obtain ⟨d, e3, r3⟩ := h2.get' e1
      rw [e2] at e3
      injection e3 with e3
      exact k _ _ H rfl (Same.refl _) (by rw [e3]; exact r3)⟩
theorem alike_iv (n : Int) (ns : List Int) : PySem.W.AlikeAll (.int n :: iv ns) := by
  have h : ∀ x ∈ (PyData.int n :: iv ns), ∃ i, x = .int i := fun x hx => by
    rcases List.mem_cons.mp hx with e | hx
    · exact ⟨n, e⟩
    · obtain ⟨i, _, e⟩ := List.mem_map.mp hx; exact ⟨i, e.symm⟩
  refine ⟨fun x hx y hy => ?_, fun x hx => ?_⟩
  · obtain ⟨i, rfl⟩ := h x hx
    obtain ⟨j, rfl⟩ := h y hy
    rfl
  · obtain ⟨i, rfl⟩ := h x hx
    simp
def minI : List Int → Int
  | [] => 0
  | n :: ns => ns.foldl min n
def maxI : List Int → Int
  | [] => 0
  | n :: ns => ns.foldl max n
theorem de_minI {ns : List Int} {t : Bool} (hne : ns ≠ []) (hg : Gl C.X "min") (hm : C.X.mg "min" = none) (ha : DEd C Ξ ρ e (sq t ns)) (hcalm : C.X.calm = true := by rfl) (he : starEach [e] C.X.env = (false, eval e C.X.env) :: starEach [] C.X.env := by rfl) (hpl : (backTo pos (starEach [] C.X.env)).any (·.1) = false := by rfl) : DEd C Ξ ρ (.Call (.Name "min" p) [e] [] pos) (.int (minI ns)) := by
  cases ns with
  | nil => exact absurd rfl hne
  | cons n ns =>
    have := lay_iv (n :: ns)
    exact DE.to (de_cb (cr_minD hcalm C.un) hg hm b_min (da_cons ha da_nil he) (rc_mm (t := t) (x := .int n) (ds := iv ns) (alike_iv n ns) this.1 (by rw [show PyData.int n :: iv ns = iv (n :: ns) from rfl, this.2]; decide)) (he := he) (hpl := hpl)) (PySem.W.minD_ints n ns)
theorem de_maxI {ns : List Int} {t : Bool} (hne : ns ≠ []) (hg : Gl C.X "max") (hm : C.X.mg "max" = none) (ha : DEd C Ξ ρ e (sq t ns)) (hcalm : C.X.calm = true := by rfl) (he : starEach [e] C.X.env = (false, eval e C.X.env) :: starEach [] C.X.env := by rfl) (hpl : (backTo pos (starEach [] C.X.env)).any (·.1) = false := by rfl) : DEd C Ξ ρ (.Call (.Name "max" p) [e] [] pos) (.int (maxI ns)) := by
  cases ns with
  | nil => exact absurd rfl hne
  | cons n ns =>
    have := lay_iv (n :: ns)
    exact DE.to (de_cb (cr_maxD hcalm C.un) hg hm b_max (da_cons ha da_nil he) (rc_mm (t := t) (x := .int n) (ds := iv ns) (alike_iv n ns) this.1 (by rw [show PyData.int n :: iv ns = iv (n :: ns) from rfl, this.2]; decide)) (he := he) (hpl := hpl)) (PySem.W.maxD_ints n ns)
end
end DD

namespace DD
open PySem L2
variable {K : PySem.W.Frag}
def unI : PyData → Int
  | .int i => i
  | _ => 0
def unT : PyData → List Int
  | .tuple ds => ds.map unI
  | .list ds => ds.map unI
  | _ => []
theorem unT_iv (ns : List Int) : (iv ns).map unI = ns := by
  unfold iv
  rw [List.map_map]
  exact List.map_id ns
theorem unT_tI (ns : List Int) : unT (tI ns) = ns := unT_iv ns
theorem fNR_cases (b v : PyData) : (∃ bi ns, b = .int bi ∧ v = tI ns ∧ Base bi ∧ Row bi ns ∧ fNR K b v = .rt .none) ∨ (∃ c, fNR K b v = .ex c) := by
  unfold fNR
  cases h : isW b 2 12 with
  | false => rw [if_neg (by decide)]; exact .inr ⟨_, rfl⟩
  | true =>
    obtain ⟨bi, rfl, hb⟩ := base_iff.mp h
    rw [if_pos rfl]
    show (∃ _, _) ∨ (∃ c, (if rowOk bi v = true then Out.rt .none else _) = _)
    cases h2 : rowOk bi v with
    | false => rw [if_neg (by decide)]; exact .inr ⟨_, rfl⟩
    | true =>
      obtain ⟨ns, rfl, hr⟩ := rowOk_iff.mp h2
      exact .inl ⟨bi, ns, rfl, rfl, hb, hr, by rw [if_pos rfl]⟩
/-- a def of a base and a row -/
def fRow (K : PySem.W.Frag) (r : Int → List Int → Out) (b v : PyData) : Out := match fNR K b v with
  | .rt _ => r (unI b) (unT v)
  | o => o
theorem fRow_ok {r : Int → List Int → Out} {b : Int} {ns : List Int} (hb : Base b) (h : Row b ns) : fRow K r (.int b) (tI ns) = r b ns := by
  unfold fRow
  rw [fNR_ok hb h]
  show r b (unT (tI ns)) = _
  rw [unT_tI]
theorem rowF {r : Int → List Int → Out} {b : Int} {ns : List Int} {d : PyData} (hb : Base b) (h : Row b ns) (e : r b ns = .rt d) : Out.rt d = fRow K r (.int b) (tI ns) := by rw [fRow_ok hb h, e]
theorem fRow_ex {r : Int → List Int → Out} {b v : PyData} {c : Addr} (h : fNR K b v = .ex c) : fRow K r b v = .ex c := by
  unfold fRow
  rw [h]
theorem fNR_base {b v : PyData} (h : isW b 2 12 = false) : fNR K b v = .ex (He.ga K "InvalidBase") := by
  unfold fNR
  rw [h, if_neg (by decide)]
theorem fNR_row {b : Int} {v : PyData} (hb : Base b) (h : rowOk b v = false) : fNR K (.int b) v = .ex (He.ga K "InvalidRow") := by
  unfold fNR
  rw [hb.ok, if_pos rfl]
  show (if rowOk b v = true then _ else _) = _
  rw [h, if_neg (by decide)]
theorem thenR {F : Out → Prop} {ρ : Rho} {b v : PyData} (h1 : ∀ c, fNR K b v = .ex c → F (.ex c)) (h2 : ∀ bi ns, b = .int bi → v = tI ns → Base bi → Row bi ns → F (.nx ρ)) : thenO (fNR K b v) F ρ := by
  rcases fNR_cases (K := K) b v with ⟨bi, ns, e1, e2, hb, hr, e⟩ | ⟨c, e⟩
  · rw [e]; exact h2 bi ns e1 e2 hb hr
  · rw [e]; exact h1 c e
/-! ## lengths -/
theorem fNL_cases (b v : PyData) : (∃ bi n, b = .int bi ∧ v = .int n ∧ Base bi ∧ (1 ≤ n ∧ n ≤ 8) ∧ fNL K b v = .rt .none) ∨ (∃ c, fNL K b v = .ex c) := by
  unfold fNL
  cases h : isW b 2 12 with
  | false => rw [if_neg (by decide)]; exact .inr ⟨_, rfl⟩
  | true =>
    obtain ⟨bi, rfl, hb⟩ := base_iff.mp h
    rw [if_pos rfl]
    cases h2 : isW v 1 8 with
    | false => rw [if_neg (by decide)]; exact .inr ⟨_, rfl⟩
    | true =>
      cases v with
      | int n =>
        unfold isW at h2
        rw [Bool.and_eq_true, decide_eq_true_iff, decide_eq_true_iff] at h2
        exact .inl ⟨bi, n, rfl, rfl, hb, h2, by rw [if_pos rfl]⟩
      | _ => cases h2
def fNB2 (K : PySem.W.Frag) (b v : PyData) : Out := match fNL K b v with
  | .rt _ => fNS K (unI b) (unI v).toNat
  | o => o
theorem fNL_base {b v : PyData} (h : isW b 2 12 = false) : fNL K b v = .ex (He.ga K "InvalidBase") := by
  unfold fNL
  rw [h, if_neg (by decide)]
theorem fNL_len {b : Int} {v : PyData} (hb : Base b) (h : isW v 1 8 = false) : fNL K (.int b) v = .ex (He.ga K "InvalidLength") := by
  unfold fNL
  rw [hb.ok, if_pos rfl, h, if_neg (by decide)]
theorem fNL_ok {b n : Int} (hb : Base b) (h : 1 ≤ n ∧ n ≤ 8) : fNL K (.int b) (.int n) = .rt .none := by
  unfold fNL
  rw [hb.ok, if_pos rfl, show isW (.int n) 1 8 = true by unfold isW; rw [Bool.and_eq_true, decide_eq_true_iff, decide_eq_true_iff]; exact h, if_pos rfl]
theorem fNB2_ex {b v : PyData} {c : Addr} (h : fNL K b v = .ex c) : fNB2 K b v = .ex c := by
  unfold fNB2
  rw [h]
/-! ## gaps -/
def gapAt (s : List Int) (i : Nat) : Int := s.getD (s.length - 1 - i) 0 - s.getD i 0
def gapI (ns : List Int) : List Int := (List.range (ns.length / 2)).map fun i => gapAt (srtI ns) i
def cplI (b : Int) (ns : List Int) : List Int := ns.map fun d => b - 1 - d
theorem atI_pos {α : Type} {l : List α} {k : Nat} {d : α} (h : l[k]? = some d) : atI l (k : Int) = some d := by
  have := (List.getElem?_eq_some_iff.mp h).1
  unfold atI ixN
  rw [if_pos (by omega), if_pos (by omega)]
  exact h
theorem atI_neg {α : Type} {l : List α} {k : Nat} {d : α} (hk : k < l.length) (h : l[l.length - 1 - k]? = some d) : atI l (-1 - (k : Int)) = some d := by
  unfold atI ixN
  rw [if_neg (by omega), if_pos (by omega)]
  show l[(-1 - (k : Int) + l.length).toNat]? = _
  rw [show (-1 - (k : Int) + l.length).toNat = l.length - 1 - k by omega]
  exact h
theorem iv_getD {ns : List Int} {k : Nat} (h : k < ns.length) : (iv ns)[k]? = some (.int (ns.getD k 0)) := by
  unfold iv
  rw [List.getElem?_map, List.getElem?_eq_getElem h, List.getD_eq_getElem?_getD, List.getElem?_eq_getElem h]
  rfl
theorem rangeD_map (n : Nat) (f : Int → Int) : (rangeD 0 n).map (fun d => PyData.int (f (unI d))) = iv ((List.range n).map fun (i : Nat) => f (i : Int)) := by
  unfold rangeD iv
  rw [List.map_map, List.map_map]
  refine List.map_congr_left fun i _ => ?_
  show PyData.int (f (0 + (i : Nat))) = PyData.int (f i)
  rw [Int.zero_add]
end DD

namespace DD
open PySem L2
/-! ## least and greatest -/
theorem foldl_min_le (n : Int) : ∀ ns : List Int, ns.foldl min n ≤ n ∧ ∀ d ∈ ns, ns.foldl min n ≤ d
  | [] => ⟨Int.le_refl _, fun _ h => nomatch h⟩
  | k :: ns => by
    obtain ⟨h1, h2⟩ := foldl_min_le (min n k) ns
    refine ⟨Int.le_trans h1 (Int.min_le_left _ _), fun d hd => ?_⟩
    rcases List.mem_cons.mp hd with rfl | hd
    · exact Int.le_trans h1 (Int.min_le_right _ _)
    · exact h2 d hd
theorem foldl_min_mem (n : Int) : ∀ ns : List Int, ns.foldl min n = n ∨ ns.foldl min n ∈ ns
  | [] => .inl rfl
  | k :: ns => by
    rcases foldl_min_mem (min n k) ns with h | h
    · show (ns.foldl min (min n k) = n) ∨ ns.foldl min (min n k) ∈ k :: ns
      rw [h]
      by_cases e : n ≤ k
      · left; omega
      · right; rw [show min n k = k by omega]; exact List.mem_cons_self
    · exact .inr (List.mem_cons_of_mem _ h)
theorem foldl_max_le (n : Int) : ∀ ns : List Int, n ≤ ns.foldl max n ∧ ∀ d ∈ ns, d ≤ ns.foldl max n
  | [] => ⟨Int.le_refl _, fun _ h => nomatch h⟩
  | k :: ns => by
    obtain ⟨h1, h2⟩ := foldl_max_le (max n k) ns
    refine ⟨Int.le_trans (Int.le_max_left _ _) h1, fun d hd => ?_⟩
    rcases List.mem_cons.mp hd with rfl | hd
    · exact Int.le_trans (Int.le_max_right _ _) h1
    · exact h2 d hd
theorem foldl_max_mem (n : Int) : ∀ ns : List Int, ns.foldl max n = n ∨ ns.foldl max n ∈ ns
  | [] => .inl rfl
  | k :: ns => by
    rcases foldl_max_mem (max n k) ns with h | h
    · show (ns.foldl max (max n k) = n) ∨ ns.foldl max (max n k) ∈ k :: ns
      rw [h]
      by_cases e : n ≤ k
      · right; rw [show max n k = k by omega]; exact List.mem_cons_self
      · left; omega
    · exact .inr (List.mem_cons_of_mem _ h)
theorem minI_le {ns : List Int} {d : Int} (h : d ∈ ns) : minI ns ≤ d := by
  cases ns with
  | nil => cases h
  | cons n ns =>
    rcases List.mem_cons.mp h with rfl | h
    · exact (foldl_min_le _ ns).1
    · exact (foldl_min_le n ns).2 d h
theorem minI_mem {ns : List Int} (h : ns ≠ []) : minI ns ∈ ns := by
  cases ns with
  | nil => exact absurd rfl h
  | cons n ns =>
    rcases foldl_min_mem n ns with e | e
    · show ns.foldl min n ∈ _; rw [e]; exact List.mem_cons_self
    · exact List.mem_cons_of_mem _ e
theorem maxI_le {ns : List Int} {d : Int} (h : d ∈ ns) : d ≤ maxI ns := by
  cases ns with
  | nil => cases h
  | cons n ns =>
    rcases List.mem_cons.mp h with rfl | h
    · exact (foldl_max_le _ ns).1
    · exact (foldl_max_le n ns).2 d h
theorem maxI_mem {ns : List Int} (h : ns ≠ []) : maxI ns ∈ ns := by
  cases ns with
  | nil => exact absurd rfl h
  | cons n ns =>
    rcases foldl_max_mem n ns with e | e
    · show ns.foldl max n ∈ _; rw [e]; exact List.mem_cons_self
    · exact List.mem_cons_of_mem _ e
theorem Row.ne {b : Int} {ns : List Int} (h : Row b ns) : ns ≠ [] := fun e => by have := h.1.1; rw [e] at this; simp at this
/-! ## a number added to each digit -/
def repI (b : Int) : Nat → Int
  | 0 => 0
  | k + 1 => repI b k * b + 1
theorem numI_add (b c : Int) (ns : List Int) : numI b (ns.map fun d => d + c) = numI b ns + c * repI b ns.length := by
  refine snoc_ind (p := fun ns => numI b (ns.map fun d => d + c) = numI b ns + c * repI b ns.length) (by simp [numI, repI]) (fun xs x ih => ?_) ns
  rw [List.map_append, List.map_cons, List.map_nil, numI_app, ih, numI_app, List.length_append, List.length_cons, List.length_nil]
  show _ = _ + c * (repI b xs.length * b + 1)
  rw [Int.add_mul, Int.mul_add, Int.mul_one, Int.mul_assoc]
  omega
theorem srt_add (ns : List Int) (c : Int) : srtI (ns.map fun d => d + c) = (srtI ns).map fun d => d + c := by
  unfold srtI
  refine (List.map_mergeSort (r := fun a b => decide (a ≤ b)) (s := fun a b => decide (a ≤ b)) (f := fun d : Int => d + c) (l := ns) fun a _ b _ => ?_).symm
  by_cases h : a ≤ b
  · rw [decide_eq_true h, decide_eq_true (by omega)]
  · rw [decide_eq_false h, decide_eq_false (by omega)]
theorem fal_add (ns : List Int) (c : Int) : falI (ns.map fun d => d + c) = (falI ns).map fun d => d + c := by
  unfold falI
  rw [srt_add, List.map_reverse]
theorem step_add (b : Int) (ns : List Int) (c : Int) : stepI b (ns.map fun d => d + c) = stepI b ns := by
  unfold stepI
  rw [fal_add, srt_add, numI_add, numI_add, List.length_map, falI_len, srtI_len]
  congr 1
  omega
theorem getD_map {ns : List Int} {c : Int} {i : Nat} (h : i < ns.length) : (ns.map fun d => d + c).getD i 0 = ns.getD i 0 + c := by
  rw [List.getD_eq_getElem?_getD, List.getD_eq_getElem?_getD, List.getElem?_map, List.getElem?_eq_getElem h]
  rfl
theorem gap_add (ns : List Int) (c : Int) : gapI (ns.map fun d => d + c) = gapI ns := by
  unfold gapI
  rw [List.length_map]
  refine List.map_congr_left fun i hi => ?_
  have hi := List.mem_range.mp hi
  have hl := srtI_len ns
  unfold gapAt
  rw [srt_add, List.length_map, getD_map (by omega), getD_map (by omega)]
  omega
end DD
namespace DD
open PySem L2
/-- an if without else that only looks, then the rest -/
theorem dss_if {C : Ct} {F : Out → Prop} {ρ : Rho} {e : Expr} {s1 rest : List Stmt} {pos : Pos} {k : Bool} (hc : DTd C (xi F) ρ e k) (h1 : k = true → ∀ F' : Out → Prop, F' (.nx ρ) → DSs C F' ρ s1) (hr : DSs C F ρ rest) : DSs C F ρ (.If e s1 [] pos :: rest) :=
  dss_cons (ds_ifd hc (fun h => h1 h _ hr) fun _ => dss_nil hr)
/-- an if whose test is false -/
theorem dss_no {C : Ct} {F : Out → Prop} {ρ : Rho} {e : Expr} {s1 rest : List Stmt} {pos : Pos} {k : Bool} (hk : k = false) (hc : DTd C (xi F) ρ e k) (hr : DSs C F ρ rest) : DSs C F ρ (.If e s1 [] pos :: rest) :=
  dss_cons (ds_ifd hc (fun h => by rw [hk] at h; cases h) fun _ => dss_nil hr)
end DD

namespace DD
open PySem PySem.Spec PyProof.Rows L2
/-! ## a tuple times 1 -/
theorem tuple_mul1 (l : Addr) (items : Array Value) (n : Nat) (dd : Option Addr) (sl : Array (Option Value)) (u : Tok) :
    Meets (Builtin.«tuple.__mul__» ⟨[.ref l, .int 1 u], []⟩) (fun _ R s => s.heap.get? l = some { cls := .type "tuple", dict := dd, data := .seq items n, slots := sl } ∧ R (.ok (.ret (.ref l))) s) :=
  .of_wp fun prog w A R s h => by
    obtain ⟨hp, g, d, tk, os⟩ := s
    obtain ⟨hl, h⟩ := h
    have f1 := AutoSeq1.idx_int
    wp_walk using wpAny_loadPart' hl
    have c0 : (decide ((1 : Int) < -(2 ^ 63)) || decide ((1 : Int) ≥ 2 ^ 63)) = false := by decide
    have c1 : (items.isEmpty || (1 : Int) == 1) = true := by rw [show ((1 : Int) == 1) = true from rfl, Bool.or_true]
    repeat (first
      | (refine wpAny_ite_false (decide_eq_false (by rw [c0]; exact Bool.false_ne_true)) ?_; wp_walk using wpAny_loadPart' hl)
      | (refine wpAny_ite_true (decide_eq_true c1) ?_; wp_walk using wpAny_loadPart' hl))
    first | exact ⟨_, rfl, h⟩ | exact h
def rRep1 (K : PySem.W.Frag) : R2 := fun x y H Q => ∃ l xs, x = .ref l ∧ y = .int 1 ∧ SqT K H l xs ∧ Q (.ref l) H
theorem op_rep1 {X : Cx} : OpR X (binaryOp .Mult) (rRep1 X.K) := by
  rintro pins s σ H x y v u Q I rx ry ⟨l, xs, rfl, rfl, hT, q⟩
  cases rx
  obtain ⟨t, rfl⟩ := ry
  obtain ⟨its, r, ⟨⟨cls, dd, data, sl⟩, ho, hc, n, hd⟩, hs⟩ := I.tuple hT
  simp only at hc hd
  subst hc hd
  exact wpAny_binaryOp_repeat_ref (T := "tuple") (U := "int") (by decide) ⟨_, ho, rfl⟩ (fun s' => typeIs_int s' 1 t) noFill_tuple_mul F.fills_int_mul F.slot_int_rmul repeat_tuple F.slot_int_index.lookup (call_meets F.slot_int_rmul (typeIs_int s 1 t) F.entry_int_rmul (F.args_int_rmul_2 _ _) (int_rmul_tuple 1 t l its.toArray n dd sl) ⟨ho, rfl, ⟨_, ho, rfl⟩, call_meets F.slot_tuple_mul ⟨_, ho, rfl⟩ F.entry_tuple_mul (F.args_tuple_mul_2 _ _) (tuple_mul1 l its.toArray n dd sl t) ⟨ho, .ref l, H, I, rfl, q⟩⟩)
theorem de_rep {C : Ct} {Ξ : Addr → Prop} {ρ : Rho} {a b : Expr} {pos : Pos} {xs : List PyData} {k : Int} (ha : DEd C Ξ ρ a (.tuple xs)) (hb : DEd C Ξ ρ b (.int k)) (hne : xs ≠ []) (h1 : 1 ≤ k) (h3 : k ≤ 1000) (hz : xs.length ≤ 1000) : DEd C Ξ ρ (.BinOp a .Mult b pos) (.tuple (List.replicate k.toNat xs).flatten) := by
  by_cases e : k = 1
  · subst e
    refine de_op2 op_rep1 ha hb fun x y ex ey => ?_
    subst ex; subst ey
    intro A ρ' σ H v u Q E r1 r2 q
    obtain ⟨l, us, rfl, g1, g2⟩ := r1.ref_tup
    rw [r2.int_inv]
    refine ⟨l, us, rfl, rfl, SqT.of (hid_le _ _ g1), q _ _ H rfl (Same.refl _) ?_⟩
    rw [show (List.replicate (1 : Int).toNat xs).flatten = xs by simp]
    exact r1
  · exact de_repT ha hb hne (by omega) h3 hz
theorem rep_iv (k : Nat) (d : Int) : (List.replicate k [PyData.int d]).flatten = iv (List.replicate k d) := by
  induction k with
  | zero => rfl
  | succ k ih => rw [List.replicate_succ, List.flatten_cons, ih, List.replicate_succ]; rfl
/-! ## written, read -/
theorem numI_wr {b : Int} (hb : 1 ≤ b) : ∀ (k : Nat) (n : Int), 0 ≤ n → n < b ^ k → numI b (wrI b k n []) = n
  | 0, n, h0, h1 => by
    have : n = 0 := by simp at h1; omega
    subst this; rfl
  | k + 1, n, h0, h1 => by
    rw [wrI_succ, numI_app, numI_wr hb k (n / b) (Int.ediv_nonneg h0 (by omega)) (Int.ediv_lt_of_lt_mul (by omega) (by rw [Int.pow_succ] at h1; exact h1))]
    have := Int.mul_ediv_add_emod n b
    rw [Int.mul_comm] at this
    exact this
theorem wr_num {b : Int} : ∀ (ns : List Int), Dg b ns → wrI b ns.length (numI b ns) [] = ns := by
  refine snoc_ind (p := fun ns => Dg b ns → wrI b ns.length (numI b ns) [] = ns) (fun _ => rfl) fun xs x ih h => ?_
  have hx := h x (List.mem_append_right _ List.mem_cons_self)
  rw [List.length_append, List.length_cons, List.length_nil, wrI_succ, numI_app]
  have hb0 : b ≠ 0 := by omega
  rw [show (numI b xs * b + x) / b = numI b xs by
    rw [Int.add_comm, Int.add_mul_ediv_right _ _ hb0, Int.ediv_eq_zero_of_lt hx.1 hx.2, Int.zero_add], show (numI b xs * b + x) % b = x by
    rw [Int.add_comm, Int.add_mul_emod_self_right]; exact Int.emod_eq_of_lt hx.1 hx.2, ih (h.sub fun n hn => List.mem_append_left _ hn)]
theorem num_rep (b : Int) (k : Nat) : numI b (List.replicate k (b - 1)) = b ^ k - 1 := by
  induction k with
  | zero => simp [numI]
  | succ k ih =>
    rw [List.replicate_succ', numI_app, ih, Int.pow_succ, Int.sub_mul]
    omega
theorem num_zero (b : Int) (k : Nat) : numI b (List.replicate k 0) = 0 := by
  induction k with
  | zero => rfl
  | succ k ih => rw [List.replicate_succ', numI_app, ih]; simp
end DD

namespace DD
open PySem L2
/-! ## sorted digits -/
theorem srt_pw (ns : List Int) : (srtI ns).Pairwise fun a b => a ≤ b := by
  have h := List.pairwise_mergeSort (le := fun a b : Int => decide (a ≤ b)) (fun a b c h1 h2 => by
    have := of_decide_eq_true h1
    have := of_decide_eq_true h2
    exact decide_eq_true (by omega)) (fun a b => by
    by_cases h : a ≤ b
    · rw [decide_eq_true h]; rfl
    · rw [decide_eq_true (show b ≤ a by omega), Bool.or_true]) ns
  exact h.imp fun h => of_decide_eq_true h
theorem pw_eq {xs ys : List Int} (h : xs.Perm ys) (hx : xs.Pairwise fun a b => a ≤ b) (hy : ys.Pairwise fun a b => a ≤ b) : xs = ys :=
  List.Perm.eq_of_pairwise (le := fun a b : Int => a ≤ b) (fun a b _ _ h1 h2 => Int.le_antisymm h1 h2) hx hy h
theorem srt_perm {xs ys : List Int} (h : xs.Perm ys) : srtI xs = srtI ys := pw_eq (((srtI_perm xs).trans h).trans (srtI_perm ys).symm) (srt_pw xs) (srt_pw ys)
theorem srt_id {xs : List Int} (h : xs.Pairwise fun a b => a ≤ b) : srtI xs = xs := pw_eq (srtI_perm xs) (srt_pw xs) h
theorem fal_perm {xs ys : List Int} (h : xs.Perm ys) : falI xs = falI ys := by unfold falI; rw [srt_perm h]
theorem step_perm {b : Int} {xs ys : List Int} (h : xs.Perm ys) : stepI b xs = stepI b ys := by unfold stepI; rw [fal_perm h, srt_perm h, h.length_eq]
theorem gap_perm {xs ys : List Int} (h : xs.Perm ys) : gapI xs = gapI ys := by unfold gapI; rw [srt_perm h, h.length_eq]
theorem fal_of_perm (ns : List Int) : (falI ns).Perm ns := (List.reverse_perm _).trans (srtI_perm ns)
theorem pw_getD {s : List Int} (h : s.Pairwise fun a b => a ≤ b) {i j : Nat} (hij : i ≤ j) (hj : j < s.length) : s.getD i 0 ≤ s.getD j 0 := by
  rw [List.getD_eq_getElem?_getD, List.getD_eq_getElem?_getD, List.getElem?_eq_getElem hj, List.getElem?_eq_getElem (by omega)]
  show s[i] ≤ s[j]
  rcases Nat.lt_or_eq_of_le hij with h1 | h1
  · exact List.pairwise_iff_getElem.mp h i j (by omega) hj h1
  · subst h1; exact Int.le_refl _
theorem getD_mem {s : List Int} {i : Nat} (h : i < s.length) : s.getD i 0 ∈ s := by
  rw [List.getD_eq_getElem?_getD, List.getElem?_eq_getElem h]
  exact List.getElem_mem h
/-! ## the differences -/
def difI (s : List Int) : List Int := (List.range s.length).map fun i => gapAt s i
theorem num_sub (b : Int) : ∀ (xs ys : List Int) (f g : Int), xs.length = ys.length → (List.zipWith (fun x y => x - y) xs ys).foldl (fun f d => f * b + d) (f - g) = xs.foldl (fun f d => f * b + d) f - ys.foldl (fun f d => f * b + d) g
  | [], [], _, _, _ => rfl
  | [], _ :: _, _, _, h => by simp at h
  | _ :: _, [], _, _, h => by simp at h
  | x :: xs, y :: ys, f, g, h => by
    have ih := num_sub b xs ys (f * b + x) (g * b + y) (by simpa using h)
    show (List.zipWith (fun x y => x - y) xs ys).foldl (fun f d => f * b + d) ((f - g) * b + (x - y)) = _
    rw [show (f - g) * b + (x - y) = f * b + x - (g * b + y) by rw [Int.sub_mul]; omega]
    exact ih
theorem dif_zip (s : List Int) : difI s = List.zipWith (fun x y => x - y) s.reverse s := by
  apply List.ext_getElem
  · unfold difI
    rw [List.length_map, List.length_range, List.length_zipWith, List.length_reverse, Nat.min_self]
  · intro i h1 h2
    unfold difI at h1 ⊢
    rw [List.length_map, List.length_range] at h1
    rw [List.getElem_map, List.getElem_range, List.getElem_zipWith, List.getElem_reverse]
    unfold gapAt
    rw [List.getD_eq_getElem?_getD, List.getD_eq_getElem?_getD, List.getElem?_eq_getElem (by omega), List.getElem?_eq_getElem h1]
    rfl
theorem num_dif (b : Int) (s : List Int) : numI b (difI s) = numI b s.reverse - numI b s := by
  rw [dif_zip]
  have := num_sub b s.reverse s 0 0 (List.length_reverse)
  rw [Int.sub_zero] at this
  exact this
theorem step_dif (b : Int) (ns : List Int) : stepI b ns = wrI b ns.length (numI b (difI (srtI ns))) [] := by
  rw [num_dif]
  rfl
theorem gapAt_anti {s : List Int} {i : Nat} (h : i < s.length) : gapAt s (s.length - 1 - i) = -gapAt s i := by
  unfold gapAt
  rw [show s.length - 1 - (s.length - 1 - i) = i by omega]
  omega
theorem gap_dif {xs ys : List Int} (hl : xs.length = ys.length) (h : gapI xs = gapI ys) : difI (srtI xs) = difI (srtI ys) := by
  have sx := srtI_len xs
  have sy := srtI_len ys
  have low : ∀ i, i < xs.length / 2 → gapAt (srtI xs) i = gapAt (srtI ys) i := fun i hi => by
    have := congrArg (fun l => l[i]?) h
    unfold gapI at this
    simp only [List.getElem?_map] at this
    rw [List.getElem?_range hi, List.getElem?_range (by rw [← hl]; exact hi)] at this
    exact Option.some.inj this
  unfold difI
  rw [sx, sy, hl]
  refine List.map_congr_left fun i hi => ?_
  have hi := List.mem_range.mp hi
  by_cases h1 : i < xs.length / 2
  · exact low i h1
  · by_cases h2 : xs.length - 1 - i < xs.length / 2
    · have e1 := gapAt_anti (s := srtI xs) (i := xs.length - 1 - i) (by omega)
      have e2 := gapAt_anti (s := srtI ys) (i := xs.length - 1 - i) (by omega)
      rw [sx, show xs.length - 1 - (xs.length - 1 - i) = i by omega] at e1
      rw [sy, ← hl, show xs.length - 1 - (xs.length - 1 - i) = i by omega] at e2
      rw [e1, e2, low _ h2]
    · unfold gapAt
      rw [sx, sy, ← hl, show xs.length - 1 - i = i by omega]
      omega
theorem gap_step {b : Int} {xs ys : List Int} (hl : xs.length = ys.length) (h : gapI xs = gapI ys) : stepI b xs = stepI b ys := by
  rw [step_dif, step_dif, gap_dif hl h, hl]
/-! ## no arrangement is less -/
theorem numI_foldl (b : Int) : ∀ (ns : List Int) (f : Int), ns.foldl (fun f d => f * b + d) f = f * b ^ ns.length + numI b ns
  | [], f => by simp [numI]
  | n :: ns, f => by
    have h1 := numI_foldl b ns (f * b + n)
    have h2 := numI_foldl b ns (0 * b + n)
    show ns.foldl (fun f d => f * b + d) (f * b + n) = _
    have h3 : numI b (n :: ns) = ns.foldl (fun f d => f * b + d) (0 * b + n) := rfl
    rw [h1, h3, h2, List.length_cons, Int.pow_succ, Int.add_mul, Int.zero_mul, Int.zero_add, Int.mul_assoc, Int.mul_comm b (b ^ ns.length)]
    omega
theorem numI_cons (b n : Int) (ns : List Int) : numI b (n :: ns) = n * b ^ ns.length + numI b ns := by
  have h3 : numI b (n :: ns) = ns.foldl (fun f d => f * b + d) (0 * b + n) := rfl
  rw [h3, numI_foldl, Int.zero_mul, Int.zero_add]
def insI (x : Int) : List Int → List Int
  | [] => [x]
  | y :: s => if x ≤ y then x :: y :: s else y :: insI x s
def isrt : List Int → List Int
  | [] => []
  | x :: s => insI x (isrt s)
theorem ins_perm (x : Int) : ∀ s : List Int, (insI x s).Perm (x :: s)
  | [] => List.Perm.refl _
  | y :: s => by
    unfold insI
    split
    · exact List.Perm.refl _
    · exact ((ins_perm x s).cons y).trans (List.Perm.swap x y s)
theorem isrt_perm : ∀ s : List Int, (isrt s).Perm s
  | [] => List.Perm.refl _
  | x :: s => (ins_perm x (isrt s)).trans ((isrt_perm s).cons x)
theorem ins_pw (x : Int) : ∀ s : List Int, s.Pairwise (fun a b => a ≤ b) → (insI x s).Pairwise fun a b => a ≤ b
  | [], _ => by unfold insI; exact List.pairwise_singleton _ _
  | y :: s, h => by
    obtain ⟨h1, h2⟩ := List.pairwise_cons.mp h
    unfold insI
    split
    · rename_i hxy
      refine List.pairwise_cons.mpr ⟨fun z hz => ?_, h⟩
      rcases List.mem_cons.mp hz with rfl | hz
      · exact hxy
      · have := h1 z hz; omega
    · rename_i hxy
      refine List.pairwise_cons.mpr ⟨fun z hz => ?_, ins_pw x s h2⟩
      rcases List.mem_cons.mp ((ins_perm x s).mem_iff.mp hz) with rfl | hz
      · omega
      · exact h1 z hz
theorem isrt_pw : ∀ s : List Int, (isrt s).Pairwise fun a b => a ≤ b
  | [] => .nil
  | x :: s => ins_pw x _ (isrt_pw s)
theorem srt_isrt (ns : List Int) : srtI ns = isrt ns := pw_eq ((srtI_perm ns).trans (isrt_perm ns).symm) (srt_pw ns) (isrt_pw ns)
theorem ins_num {b : Int} (hb : 1 ≤ b) (x : Int) : ∀ s : List Int, numI b (insI x s) ≤ numI b (x :: s)
  | [] => Int.le_refl _
  | y :: s => by
    unfold insI
    split
    · exact Int.le_refl _
    · rename_i hxy
      have ih := ins_num hb x s
      have hp : ∀ k : Nat, 1 ≤ b ^ k := fun k => by
        induction k with
        | zero => simp
        | succ k ih => rw [Int.pow_succ]; have := Int.mul_le_mul ih hb (by decide) (by omega); omega
      have hlen : (insI x s).length = s.length + 1 := by rw [(ins_perm x s).length_eq, List.length_cons]
      rw [numI_cons, numI_cons b x (y :: s), numI_cons b y s, hlen, List.length_cons]
      rw [numI_cons b x s] at ih
      have h1 : b ^ s.length ≤ b ^ (s.length + 1) := by
        rw [Int.pow_succ]
        have := Int.mul_le_mul_of_nonneg_left hb (show 0 ≤ b ^ s.length by have := hp s.length; omega)
        omega
      have h2 : 0 ≤ (x - y) * (b ^ (s.length + 1) - b ^ s.length) := Int.mul_nonneg (by omega) (by omega)
      rw [Int.sub_mul, Int.mul_sub, Int.mul_sub] at h2
      omega
theorem isrt_num {b : Int} (hb : 1 ≤ b) : ∀ s : List Int, numI b (isrt s) ≤ numI b s
  | [] => Int.le_refl _
  | x :: s => by
    have h := isrt_num hb s
    have h2 := ins_num hb x (isrt s)
    show numI b (insI x (isrt s)) ≤ _
    rw [numI_cons, (isrt_perm s).length_eq] at h2
    rw [numI_cons]
    omega
theorem srt_num {b : Int} (hb : 1 ≤ b) (ns : List Int) : numI b (srtI ns) ≤ numI b ns := by rw [srt_isrt]; exact isrt_num hb ns
/-! ## the other digits -/
theorem num_cpl (b : Int) (ns : List Int) : numI b (cplI b ns) = b ^ ns.length - 1 - numI b ns := by
  refine snoc_ind (p := fun ns => numI b (cplI b ns) = b ^ ns.length - 1 - numI b ns) (by simp [numI, cplI]) (fun xs x ih => ?_) ns
  have e : cplI b (xs ++ [x]) = cplI b xs ++ [b - 1 - x] := by unfold cplI; rw [List.map_append]; rfl
  rw [e, numI_app, ih, numI_app, List.length_append, List.length_cons, List.length_nil, Int.pow_succ, Int.sub_mul, Int.sub_mul]
  omega
theorem cpl_perm {b : Int} {xs ys : List Int} (h : xs.Perm ys) : (cplI b xs).Perm (cplI b ys) := h.map _
theorem srt_cpl (b : Int) (ns : List Int) : srtI (cplI b ns) = cplI b (falI ns) := by
  refine pw_eq (((srtI_perm _).trans (cpl_perm (fal_of_perm ns).symm))) (srt_pw _) ?_
  unfold cplI falI
  rw [List.pairwise_map, List.pairwise_reverse]
  exact (srt_pw ns).imp fun h => by omega
theorem num_fal {b : Int} (hb : 1 ≤ b) (ns : List Int) : numI b ns ≤ numI b (falI ns) := by
  have h := srt_num hb (cplI b ns)
  rw [srt_cpl, num_cpl, num_cpl, falI_len] at h
  omega
/-! ## gaps go down, the first is the spread -/
theorem gapAt_mono {s : List Int} (h : s.Pairwise fun a b => a ≤ b) {i j : Nat} (hij : i ≤ j) (hj : j < s.length) : gapAt s j ≤ gapAt s i := by
  unfold gapAt
  have h1 := pw_getD h hij hj
  have h2 := pw_getD h (show s.length - 1 - j ≤ s.length - 1 - i by omega) (by omega)
  omega
theorem gap_down (ns : List Int) : (srtI (gapI ns)).reverse = gapI ns := by
  have h : srtI (gapI ns) = (gapI ns).reverse := by
    refine pw_eq ((srtI_perm _).trans (List.reverse_perm _).symm) (srt_pw _) ?_
    rw [List.pairwise_reverse]
    unfold gapI
    rw [List.pairwise_map]
    have : (List.range (ns.length / 2)).Pairwise (fun a b => a < b) := List.pairwise_lt_range
    refine List.Pairwise.imp_of_mem (fun {a b} ha hb hab => ?_) this
    have hb := List.mem_range.mp hb
    have hl := srtI_len ns
    exact gapAt_mono (srt_pw ns) (Nat.le_of_lt hab) (by omega)
  rw [h, List.reverse_reverse]
theorem srt_first {ns : List Int} (h : ns ≠ []) : (srtI ns).getD 0 0 = minI ns := by
  have hl := srtI_len ns
  have hp := List.length_pos_iff.mpr h
  have h1 : (srtI ns).getD 0 0 ∈ ns := (srtI_perm ns).mem_iff.mp (getD_mem (by omega))
  have h2 := minI_le h1
  obtain ⟨i, hi, e⟩ := List.mem_iff_getElem.mp ((srtI_perm ns).mem_iff.mpr (minI_mem h))
  have h3 := pw_getD (srt_pw ns) (Nat.zero_le i) hi
  rw [List.getD_eq_getElem?_getD (l := srtI ns) (i := i), List.getElem?_eq_getElem hi, e] at h3
  have h3 : (srtI ns).getD 0 0 ≤ minI ns := h3
  omega
theorem srt_last {ns : List Int} (h : ns ≠ []) : (srtI ns).getD (ns.length - 1) 0 = maxI ns := by
  have hl := srtI_len ns
  have hp := List.length_pos_iff.mpr h
  have h1 : (srtI ns).getD (ns.length - 1) 0 ∈ ns := (srtI_perm ns).mem_iff.mp (getD_mem (by omega))
  have h2 := maxI_le h1
  obtain ⟨i, hi, e⟩ := List.mem_iff_getElem.mp ((srtI_perm ns).mem_iff.mpr (maxI_mem h))
  have h3 := pw_getD (srt_pw ns) (show i ≤ ns.length - 1 by omega) (by omega)
  rw [List.getD_eq_getElem?_getD (l := srtI ns) (i := i), List.getElem?_eq_getElem hi, e] at h3
  have h3 : maxI ns ≤ (srtI ns).getD (ns.length - 1) 0 := h3
  omega
theorem gap_first {ns : List Int} (h : ns ≠ []) : gapAt (srtI ns) 0 = maxI ns - minI ns := by
  unfold gapAt
  rw [srtI_len, Nat.sub_zero, srt_first h, srt_last h]
end DD
namespace DD
open PySem L2
theorem cut_to {xs : List PyData} {r : Int} (h0 : 0 ≤ r) (h1 : r ≤ xs.length) : cutD xs none (some r) = xs.take r.toNat := by
  unfold cutD
  have e : HT.sIx xs.length xs.length (some r) = r.toNat := by
    unfold HT.sIx
    simp only
    first | omega | (split <;> omega) | (split <;> split <;> omega) | (simp; omega)
  rw [e]
  show ((xs.drop 0).take (r.toNat - 0)) = _
  rw [List.drop_zero, Nat.sub_zero]
theorem cut_from {xs : List PyData} {r : Int} (h0 : 0 ≤ r) (h1 : r ≤ xs.length) : cutD xs (some r) none = xs.drop r.toNat := by
  unfold cutD
  have e : HT.sIx xs.length 0 (some r) = r.toNat := by
    unfold HT.sIx
    simp only
    first | omega | (split <;> omega) | (split <;> split <;> omega) | (simp; omega)
  rw [e]
  show ((xs.drop r.toNat).take (xs.length - r.toNat)) = _
  exact List.take_of_length_le (by rw [List.length_drop]; exact Nat.le_refl _)
theorem iv_take (ns : List Int) (k : Nat) : (iv ns).take k = iv (ns.take k) := (List.map_take ..).symm
theorem iv_drop (ns : List Int) (k : Nat) : (iv ns).drop k = iv (ns.drop k) := (List.map_drop ..).symm
end DD
namespace DD
open PySem L2
/-- an if without else that sets some names, then the rest -/
theorem dss_ifS {C : Ct} {F : Out → Prop} {ρ : Rho} {e : Expr} {s1 rest : List Stmt} {pos : Pos} {k : Bool} (I : Rho → Prop) (hc : DTd C (xi F) ρ e k) (h1 : k = true → ∀ F' : Out → Prop, (∀ ρ', I ρ' → F' (.nx ρ')) → DSs C F' ρ s1) (h0 : I ρ) (hr : ∀ ρ', I ρ' → DSs C F ρ' rest) : DSs C F ρ (.If e s1 [] pos :: rest) :=
  dss_cons (ds_ifd hc (fun h => h1 h _ fun ρ' i => hr ρ' i) fun _ => dss_nil (hr ρ h0))
theorem set_getD {s : List Int} {m i : Nat} {d : Int} (h : i ≠ m) : (s.set m d).getD i 0 = s.getD i 0 := by
  rw [List.getD_eq_getElem?_getD, List.getD_eq_getElem?_getD, List.getElem?_set_ne (Ne.symm h)]
theorem set_pw {s : List Int} (h : s.Pairwise fun a b => a ≤ b) {m : Nat} {d : Int} (h0 : 1 ≤ m) (hm : m + 1 < s.length) (h1 : s.getD (m - 1) 0 ≤ d) (h2 : d ≤ s.getD (m + 1) 0) : (s.set m d).Pairwise fun a b => a ≤ b := by
  rw [List.pairwise_iff_getElem]
  intro i j hi hj hij
  rw [List.length_set] at hi hj
  have gd : ∀ k (hk : k < s.length), s[k] = s.getD k 0 := fun k hk => by rw [List.getD_eq_getElem?_getD, List.getElem?_eq_getElem hk]; rfl
  rw [List.getElem_set, List.getElem_set]
  split
  · rename_i e
    rw [if_neg (by omega), gd j hj]
    have := pw_getD h (show m + 1 ≤ j by omega) hj
    omega
  · split
    · rw [gd i hi]
      have := pw_getD h (show i ≤ m - 1 by omega) (by omega)
      omega
    · rw [gd i hi, gd j hj]
      exact pw_getD h (by omega) hj
theorem gap_set {ns : List Int} {d : Int} (hodd : ns.length % 2 = 1) (hpw : ((srtI ns).set (ns.length / 2) d).Pairwise fun a b => a ≤ b) : gapI ((srtI ns).set (ns.length / 2) d) = gapI ns := by
  have hl := srtI_len ns
  unfold gapI
  rw [srt_id hpw, List.length_set, hl]
  refine List.map_congr_left fun i hi => ?_
  have hi := List.mem_range.mp hi
  unfold gapAt
  rw [List.length_set, hl, set_getD (by omega), set_getD (by omega)]
def addI (ns : List Int) (n : Int) : List Int := ns.map fun d => d + n
theorem eqv_bool (a : Bool) : PyData.eqv (.bool a) (.bool a) = true := by rw [PyData.eqv]; simp
end DD

namespace DD
open PySem PySem.Spec PyProof.Rows L2 HT
section
variable {prog : Program} {w : World} {A : Around} {E : Value → Shared → Prop} {s : Shared}
theorem adjust_rev (n : Nat) : Builtin.Slice.sliceAdjust none none (-1) (n : Int) = ((n : Int) - 1, -1) := by
  unfold Builtin.Slice.sliceAdjust
  simp
theorem places_rev (n : Nat) : Builtin.Slice.slicePlaces ((n : Int) - 1) (-1) (-1) = n := by
  unfold Builtin.Slice.slicePlaces
  have h1 : ¬ ((-1 : Int) > 0) := by omega
  simp only [h1, if_false, Int.neg_neg, Int.ediv_one]
  split <;> omega
theorem fm_map {α β : Type} {f : α → Option β} {g : α → β} : ∀ {l : List α}, (∀ m ∈ l, f m = some (g m)) → l.filterMap f = l.map g
  | [], _ => rfl
  | x :: l, h => by
    rw [List.filterMap_cons_some (h x List.mem_cons_self), List.map_cons, fm_map fun m hm => h m (List.mem_cons_of_mem _ hm)]
theorem applied_rev {sl : Addr} {vl vu vs : Value} {n : Nat} {Q : Int × Int × Nat → Shared → Prop} (hs : s.heap.IsSliceOf sl vl vu vs) (pl : IsPart vl none) (pu : IsPart vu none) (ps : IsPart vs (some (-1)))
    (h : Q ((n : Int) - 1, -1, n) s) : wpAny (model prog w) A (Builtin.Slice.sliceApplied (.ref sl) (pure (n : Int))) Q E s := by
  obtain ⟨os, hos, _, hds⟩ := id hs
  unfold Builtin.Slice.sliceApplied Builtin.Slice.sliceFields
  refine wpAny_bind (wpAny_bind (wpAny_field hos hds (x := vl) rfl (wpAny_bind (wpAny_field hos hds (x := vu) rfl (wpAny_bind (wpAny_field hos hds (x := vs) rfl (wpAny_pure ?_)))))))
  refine wpAny_bind (slicePart_ ps ?_)
  show wpAny _ _ (if ((-1 : Int) == 0) = true then _ else _) _ _ s
  rw [if_neg (by decide)]
  refine wpAny_bind (slicePart_ pl (wpAny_bind (slicePart_ pu (wpAny_bind (wpAny_pure ?_)))))
  show wpAny _ _ (match Builtin.Slice.sliceAdjust none none (-1) (n : Int) with | (lo, hi) => pure (lo, (-1 : Int), Builtin.Slice.slicePlaces lo hi (-1))) _ _ s
  rw [adjust_rev]
  show wpAny _ _ (pure ((n : Int) - 1, (-1 : Int), Builtin.Slice.slicePlaces ((n : Int) - 1) (-1) (-1))) _ _ s
  rw [places_rev]
  exact wpAny_pure h
theorem pick_rev (xs : Array Value) : ((List.range xs.size).filterMap fun (m : Nat) => xs[(((xs.size : Nat) : Int) - 1 + (m : Int) * -1).toNat]?).toArray = xs.toList.reverse.toArray := by
  congr 1
  have e : ∀ m ∈ List.range xs.size, xs[(((xs.size : Nat) : Int) - 1 + (m : Int) * -1).toNat]? = some (xs.toList.reverse.getD m .none) := fun m hm => by
    have hm := List.mem_range.mp hm
    rw [show (((xs.size : Nat) : Int) - 1 + (m : Int) * -1).toNat = xs.size - 1 - m by omega, ← Array.getElem?_toList, List.getD_eq_getElem?_getD, List.getElem?_reverse (by simpa using hm), Array.length_toList]
    rw [List.getElem?_eq_getElem (by rw [Array.length_toList]; omega)]
    rfl
  rw [fm_map e]
  apply List.ext_getElem
  · simp
  · intro i h1 h2
    rw [List.getElem_map, List.getElem_range, List.getD_eq_getElem?_getD, List.getElem?_eq_getElem h2]
    rfl
theorem getItem_tuple_rev {t sl : Addr} {items : Array Value} {vl vu vs : Value} {Q : Value → Shared → Prop} (ht : IsTup s.heap t items) (hs : s.heap.IsSliceOf sl vl vu vs) (pl : IsPart vl none) (pu : IsPart vu none) (ps : IsPart vs (some (-1)))
    (h : Q (.ref s.heap.objs.size) { s with heap := s.heap.push { cls := .type "tuple", data := .seq items.toList.reverse.toArray } }) (hsz : items.size ≤ sizeLine) : wpAny (model prog w) A (getItem (.ref t) (.ref sl)) Q E s := by
  have hok : sizeOk (.seq items.toList.reverse.toArray) := by
    show items.toList.reverse.toArray.size ≤ sizeLine
    rw [List.size_toArray, List.length_reverse, Array.length_toList]
    exact hsz
  obtain ⟨os, hos, hcs, hds⟩ := id hs
  have isS : s.TypeIs (.ref sl) "slice" := ⟨os, hos, hcs⟩
  unfold getItem
  try with_reducible refine wpAny_holding ?_
  first | refine wpAny_bind (wpAny_pure ?_) | skip
  refine wpAny_bind (wpAny_sequenceKey ht.typeIs (by decide) ?_)
  refine wpAny_bind (wpAny_callSpecial?_slot (name := Str.ofString "__getitem__") ht.typeIs PyProof.Rows.slot_tuple_getitem (wpAny_call_entry PyProof.Rows.slot_tuple_getitem ht.typeIs entry_tuple_getitem ?_ (args_tuple_getitem _ _)))
  show wpAny _ _ (Builtin.Tuple.tupleItemsOf (.ref t) >>= _) _ _ s
  refine wpAny_bind (tupleItemsOf_ ht (wpAny_bind (wpAny_typeOf isS ?_)))
  rw [if_pos (by decide)]
  refine wpAny_bind (applied_rev hs pl pu ps ?_)
  have no : ¬ ((((items.size : Nat) : Int) - 1 == 0 && (-1 : Int) == 1 && items.size == items.size) = true) := by simp
  show wpAny _ _ (if (((items.size : Nat) : Int) - 1 == 0 && (-1 : Int) == 1 && items.size == items.size) = true then _ else _) _ _ s
  rw [if_neg no, pick_rev]
  first
    | exact wpAny_bind (m := Builtin.Tuple.tupleExact _) (wpAny_newObj_type (wpAny_pure ⟨_, rfl, wpAny_pure h⟩) hok)
    | exact wpAny_bind (m := Builtin.Tuple.tupleExact _) (wpAny_newObj_type (wpAny_bind (wpAny_pure (wpAny_pure ⟨_, rfl, wpAny_pure h⟩))) hok)
    | exact wpAny_bind (wpAny_bind (m := Builtin.Tuple.tupleExact _) (wpAny_newObj_type (wpAny_pure (wpAny_pure ⟨_, rfl, wpAny_pure h⟩)) hok))
    | exact wpAny_bind (wpAny_bind (m := Builtin.Tuple.tupleExact _) (wpAny_newObj_type (wpAny_pure ⟨_, rfl, wpAny_pure h⟩) hok))
end
/-- t[::-1] -/
def tRevT (K : PySem.W.Frag) (te : TE) : TE := fun σ H Q => te σ H fun x H1 => ∃ a xs, x = .ref a ∧ SqT K H1 a xs ∧ ∀ p, H1 p = none → Q (.ref p) (upd H1 p (.tup xs.reverse))
theorem pe_revT {X : Cx} {e : Expr} {te : TE} {k : Nat} {p1 p2 p3 pos : Pos} (he : PE X e te) : PE X (.Subscript e (.Slice none none (some (.UnaryOp .USub (.Constant (.int 1) k p1) p2)) p3) pos) (tRevT X.K te) := by
  refine ⟨fun pins s σ H Q I h => ?_⟩
  refine Subscript_ (thn (he.run pins s σ H _ I h) fun v s1 ⟨x, H1, I1, r1, a, xs, ex, hx, q⟩ => ?_)
  subst ex
  cases r1
  have part : PO X (some (.UnaryOp .USub (.Constant (.int 1) k p1) p2)) (tPart (tUn (rU fun i => .int (-i)) (tC (.int 1)))) := po_some (pe_un un_neg pe_int)
  refine wpAny_Slice (thn (po_none.run pins s1 σ H1 (fun o H2 => o = none ∧ H2 = H1) I1 ⟨rfl, rfl⟩) fun vl s2 ⟨l, H2, I2, pl, el, e2⟩ => ?_)
  subst el e2
  refine thn (po_none.run pins s2 σ H2 (fun o H3 => o = none ∧ H3 = H2) I2 ⟨rfl, rfl⟩) fun vu s3 ⟨u, H3, I3, pu, eu, e3⟩ => ?_
  subst eu e3
  refine thn (part.run pins s3 σ H3 (fun o H4 => o = some (-1) ∧ H4 = H3) I3 ⟨1, rfl, -1, rfl, rfl, rfl⟩) fun vs s4 ⟨o, H4, I4, ps, eo, e4⟩ => ?_
  subst eo e4
  have I5 : Inv X pins σ H4 { s4 with heap := s4.heap.push { cls := .type "slice", data := .fields #[vl, vu, vs] } } := I4.kept (t' := s4.toks) fun b ob q => Heap.get?_push_of_some _ q
  obtain ⟨its, r, ht, hz⟩ := I5.tuple hx
  have hlen := r.length
  show wpAny (model X.prog X.w) X.A (subscriptTail e (.Slice none none (some (.UnaryOp .USub (.Constant (.int 1) k p1) p2)) p3) (.ref a) (.ref s4.heap.objs.size)) (EP X pins σ Q) X.xe { s4 with heap := s4.heap.push { cls := .type "slice", data := .fields #[vl, vu, vs] } }
  refine tail_any (ops := [.ref a, .ref s4.heap.objs.size]) ht.typeIs (PyProof.Rows.slot_tuple_getitem.lookup) ?_ (by with_unfolding_all rfl)
  refine getItem_tuple_rev ht (Heap.IsSliceOf.new _ vl vu vs) pl pu ps ?_ (by rw [List.size_toArray]; omega)
  refine ⟨.ref _, _, I5.laid (t' := s4.toks) (o := .tup xs.reverse) (fun b ob q => Heap.get?_push_of_some _ q) (Nat.le_refl _) ?_, rfl, q _ (I5.hok.fresh (Nat.le_refl _))⟩
  exact ⟨by rw [List.length_reverse]; exact hz, _, r.reverse, IsTup.new _ _⟩
theorem de_revT {C : Ct} {Ξ : Addr → Prop} {ρ : Rho} {e : Expr} {ds : List PyData} {k : Nat} {p1 p2 p3 pos : Pos} (ha : DEd C Ξ ρ e (.tuple ds)) : DEd C Ξ ρ (.Subscript e (.Slice none none (some (.UnaryOp .USub (.Constant (.int 1) k p1) p2)) p3) pos) (.tuple ds.reverse) := fun σ H E Q q z =>
  ⟨_, pe_revT pE, ha σ H E _ (fun d v H2 pd g r => by
    subst pd
    obtain ⟨a, vs, rfl, h1, h2⟩ := r.ref_tup
    exact ⟨a, vs, rfl, SqT.of (hid_le _ _ h1), fun p hp => q _ _ _ rfl (g.trans (Gr.of (same_new hp))) (.tup ((E.grow g).newV hp) (h2.rev.up (vis_gr (Gr.of (same_new hp)))))⟩) z⟩
/-! ## len(set(t)) -/
def tLenSetT (K : PySem.W.Frag) (ta : TE) : TE := fun σ H Q => ta σ H fun x H1 => ∃ (l : Addr) (ns : List Int), x = V.ref l ∧ SqT K H1 l (ns.map V.int) ∧ ns.length < 64 ∧ ∀ ks : List Int, ks.Nodup → (∀ k, k ∈ ks ↔ k ∈ ns) → Q (.int ks.length) H1
theorem pe_lenSetT {X : Cx} {a : Expr} {ta : TE} {p p2 q pos : Pos} (hc : X.calm = true) (hg : Gl X "len") (hm : X.mg "len" = none) (hg2 : Gl X "set") (hm2 : X.mg "set" = none) (ha : PE X a ta)
    (na : starEach [a] X.env = (false, eval a X.env) :: starEach [] X.env := by rfl) : PE X (.Call (.Name "len" p) [.Call (.Name "set" p2) [a] [] q] [] pos) (tLenSetT X.K ta) := by
  refine ⟨fun pins s σ H Q I h => ?_⟩
  refine Call_ (ld_blt I hg hm PySem.boot_len (PyProof.Rows.callWith_builtin1 (PyProof.Rows.args_cons ?_ rfl) rfl rfl))
  refine Call_ (ld_blt I hg2 hm2 PyProof.Rows.boot_set ?_)
  refine PyProof.Rows.callWith_type1 (PyProof.Rows.args_cons (thn (ha.run pins s σ H _ I h) fun v s1 ⟨x, H1, I1, r1, l, ns, ex, hq, h1, q1⟩ => PyProof.Rows.args_nil ?_) na) na rfl
  subst ex
  cases r1
  obtain ⟨its, r, pl, hz⟩ := I1.tuple hq
  refine call_set_tupI ns (I1.ok.hd hc) pl (by simpa using r.ints) (by unfold scanBound; omega) fun h' tk c hS hcn hk => PyProof.Rows.args_nil ?_
  obtain ⟨o, es, ep, t, ho, hex, hd, _, hnd, hmem, hsz, hf, hn, _⟩ := hS
  have I2 : Inv X pins σ H1 { s1 with heap := h', toks := tk } := I1.kept hk
  have z := q1 _ hnd fun k => by rw [← hmem k, decide_eq_true_iff]
  rw [List.length_map, Array.length_toList] at z
  exact call_len_set ho hex hd hf (by rw [hn]; omega) ⟨.int es.size, H1, I2.tok _, ⟨_, rfl⟩, z⟩
theorem de_lenSet {C : Ct} {Ξ : Addr → Prop} {ρ : Rho} {a : Expr} {ns : List Int} {p p2 q pos : Pos} (hg : Gl C.X "len") (hm : C.X.mg "len" = none) (hg2 : Gl C.X "set") (hm2 : C.X.mg "set" = none) (hl : ns.length < 64) (ha : DEd C Ξ ρ a (tI ns)) (hc : C.X.calm = true := by rfl)
    (na : starEach [a] C.X.env = (false, eval a C.X.env) :: starEach [] C.X.env := by rfl) : DE C Ξ ρ (.Call (.Name "len" p) [.Call (.Name "set" p2) [a] [] q] [] pos) (fun d => ∃ ks : List Int, ks.Nodup ∧ (∀ k, k ∈ ks ↔ k ∈ ns) ∧ d = .int ks.length) := fun σ H E Q qq z =>
  ⟨_, pe_lenSetT hc hg hm hg2 hm2 pE na, ha σ H E _ (fun d v H2 pd g r => by
    subst pd
    obtain ⟨l, xs, rfl, h1, h2⟩ := r.ref_tup
    obtain rfl := h2.ints
    exact ⟨l, ns, rfl, SqT.of (hid_le _ _ h1), hl, fun ks k1 k2 => qq _ _ H2 ⟨ks, k1, k2, rfl⟩ g (.int _)⟩) z⟩
end DD
namespace DD
open PySem L2
theorem de_cmpI {C : Ct} {Ξ : Addr → Prop} {ρ : Rho} {a b : Expr} {pos : Pos} {op : CmpOp} {r : R2} {A : Int → Prop} {y : PyData} {k : Int → Bool} (ho : OpR C.X (compareOp op) r) (hm : behindInMarks op b = false) (ha : DI C Ξ ρ a A) (hb : DEd C Ξ ρ b y) (hr : ∀ i, A i → RB r (.int i) y (k i)) : DE C Ξ ρ (.Compare a [op] [b] pos) (fun d => ∃ i, A i ∧ d = .bool (k i)) := fun σ H E Q q z =>
  ⟨_, pe_cmpR ho pE pE hm, ha σ H E _ (fun d v H2 p g r1 => hb σ H2 (E.grow g) _ (fun d' u H3 p' g' r2 => by
    obtain ⟨i, e1, e2⟩ := p
    subst e1; subst p'
    exact hr i e2 C ρ σ H3 v u Q ((E.grow g).grow g') (r1.up (vis_gr g')) r2 (q _ _ H3 ⟨i, e2, rfl⟩ (g.trans g') (.bl _))) fun c H3 xc g' => z c H3 xc (g.trans g')) z⟩
/-! ## the value of a step -/
theorem num_sum (b : Int) (ns : List Int) : ∃ q, numI b ns = ns.sum + (b - 1) * q := by
  refine snoc_ind (p := fun ns => ∃ q, numI b ns = ns.sum + (b - 1) * q) ⟨0, by simp [numI]⟩ (fun xs x ⟨q, ih⟩ => ?_) ns
  refine ⟨xs.sum + b * q, ?_⟩
  rw [numI_app, ih, List.sum_append, List.sum_cons, List.sum_nil, Int.add_zero]
  have e : (b - 1) * (xs.sum + b * q) = (b - 1) * xs.sum + (b - 1) * (b * q) := Int.mul_add _ _ _
  rw [e, Int.add_mul, Int.mul_assoc (b - 1) q b, Int.mul_comm q b, Int.sub_mul b 1 xs.sum, Int.one_mul, Int.mul_comm xs.sum b]
  omega
theorem step_val {b : Int} {ns : List Int} (hb : Base b) (h : Row b ns) : numI b (stepI b ns) = numI b (falI ns) - numI b (srtI ns) := by
  have b2 := hb.1
  have h1 := srt_num (b := b) (by omega) ns
  have h2 := num_fal (b := b) (by omega) ns
  have h3 := numI_bd (b := b) (by omega) h.2.fal
  have h4 := numI_bd (b := b) (by omega) h.2.srt
  rw [falI_len] at h3
  unfold stepI
  exact numI_wr (by omega) _ _ (by omega) (by omega)
theorem sum_rev (l : List Int) : l.reverse.sum = l.sum := by
  induction l with
  | nil => rfl
  | cons x l ih => rw [List.reverse_cons, List.sum_append, ih, List.sum_cons, List.sum_cons, List.sum_nil]; omega
theorem step_mod {b : Int} {ns : List Int} (hb : Base b) (h : Row b ns) : numI b (stepI b ns) % (b - 1) = 0 := by
  rw [step_val hb h]
  obtain ⟨q1, e1⟩ := num_sum b (falI ns)
  obtain ⟨q2, e2⟩ := num_sum b (srtI ns)
  have e3 : (falI ns).sum = (srtI ns).sum := by
    unfold falI
    exact sum_rev _
  rw [e1, e2, e3, show (srtI ns).sum + (b - 1) * q1 - ((srtI ns).sum + (b - 1) * q2) = (b - 1) * (q1 - q2) by rw [Int.mul_sub]; omega]
  exact Int.mul_emod_right _ _
theorem step_nil {b : Int} {ns : List Int} (hb : Base b) (h : Row b ns) : numI b (stepI b ns) = 0 ↔ minI ns = maxI ns := by
  rw [step_val hb h]
  have hne := h.ne
  constructor
  · intro e
    have e2 : numI b (falI ns) = numI b (srtI ns) := by omega
    have f1 := wr_num (falI ns) h.2.fal
    have f2 := wr_num (srtI ns) h.2.srt
    rw [falI_len, e2] at f1
    rw [srtI_len] at f2
    have e3 : falI ns = srtI ns := f1.symm.trans f2
    have g1 := srt_first hne
    have g2 := srt_last hne
    rw [← e3] at g1
    unfold falI at g1
    have hl := srtI_len ns
    have hp := List.length_pos_iff.mpr hne
    rw [List.getD_eq_getElem?_getD, List.getElem?_reverse (by omega), hl, Nat.sub_zero, ← List.getD_eq_getElem?_getD] at g1
    omega
  · intro e
    have all : ∀ n ∈ ns, n = minI ns := fun n hn => by
      have := minI_le hn
      have := maxI_le hn
      omega
    have f1 : falI ns = List.replicate ns.length (minI ns) := List.eq_replicate_iff.mpr ⟨falI_len ns, fun n hn => all n ((fal_of_perm ns).mem_iff.mp hn)⟩
    have f2 : srtI ns = List.replicate ns.length (minI ns) := List.eq_replicate_iff.mpr ⟨srtI_len ns, fun n hn => all n ((srtI_perm ns).mem_iff.mp hn)⟩
    rw [f1, f2]
    omega
theorem keys_one {ns ks : List Int} (hne : ns ≠ []) (hd : ks.Nodup) (hk : ∀ k, k ∈ ks ↔ k ∈ ns) : ks.length = 1 ↔ minI ns = maxI ns := by
  constructor
  · intro e
    obtain ⟨x, rfl⟩ := List.length_eq_one_iff.mp e
    have h1 := List.mem_singleton.mp ((hk _).mpr (minI_mem hne))
    have h2 := List.mem_singleton.mp ((hk _).mpr (maxI_mem hne))
    omega
  · intro e
    have all : ∀ k ∈ ks, k = minI ns := fun k h => by
      have h := (hk k).mp h
      have := minI_le h
      have := maxI_le h
      omega
    cases ks with
    | nil => exact absurd ((hk _).mpr (minI_mem hne)) (by simp)
    | cons x t =>
      cases t with
      | nil => rfl
      | cons y t =>
        exfalso
        have h1 := all x List.mem_cons_self
        have h2 := all y (by simp)
        have := (List.nodup_cons.mp hd).1
        apply this
        rw [h1, ← h2]
        exact List.mem_cons_self
end DD

namespace DD
open PySem L2
/-! ## own lists and dicts -/
theorem owns_put {ρ : Rho} {i : Nat} {sv : SV} {b : Addr} (h : owns (ρ.set i sv) b = true) : owns ρ b = true ∨ sv.addr = some b := by
  obtain ⟨j, hj⟩ := owns_iff.mp h
  rw [gt_set] at hj
  split at hj
  · exact .inr hj
  · exact .inl (owns_iff.mpr ⟨j, hj⟩)
theorem Cell.mutG {k : Option Str} {H : Hp} {a D : Addr} {o : HO} (hx : ∀ φ, H D ≠ some (.ext φ)) (ne : a ≠ D) (h : Cell k H a) : Cell k (upd H D o) a := by
  cases k with
  | none => obtain ⟨x, y, h⟩ := h; exact ⟨x, y, by rw [upd_ne ne]; exact h⟩
  | some q =>
    obtain ⟨hq, ps, h1, h2, h3⟩ := h
    refine ⟨hq, ps, by rw [upd_ne ne]; exact h1, h2, fun pos cv hc => ?_⟩
    obtain ⟨c, e1, e2⟩ := h3 pos cv hc
    refine ⟨c, e1, ?_⟩
    rw [upd_ne fun z => by rw [z] at e2; unfold LamX.CodeO at e2; exact hx _ e2]
    exact e2
/-- a new object, owned by a slot -/
theorem Env.fresh {C : Ct} {ρ : Rho} {σ : L2.St} {H : Hp} {p : Addr} {o : HO} {sv : SV} {i : Nat} (E : Env C ρ σ H) (hp : H p = none) (ha : sv.addr = some p) (hi : i < ρ.length)
    (hs : C.O p = false → C.base p = none → SlotOk C (ρ.set i sv) (upd H p o) sv (some (.ref p))) : Env C (ρ.set i sv) (σ.set i (some (.ref p))) (upd H p o) ∧ Same (vis C ρ H) (vis C (ρ.set i sv) (upd H p o)) := by
  have hO := E.new hp
  have up : ∀ a u, H a = some u → upd H p o a = some u := fun a u e => by rw [upd_ne (ne_of_none e hp)]; exact e
  have s : Same (vis C ρ H) (vis C (ρ.set i sv) (upd H p o)) := hid_mono fun a u e1 e2 => by
    refine ⟨?_, up a u e2⟩
    unfold inn at e1 ⊢
    rw [Bool.or_eq_false_iff] at e1 ⊢
    refine ⟨e1.1, ?_⟩
    cases q : owns (ρ.set i sv) a with
    | false => rfl
    | true =>
      exfalso
      rcases owns_put q with z | z
      · rw [z] at e1; cases e1.2
      · rw [ha] at z
        injection z with z
        rw [← z, hp] at e2
        cases e2
  have hb : C.base p = none := by
    cases e : C.base p with
    | none => rfl
    | some u => rw [E.gr.keep p u (O_U hO) e] at hp; cases hp
  refine ⟨⟨by rw [List.length_set, List.length_set]; exact E.len, fun j => ?_, fun a h => ?_, fun a h => ?_, E.gr.trans (Gr.of (same_new hp)), fun j k q h1 h2 => ?_⟩, s⟩
  · rw [gt_set, sg_set]
    by_cases z : i = j
    · rw [if_pos ⟨z, hi⟩, if_pos ⟨z, by rw [E.len]; exact hi⟩]
      exact hs hO hb
    · rw [if_neg fun q => z q.1, if_neg fun q => z q.1]
      exact (E.slot j).see s fun a u _ e => up a u e
  · obtain ⟨k, e⟩ := E.cell a h
    exact ⟨k, e.up up⟩
  · cases q : H a with
    | none => exact absurd q (E.alloc a h)
    | some u => rw [up _ _ q]; simp
  · have old : ∀ m, (gt ρ m).addr = some p → False := fun m h => E.own_at (owns_iff.mpr ⟨m, h⟩) hp
    rw [gt_set] at h1 h2
    split at h1
    · split at h2
      · rename_i a b; rw [← a.1, ← b.1]
      · rw [ha] at h1; injection h1 with h1; rw [← h1] at h2; exact (old k h2).elim
    · split at h2
      · rw [ha] at h2; injection h2 with h2; rw [← h2] at h1; exact (old j h1).elim
      · exact E.dis j k q h1 h2
/-- what is owned changes -/
theorem Env.mutO {C : Ct} {ρ : Rho} {σ : L2.St} {H : Hp} {p : Addr} {o : HO} {sv : SV} {i : Nat} (E : Env C ρ σ H) (hi : (gt ρ i).addr = some p) (ha : sv.addr = some p) (hO : C.O p = false) (hb : C.base p = none) (hx : ∀ φ, H p ≠ some (.ext φ))
    (hs : vis C (ρ.set i sv) (upd H p o) = vis C ρ H → SlotOk C (ρ.set i sv) (upd H p o) sv (some (.ref p))) : Env C (ρ.set i sv) σ (upd H p o) ∧ vis C (ρ.set i sv) (upd H p o) = vis C ρ H := by
  have hlen : i < ρ.length := by
    rcases Nat.lt_or_ge i ρ.length with h | h
    · exact h
    · exfalso
      unfold gt at hi
      rw [List.getD_eq_getElem?_getD, List.getElem?_eq_none h] at hi
      cases hi
  have own : ∀ b, owns (ρ.set i sv) b = owns ρ b := fun b => by
    rw [Bool.eq_iff_iff, owns_iff, owns_iff]
    constructor
    · rintro ⟨j, h⟩
      rw [gt_set] at h
      split at h
      · rw [ha] at h; exact ⟨i, by rw [hi]; exact h⟩
      · exact ⟨j, h⟩
    · rintro ⟨j, h⟩
      refine ⟨j, ?_⟩
      rw [gt_set]
      split
      · rename_i z
        rw [ha, ← hi, z.1]
        exact h
      · exact h
  have hp : owns ρ p = true := owns_iff.mpr ⟨i, hi⟩
  have ev : vis C (ρ.set i sv) (upd H p o) = vis C ρ H := by
    funext a
    show hid _ _ a = hid _ _ a
    unfold hid
    have e : inn C (ρ.set i sv) a = inn C ρ a := by unfold inn; rw [own]
    rw [e]
    split
    · rfl
    · rename_i z
      refine upd_ne fun y => z ?_
      rw [y]
      unfold inn
      rw [hp, Bool.or_true]
  have ne : ∀ j q, (gt ρ j).addr = some q → j ≠ i → q ≠ p := fun j q h hj y => hj (E.dis j i p (by rw [h, y]) hi)
  have hU := O_U hO
  refine ⟨⟨by rw [List.length_set]; exact E.len, fun j => ?_, fun a h => ?_, fun a h => ?_, ⟨fun a u hu q => ?_, fun a k hu q => ?_⟩, fun j k q h1 h2 => ?_⟩, ev⟩
  · rw [gt_set]
    by_cases z : i = j
    · rw [if_pos ⟨z, hlen⟩, ← z]
      have e : σ.getD i none = some (.ref p) := by
        have q := E.slot i
        cases h : gt ρ i with
        | own p' ds => rw [h] at q hi; injection hi with hi; rw [← hi]; exact q.1
        | dic p' ds => rw [h] at q hi; injection hi with hi; rw [← hi]; exact q.1
        | thg p' th => rw [h] at q hi; injection hi with hi; rw [← hi]; exact q.1
        | _ => rw [h] at hi; cases hi
      rw [e]
      exact hs ev
    · rw [if_neg fun q => z q.1]
      have q := E.slot j
      cases h : gt ρ j with
      | no => trivial
      | dat d => rw [h] at q; obtain ⟨v, e, r⟩ := q; exact ⟨v, e, by rw [ev]; exact r⟩
      | raw v => rw [h] at q; exact q
      | own p' ds => rw [h] at q; obtain ⟨e', h1, h2, xs, h3, h4⟩ := q; exact ⟨e', h1, h2, xs, by rw [upd_ne (ne j p' (by rw [h]; rfl) (Ne.symm z))]; exact h3, by rw [ev]; exact h4⟩
      | dic p' ds => rw [h] at q; obtain ⟨e', h1, h2, xs, h3, h4⟩ := q; exact ⟨e', h1, h2, xs, by rw [upd_ne (ne j p' (by rw [h]; rfl) (Ne.symm z))]; exact h3, by rw [ev]; exact h4⟩
      | thg p' th => rw [h] at q; obtain ⟨e', h1, h2, xs, h3, h4⟩ := q; exact ⟨e', h1, h2, xs, by rw [upd_ne (ne j p' (by rw [h]; rfl) (Ne.symm z))]; exact h3, by rw [ev]; exact h4⟩
  · obtain ⟨k, e⟩ := E.cell a h
    exact ⟨k, e.mutG hx fun z => by rw [z, hU] at h; cases h⟩
  · by_cases z : a = p
    · rw [z, upd_same]; simp
    · rw [upd_ne z]; exact E.alloc a h
  · rw [upd_ne (fun z => by rw [z, hb] at q; cases q)]
    exact E.gr.keep a u hu q
  · exact (E.gr.cell a k hu q).mutG hx fun z => by rw [z, hU] at hu; cases hu
  · rw [gt_set] at h1 h2
    split at h1
    · split at h2
      · rename_i a b; rw [← a.1, ← b.1]
      · rename_i a b
        rw [ha] at h1
        rw [← a.1]
        exact E.dis i k q (by rw [hi]; exact h1) h2
    · split at h2
      · rename_i a b
        rw [ha] at h2
        rw [← b.1]
        exact E.dis j i q h1 (by rw [hi]; exact h2)
      · exact E.dis j k q h1 h2
theorem Env.own_of {C : Ct} {ρ : Rho} {σ : L2.St} {H : Hp} {i : Nat} {p : Addr} {ds : List PyData} (E : Env C ρ σ H) (h : gt ρ i = .own p ds) : σ[i]? = some (some (.ref p)) ∧ C.O p = false ∧ C.base p = none ∧ ∃ xs, H p = some (.lst xs) ∧ AtAll (vis C ρ H) xs ds := by
  have s := E.slot i
  rw [h] at s
  obtain ⟨e, h1, h2, h3⟩ := s
  refine ⟨?_, h1, h2, h3⟩
  rw [List.getD_eq_getElem?_getD] at e
  cases q : σ[i]? with
  | none => rw [q] at e; cases e
  | some o => rw [q] at e; exact congrArg some e
theorem Env.dic_of {C : Ct} {ρ : Rho} {σ : L2.St} {H : Hp} {i : Nat} {p : Addr} {kvs : List (List Int × PyData)} (E : Env C ρ σ H) (h : gt ρ i = .dic p kvs) : σ[i]? = some (some (.ref p)) ∧ C.O p = false ∧ C.base p = none ∧ ∃ xs : List V, H p = some (.dT ((kvs.map fun z => keyOf z.1).zip xs)) ∧ AtAll (vis C ρ H) xs (kvs.map (·.2)) := by
  have s := E.slot i
  rw [h] at s
  obtain ⟨e, h1, h2, h3⟩ := s
  refine ⟨?_, h1, h2, h3⟩
  rw [List.getD_eq_getElem?_getD] at e
  cases q : σ[i]? with
  | none => rw [q] at e; cases e
  | some o => rw [q] at e; exact congrArg some e
theorem keyOf_kV (k : List Int) : (keyOf k).map kV = k.map V.int := by unfold keyOf; rw [List.map_map]; rfl
theorem keyOf_inj {a b : List Int} (h : keyOf a = keyOf b) : a = b := by
  induction a generalizing b with
  | nil => cases b with
    | nil => rfl
    | cons y ys => cases h
  | cons x xs ih => cases b with
    | nil => cases h
    | cons y ys =>
      injection h with h1 h2
      injection h1 with h1
      rw [h1, ih h2]
/-- a key looked up -/
theorem val_dic {Hv : Hp} {k : List Int} : ∀ {kvs : List (List Int × PyData)} {xs : List V}, AtAll Hv xs (kvs.map (·.2)) → (match kvs.find? fun z => decide (z.1 = k) with
    | none => valV ((kvs.map fun z => keyOf z.1).zip xs) (keyOf k) = none
    | some z => ∃ v, valV ((kvs.map fun z => keyOf z.1).zip xs) (keyOf k) = some v ∧ At Hv v z.2)
  | [], _, h => by cases h; rfl
  | z :: kvs, _, h => by
    cases h with
    | cons r t =>
      have ih := val_dic (k := k) t
      by_cases e : z.1 = k
      · rw [List.find?_cons_of_pos (by simpa using e)]
        exact ⟨_, by rw [List.map_cons, List.zip_cons_cons, valV_pos (by rw [e])], r⟩
      · rw [List.find?_cons_of_neg (by simpa using e)]
        rw [List.map_cons, List.zip_cons_cons, valV_neg fun y => e (keyOf_inj y)]
        exact ih
section
variable {C : Ct} {Ξ : Addr → Prop} {ρ : Rho} {e : Expr} {pos p px : Pos} {F : Out → Prop}
theorem iv_tup {H : Hp} {v : V} {k : List Int} (h : At H v (tI k)) : ∃ b, v = .ref b ∧ H b = some (.tup ((keyOf k).map kV)) := by
  obtain ⟨b, xs, rfl, h1, h2⟩ := h.ref_tup
  rw [h2.ints] at h1
  exact ⟨b, rfl, by rw [keyOf_kV]; exact h1⟩
/-- k not in d -/
theorem dt_notInO (i : Nat) {x : Str} {q : Addr} {kvs : List (List Int × PyData)} {k : List Int} (h : gt ρ i = .dic q kvs) (hN : C.X.N[i]? = some x) (hv : Vis C.X.env.scope x) (hk : DEd C Ξ ρ e (tI k)) (hd : (x == ("__debug__" : Str)) = false := by decide) (hcd : (x == ("__classdict__" : Str)) = false := by decide)
    (hm : behindInMarks .NotIn (.Name x px) = false := by rfl) : DTd C Ξ ρ (.Compare e [.NotIn] [.Name x px] pos) (!(kvs.find? fun z => decide (z.1 = k)).isSome) := fun σ H E Q qq z =>
  ⟨_, pt_cmp (pc_dnotin (by have := C.un; omega) pE (pe_var hN hv hd hcd)) hm, hk σ H E _ (fun d v H2 pd g r => by
    subst pd
    obtain ⟨b, rfl, hb⟩ := iv_tup r
    obtain ⟨h1, h2, h3, xs, h4, h5⟩ := (E.grow g).dic_of h
    have hv := val_dic (k := k) h5
    refine ⟨_, h1, q, _, rfl, DGet.t h4 (hid_le _ _ hb), _, rfl, qq _ H2 ?_ g⟩
    cases hf : kvs.find? fun z => decide (z.1 = k) with
    | none => rw [hf] at hv; rw [hv]; rfl
    | some z => rw [hf] at hv; obtain ⟨v, e1, _⟩ := hv; rw [e1]; rfl) z⟩
/-- d[k] -/
theorem de_dgetO (i : Nat) {x : Str} {q : Addr} {kvs : List (List Int × PyData)} {k : List Int} {z : List Int × PyData} (h : gt ρ i = .dic q kvs) (hN : C.X.N[i]? = some x) (hv : Vis C.X.env.scope x) (hk : DEd C Ξ ρ e (tI k)) (hz : (kvs.find? fun z => decide (z.1 = k)) = some z) (hd : (x == ("__debug__" : Str)) = false := by decide) (hcd : (x == ("__classdict__" : Str)) = false := by decide)
    (hs : NoSl e := by intro _ _; rfl) : DEd C Ξ ρ (.Subscript (.Name x px) e pos) z.2 := fun σ H E Q qq zz =>
  ⟨_, pe_dget (by have := C.un; omega) (pe_var hN hv hd hcd) pE hs, _, (E.dic_of h).1, hk σ H E _ (fun d v H2 pd g r => by
    subst pd
    obtain ⟨b, rfl, hb⟩ := iv_tup r
    obtain ⟨h1, h2, h3, xs, h4, h5⟩ := (E.grow g).dic_of h
    have hv := val_dic (k := k) h5
    rw [hz] at hv
    obtain ⟨v, e1, e2⟩ := hv
    refine ⟨q, v, rfl, ?_, qq _ _ H2 rfl g e2⟩
    have := DGet.t h4 (hid_le _ _ hb)
    rw [e1] at this
    exact this) zz⟩
/-- d[k] = v, k new -/
theorem ds_dputO (i : Nat) {x : Str} {q : Addr} {kvs : List (List Int × PyData)} {k : List Int} {d : PyData} {ve : Expr} {pos' : Pos} (h : gt ρ i = .dic q kvs) (hN : C.X.N[i]? = some x) (hv : Vis C.X.env.scope x) (hve : DEd C (xi F) ρ ve d) (hk : DEd C (xi F) ρ e (tI k)) (hz : (kvs.find? fun z => decide (z.1 = k)) = none) (hl : kvs.length < 16777216)
    (kk : F (.nx (ρ.set i (.dic q (kvs ++ [(k, d)]))))) (hd : (x == ("__debug__" : Str)) = false := by decide) (hcd : (x == ("__classdict__" : Str)) = false := by decide) (hs : swapsWith ve (some (.Subscript (.Name x px) e pos')) pos.line C.X.env = pure false := by rfl) : DS C F ρ (.Assign [.Subscript (.Name x px) e pos'] ve pos) := fun D σ H E q0 =>
  ⟨_, ps_dput (by have := C.un; omega) (pe_var hN hv hd hcd) pE pE hs, hve σ H E _ (fun d1 v1 H1 p1 g1 r1 => ⟨_, ((E.grow g1).dic_of h).1, hk σ H1 (E.grow g1) _ (fun d2 v2 H2 p2 g2 r2 => by
    subst p1; subst p2
    have E2 := (E.grow g1).grow g2
    obtain ⟨b, rfl, hb⟩ := iv_tup r2
    obtain ⟨h1, h2, h3, xs, h4, h5⟩ := E2.dic_of h
    have hv := val_dic (k := k) h5
    rw [hz] at hv
    have hlen := h5.len
    rw [List.length_map] at hlen
    have r1' := r1.up (vis_gr g2)
    have hput : putK ((kvs.map fun z => keyOf z.1).zip xs) (keyOf k) v1 = (((kvs ++ [(k, d1)]).map fun z => keyOf z.1).zip (xs ++ [v1])) := by
      unfold putK
      rw [valV_any, hv, if_neg (by simp), List.map_append, List.zip_append (by rw [List.length_map]; exact hlen.symm)]
      rfl
    obtain ⟨E3, ev⟩ := E2.mutO (o := .dT (((kvs ++ [(k, d1)]).map fun z => keyOf z.1).zip (xs ++ [v1]))) (sv := .dic q (kvs ++ [(k, d1)])) (i := i) (by rw [h]; rfl) rfl h2 h3 (fun φ y => by rw [h4] at y; cases y) fun ev => ⟨rfl, h2, h3, xs ++ [v1], upd_same, by rw [ev, List.map_append]; exact h5.app (.cons r1' .nil)⟩
    refine ⟨q, _, rfl, DPut.t h4 (hid_le _ _ hb) (by rw [List.length_zip, List.length_map, sizeLine_eq]; omega), ?_⟩
    rw [hput]
    exact q0.nx _ _ _ kk E3 (by rw [ev]; exact (vis_gr g1).trans (vis_gr g2))) (fun c H2 x g => q0.exE E c H2 x (g1.trans g))⟩) (q0.exE E)⟩
/-- l.append(e) -/
theorem ds_appendO (i : Nat) {x : Str} {q : Addr} {ds : List PyData} {d : PyData} {apos cpos : Pos} (h : gt ρ i = .own q ds) (hN : C.X.N[i]? = some x) (hv : Vis C.X.env.scope x) (he : DEd C (xi F) ρ e d) (hl : ds.length < 16777216) (kk : F (.nx (ρ.set i (.own q (ds ++ [d])))))
    (hd : (x == ("__debug__" : Str)) = false := by decide) (hcd : (x == ("__classdict__" : Str)) = false := by decide) (hbase : attributeBase (.Name x px) "append" C.X.env (eval (.Name x px) C.X.env) = eval (.Name x px) C.X.env := by rfl)
    (hfew : ((backTo cpos (starEach [e] C.X.env)).all (fun x => !x.1) && (backToKw cpos (keywordEach [] C.X.env)).all (fun x => x.1.isSome) && decide ([e].length + ([] : List Keyword).length + (if ([] : List Keyword).isEmpty then 0 else 1) < 30)) = true := by rfl)
    (hline : (apos.endLine == cpos.line) = true := by rfl) (hss : starEach [e] C.X.env = (false, eval e C.X.env) :: starEach [] C.X.env := by rfl) (hplain : (backTo cpos (starEach [] C.X.env)).any (·.1) = false := by rfl) (hs : swapsWith (.Call (.Attribute (.Name x px) "append" apos) [e] [] cpos) none pos.line C.X.env = pure false := by rfl) :
    DS C F ρ (.Expr (.Call (.Attribute (.Name x px) "append" apos) [e] [] cpos) pos) := fun D σ H E q0 =>
  ⟨_, ps_expr (pe_bm PySem.F.plainAttrs_list PySem.F.slot_list_append PySem.F.type_list_append mt_append (pe_var hN hv hd hcd) (pa_cons pE pa_nil hss) hbase hfew hline hss hplain) hs, by
    obtain ⟨h1, h2, h3, xs, h4, h5⟩ := E.own_of h
    refine ⟨_, h1, .inl ⟨rfl, xs, SqL.of h4⟩, he σ H E _ (fun d1 v1 H1 p1 g1 r1 => ?_) (q0.exE E)⟩
    subst p1
    have E1 := E.grow g1
    obtain ⟨_, _, _, ys, h6, h7⟩ := E1.own_of h
    have hlen := h7.len
    obtain ⟨E3, ev⟩ := E1.mutO (o := .lst (ys ++ [v1])) (sv := .own q (ds ++ [d1])) (i := i) (by rw [h]; rfl) rfl h2 h3 (fun φ y => by rw [h6] at y; cases y) fun ev => ⟨rfl, h2, h3, ys ++ [v1], upd_same, by rw [ev]; exact h7.app (.cons r1 .nil)⟩
    exact ⟨q, ys, v1, rfl, rfl, h6, by rw [sizeLine_eq]; omega, q0.nx _ _ _ kk E3 (by rw [ev]; exact vis_gr g1)⟩⟩
/-- len(l) -/
theorem de_lenO (i : Nat) {x : Str} {q : Addr} {ds : List PyData} (h : gt ρ i = .own q ds) (hN : C.X.N[i]? = some x) (hv : Vis C.X.env.scope x) (hg : Gl C.X "len") (hm : C.X.mg "len" = none) (hd : (x == ("__debug__" : Str)) = false := by decide) (hcd : (x == ("__classdict__" : Str)) = false := by decide)
    (he : starEach [.Name x px] C.X.env = (false, eval (.Name x px) C.X.env) :: starEach [] C.X.env := by rfl) (hpl : (backTo pos (starEach [] C.X.env)).any (·.1) = false := by rfl) : DEd C Ξ ρ (.Call (.Name "len" p) [.Name x px] [] pos) (.int ds.length) := fun σ H E Q k z => by
  obtain ⟨h1, h2, h3, xs, h4, h5⟩ := E.own_of h
  exact ⟨_, pe_callB call_len hg hm b_len (pa_cons (pe_var hN hv hd hcd) pa_nil he) (by decide) (by decide) he hpl, _, h1, .ref q, xs.length, rfl, .inl ⟨xs, SqL.of h4, rfl⟩, by rw [h5.len]; exact k _ _ H rfl (Gr.refl _ _) (.int _)⟩
/-- return l, e : the own list goes out -/
theorem ds_retO (i : Nat) {x : Str} {q : Addr} {ds : List PyData} {d : PyData} {k : Nat} {tp : Pos} (h : gt ρ i = .own q ds) (hN : C.X.N[i]? = some x) (hv : Vis C.X.env.scope x) (he : DEd C (xi F) ρ e d) (kk : F (.rt (.tuple [.list ds, d]))) (hd : (x == ("__debug__" : Str)) = false := by decide) (hcd : (x == ("__classdict__" : Str)) = false := by decide)
    (h1 : starEach [.Name x px, e] C.X.env = (false, eval (.Name x px) C.X.env) :: starEach [e] C.X.env := by rfl) (h2 : starEach [e] C.X.env = (false, eval e C.X.env) :: starEach [] C.X.env := by rfl) : DS C F ρ (.Return (some (.Tuple [.Name x px, e] k tp)) pos) := fun D σ H E q0 =>
  ⟨_, ps_ret (pe_tup (pa_cons (pe_var hN hv hd hcd) (pa_cons pE pa_nil h2) h1)), _, (E.own_of h).1, he σ H E _ (fun d1 v1 H1 p1 g1 r1 => by
    subst p1
    have E1 := E.grow g1
    obtain ⟨_, o2, o3, xs, o4, o5⟩ := E1.own_of h
    refine ⟨by rw [sizeLine_eq]; show 2 ≤ _; omega, fun t ht => ?_⟩
    have gg : Gr C.U C.base (upd H1 t (.tup [.ref q, v1])) := E1.gr.trans (Gr.of (same_new ht))
    have sO : Same (vis C ρ H1) (hid C.O (upd H1 t (.tup [.ref q, v1]))) := (see_O).trans (hid_mono fun a o e1 e2 => ⟨e1, same_new ht a o e2⟩)
    refine q0.rt _ _ _ kk gg (.tup ((hid_at (E1.new ht)).trans upd_same) (.cons (.lst (xs := xs) ?_ (o5.up sO)) (.cons (r1.up sO) .nil)))
    rw [hid_at o2, upd_ne (ne_of_none o4 ht)]
    exact o4) (q0.exE E)⟩
/-- d, l = {}, [] -/
theorem ds_newDL (i j : Nat) {x y : Str} {px py pt dp lp pt2 : Pos} {kt k2 : Nat} (k : ∀ a b, a ≠ b → F (.nx ((ρ.set i (.dic a [])).set j (.own b [])))) (hN : C.X.N.Nodup) (hi : C.X.N[i]? = some x) (hj : C.X.N[j]? = some y) (hij : i ≠ j) (hli : i < ρ.length) (hlj : j < ρ.length)
    (hx : C.X.env.scope.names.lookup x = some .local) (hy : C.X.env.scope.names.lookup y = some .local) (hw : swappedStores [.Tuple [.Name x px, .Name y py] kt pt] (.Tuple [.Dict [] [] dp, .List [] lp] k2 pt2) C.X.env = pure (some [x, y]))
    (h1 : starEach [.Dict [] [] dp, .List [] lp] C.X.env = (false, eval (.Dict [] [] dp) C.X.env) :: starEach [.List [] lp] C.X.env := by rfl) (h2 : starEach [.List [] lp] C.X.env = (false, eval (.List [] lp) C.X.env) :: starEach [] C.X.env := by rfl)
    (hc : C.X.calm = true := by rfl) (hs : swapsWithSole [.Tuple [.Name x px, .Name y py] kt pt] (.Tuple [.Dict [] [] dp, .List [] lp] k2 pt2) pos.line C.X.env = pure false := by rfl) : DS C F ρ (.Assign [.Tuple [.Name x px, .Name y py] kt pt] (.Tuple [.Dict [] [] dp, .List [] lp] k2 pt2) pos) := fun D σ H E q =>
  ⟨_, ps_par hc hN hi hj hij hx hy (pa_cons pe_dnewT (pa_cons (pe_lst pa_nil) pa_nil h2) h1) hw hs, fun a ha => ⟨by decide, fun b hb => by
    obtain ⟨E1, s1⟩ := E.fresh (o := .dT []) (sv := .dic a []) (i := i) ha rfl hli fun o1 o2 => ⟨rfl, o1, o2, [], upd_same, .nil⟩
    have hab : a ≠ b := fun z => by rw [← z, upd_same] at hb; cases hb
    obtain ⟨E2, s2⟩ := E1.fresh (o := .lst []) (sv := .own b []) (i := j) hb rfl (by rw [List.length_set]; exact hlj) fun o1 o2 => ⟨rfl, o1, o2, [], upd_same, .nil⟩
    exact ⟨.ref a, .ref b, rfl, q.nx _ _ _ (k a b hab) E2 (s1.trans s2)⟩⟩⟩
end
end DD

namespace DD
open PySem L2
/-! ## courses -/
def orb (b : Int) (r : List Int) : Nat → List Int
  | 0 => r
  | k + 1 => stepI b (orb b r k)
theorem orb_row {b : Int} {r : List Int} (hb : 1 ≤ b) (hr : Row b r) : ∀ k, Row b (orb b r k)
  | 0 => hr
  | k + 1 => (orb_row hb hr k).step hb
theorem orb_len {b : Int} {r : List Int} : ∀ k, (orb b r k).length = r.length
  | 0 => rfl
  | k + 1 => by show (stepI b (orb b r k)).length = _; rw [stepI_len, orb_len k]
theorem pigeon : ∀ (n : Nat) (l : List Nat), l.Nodup → (∀ x ∈ l, x < n) → l.length ≤ n
  | 0, l, _, h => by
    cases l with
    | nil => exact Nat.le_refl _
    | cons x l => exact absurd (h x List.mem_cons_self) (Nat.not_lt_zero _)
  | n + 1, l, hd, h => by
    have h1 := pigeon n (l.erase n) (hd.erase n) fun x hx => by
      have h2 := (List.Nodup.mem_erase_iff hd).mp hx
      have := h x h2.2
      have := h2.1
      omega
    rw [List.length_erase] at h1
    split at h1 <;> omega
theorem num_inj {b : Int} {xs ys : List Int} (hx : Dg b xs) (hy : Dg b ys) (hl : xs.length = ys.length) (h : numI b xs = numI b ys) : xs = ys := by
  rw [← wr_num xs hx, ← wr_num ys hy, hl, h]
theorem gap_dg {b : Int} {ns : List Int} (hb : Base b) (h : Row b ns) : Dg 12 (gapI ns) := fun g hg => by
  unfold gapI at hg
  obtain ⟨i, hi, rfl⟩ := List.mem_map.mp hg
  have hi := List.mem_range.mp hi
  have hl := srtI_len ns
  have b12 := hb.2
  have h0 := pw_getD (srt_pw ns) (show i ≤ (srtI ns).length - 1 - i by omega) (by omega)
  have h1 := h.2.srt _ (getD_mem (s := srtI ns) (i := i) (by omega))
  have h2 := h.2.srt _ (getD_mem (s := srtI ns) (i := (srtI ns).length - 1 - i) (by omega))
  unfold gapAt
  omega
theorem gap_len (ns : List Int) : (gapI ns).length = ns.length / 2 := by unfold gapI; rw [List.length_map, List.length_range]
theorem gap_num {b : Int} {ns : List Int} (hb : Base b) (h : Row b ns) : 0 ≤ numI 12 (gapI ns) ∧ numI 12 (gapI ns) < 20736 := by
  have h1 := numI_bd (b := 12) (by decide) (gap_dg hb h)
  have h2 : (12 : Int) ^ (gapI ns).length ≤ 12 ^ 4 := by
    have e := Nat.pow_le_pow_right (show 0 < 12 by decide) (show (gapI ns).length ≤ 4 by rw [gap_len]; have := h.1; omega)
    have := Int.ofNat_le.mpr e
    simpa using this
  have h3 : (12 : Int) ^ 4 = 20736 := by decide
  omega
/-- no two of the first k rows are the same -/
def Far (b : Int) (r : List Int) (k : Nat) : Prop := ∀ i j, i < j → j < k → orb b r i ≠ orb b r j
theorem far_bound {b : Int} {r : List Int} (hb : Base b) (hr : Row b r) {k : Nat} (h : Far b r k) : k ≤ 20737 := by
  have b1 : 1 ≤ b := by have := hb.1; omega
  let g : Nat → Nat := fun i => (numI 12 (gapI (orb b r i))).toNat
  have inj : ∀ i j, i < j → j < k - 1 → g i ≠ g j := fun i j hij hj e => by
    have h1 := gap_num hb (orb_row b1 hr i)
    have h2 := gap_num hb (orb_row b1 hr j)
    have e2 : numI 12 (gapI (orb b r i)) = numI 12 (gapI (orb b r j)) := by
      have e : (numI 12 (gapI (orb b r i))).toNat = (numI 12 (gapI (orb b r j))).toNat := e
      omega
    have e3 := num_inj (gap_dg hb (orb_row b1 hr i)) (gap_dg hb (orb_row b1 hr j)) (by rw [gap_len, gap_len, orb_len, orb_len]) e2
    exact h (i + 1) (j + 1) (by omega) (by omega) (gap_step (by rw [orb_len, orb_len]) e3)
  have nd : ((List.range (k - 1)).map g).Nodup := by
    unfold List.Nodup
    rw [List.pairwise_map]
    refine List.Pairwise.imp_of_mem (fun {a c} ha hc hac => ?_) (List.pairwise_lt_range (n := k - 1))
    exact inj a c hac (List.mem_range.mp hc)
  have hp := pigeon 20736 _ nd fun x hx => by
    obtain ⟨i, _, rfl⟩ := List.mem_map.mp hx
    have := gap_num hb (orb_row b1 hr i)
    show (numI 12 (gapI (orb b r i))).toNat < 20736
    omega
  rw [List.length_map, List.length_range] at hp
  omega
/-- the course: n rows, then the one at j again -/
structure Course (b : Int) (r : List Int) (n j : Nat) : Prop where
  far : Far b r n
  lt : j < n
  eq : orb b r n = orb b r j
theorem Course.uniq {b : Int} {r : List Int} {n j n' j' : Nat} (c : Course b r n j) (c' : Course b r n' j') : n = n' ∧ j = j' := by
  have hn : n = n' := by
    rcases Nat.lt_trichotomy n n' with h | h | h
    · exact absurd c.eq.symm (c'.far j n c.lt h)
    · exact h
    · exact absurd c'.eq.symm (c.far j' n' c'.lt h)
  subst hn
  refine ⟨rfl, ?_⟩
  rcases Nat.lt_trichotomy j j' with h | h | h
  · exact absurd (c.eq.symm.trans c'.eq) (c.far j j' h c'.lt)
  · exact h
  · exact absurd (c'.eq.symm.trans c.eq) (c.far j' j h c.lt)
def rowsD (b : Int) (r : List Int) (n : Nat) : List PyData := (List.range n).map fun i => tI (orb b r i)
def placesD (b : Int) (r : List Int) (n : Nat) : List (List Int × PyData) := (List.range n).map fun (i : Nat) => (orb b r i, .int (i : Int))
theorem rowsD_succ (b : Int) (r : List Int) (n : Nat) : rowsD b r (n + 1) = rowsD b r n ++ [tI (orb b r n)] := by unfold rowsD; rw [List.range_succ, List.map_append]; rfl
theorem placesD_succ (b : Int) (r : List Int) (n : Nat) : placesD b r (n + 1) = placesD b r n ++ [(orb b r n, .int (n : Int))] := by unfold placesD; rw [List.range_succ, List.map_append]; rfl
theorem rowsD_len (b : Int) (r : List Int) (n : Nat) : (rowsD b r n).length = n := by unfold rowsD; rw [List.length_map, List.length_range]
theorem placesD_len (b : Int) (r : List Int) (n : Nat) : (placesD b r n).length = n := by unfold placesD; rw [List.length_map, List.length_range]
theorem places_none {b : Int} {r : List Int} {n : Nat} {k : List Int} (h : ((placesD b r n).find? fun z => decide (z.1 = k)) = none) : ∀ j, j < n → orb b r j ≠ k := fun j hj e => by
  have := List.find?_eq_none.mp h (orb b r j, .int (j : Int)) (by unfold placesD; exact List.mem_map.mpr ⟨j, List.mem_range.mpr hj, rfl⟩)
  simp [e] at this
theorem places_some {b : Int} {r : List Int} {n : Nat} {k : List Int} {z : List Int × PyData} (h : ((placesD b r n).find? fun z => decide (z.1 = k)) = some z) : ∃ j, j < n ∧ orb b r j = k ∧ z.2 = .int (j : Int) := by
  have h1 := List.mem_of_find?_eq_some h
  have h2 := List.find?_some h
  unfold placesD at h1
  obtain ⟨j, hj, rfl⟩ := List.mem_map.mp h1
  exact ⟨j, List.mem_range.mp hj, of_decide_eq_true h2, rfl⟩
end DD

namespace DD
open PySem L2
/-! ## the course of a row, told by choice; its round -/
theorem orb_add (b : Int) (r : List Int) (s : Nat) : ∀ t, orb b (orb b r s) t = orb b r (s + t)
  | 0 => rfl
  | t + 1 => by show stepI b (orb b (orb b r s) t) = stepI b (orb b r (s + t)); rw [orb_add b r s t]
theorem course_ex {b : Int} {r : List Int} (hb : Base b) (hr : Row b r) : ∃ p : Nat × Nat, Course b r p.1 p.2 := by
  refine Classical.byContradiction fun hn => ?_
  have h : ∀ k, Far b r k := fun k => by
    induction k with
    | zero => exact fun i j _ hj => absurd hj (Nat.not_lt_zero _)
    | succ k ih =>
      intro i j hij hj e
      rcases Nat.lt_or_ge j k with h | h
      · exact ih i j hij h e
      · have : j = k := by omega
        subst this
        exact hn ⟨(j, i), ih, hij, e.symm⟩
  have := far_bound hb hr (h 20738)
  omega
noncomputable def crs (b : Int) (r : List Int) : Nat × Nat := open Classical in if h : ∃ p : Nat × Nat, Course b r p.1 p.2 then Classical.choose h else (0, 0)
theorem crs_ok {b : Int} {r : List Int} (hb : Base b) (hr : Row b r) : Course b r (crs b r).1 (crs b r).2 := by
  unfold crs
  have h := course_ex hb hr
  rw [dif_pos h]
  exact Classical.choose_spec h
theorem crs_le {b : Int} {r : List Int} (hb : Base b) (hr : Row b r) : (crs b r).1 ≤ 20737 := far_bound hb hr (crs_ok hb hr).far
theorem crs_uniq {b : Int} {r : List Int} (hb : Base b) (hr : Row b r) {n j : Nat} (h : Course b r n j) : n = (crs b r).1 ∧ j = (crs b r).2 := h.uniq (crs_ok hb hr)
/-- from j on, the course has the period n - j -/
theorem Course.per {b : Int} {r : List Int} {n j : Nat} (c : Course b r n j) : ∀ t, orb b r (n + t) = orb b r (j + t) := fun t => by
  rw [← orb_add, ← orb_add, c.eq]
theorem Course.pers {b : Int} {r : List Int} {n j : Nat} (c : Course b r n j) {i : Nat} (h : j ≤ i) : ∀ k, orb b r (i + k * (n - j)) = orb b r i
  | 0 => by rw [Nat.zero_mul]; rfl
  | k + 1 => by
    have hl := c.lt
    have e : i + (k + 1) * (n - j) = n + (i - j + k * (n - j)) := by rw [Nat.succ_mul]; omega
    rw [e, c.per, show j + (i - j + k * (n - j)) = i + k * (n - j) by omega, c.pers h k]
/-- every row of the course at i ≥ j is one of those from j to n -/
theorem Course.back {b : Int} {r : List Int} {n j : Nat} (c : Course b r n j) (i : Nat) : j ≤ i → ∃ i', j ≤ i' ∧ i' < n ∧ orb b r i' = orb b r i := fun h => by
  have hl := c.lt
  refine ⟨j + (i - j) % (n - j), by omega, by have := Nat.mod_lt (i - j) (show n - j > 0 by omega); omega, ?_⟩
  have e : i = j + (i - j) % (n - j) + (i - j) / (n - j) * (n - j) := by
    have := Nat.div_add_mod (i - j) (n - j)
    rw [Nat.mul_comm] at this
    omega
  have := c.pers (i := j + (i - j) % (n - j)) (by omega) ((i - j) / (n - j))
  rw [← e] at this
  exact this.symm
theorem keys_inj : ∀ {xs ys : List Int}, PySem.W.keyToksAll (iv xs) = PySem.W.keyToksAll (iv ys) → xs = ys
  | [], [], _ => rfl
  | [], y :: ys, h => by
    rw [show iv (y :: ys) = PyData.int y :: iv ys from rfl, PySem.W.toks_all_cons] at h
    simp [iv, PySem.W.keyToksAll] at h
  | x :: xs, [], h => by
    rw [show iv (x :: xs) = PyData.int x :: iv xs from rfl, PySem.W.toks_all_cons] at h
    simp [iv, PySem.W.keyToksAll] at h
  | x :: xs, y :: ys, h => by
    rw [show iv (x :: xs) = PyData.int x :: iv xs from rfl, show iv (y :: ys) = PyData.int y :: iv ys from rfl, PySem.W.toks_all_cons, PySem.W.toks_all_cons] at h
    simp only [PySem.W.keyToks, List.cons_append, List.nil_append, List.cons.injEq, true_and, Sum.inl.injEq] at h
    rw [h.1, keys_inj h.2]
theorem lt_tot {a b : List Int} (h : PySem.W.dataLt (tI a) (tI b) = false) (h' : PySem.W.dataLt (tI b) (tI a) = false) : a = b := by
  have e := PyProof.Rows.lex_total _ _ h h'
  simp only [tI, PySem.W.keyToks] at e
  exact keys_inj e
theorem minD_mem : ∀ (ds : List PyData) (x : PyData), PySem.W.minD x ds ∈ x :: ds
  | [], x => List.mem_cons_self
  | y :: ds, x => by
    have h := minD_mem ds (if PySem.W.dataLt y x then y else x)
    have e : PySem.W.minD x (y :: ds) = PySem.W.minD (if PySem.W.dataLt y x then y else x) ds := rfl
    rw [e]
    rcases List.mem_cons.mp h with h | h
    · rw [h]
      split
      · exact List.mem_cons_of_mem _ List.mem_cons_self
      · exact List.mem_cons_self
    · exact List.mem_cons_of_mem _ (List.mem_cons_of_mem _ h)
theorem minD_le : ∀ (ds : List PyData) (x : PyData), ∀ z ∈ x :: ds, PySem.W.dataLt z (PySem.W.minD x ds) = false
  | [], x, z, hz => by
    rcases List.mem_cons.mp hz with rfl | h
    · exact PyProof.Rows.lex_irrefl _
    · cases h
  | y :: ds, x, z, hz => by
    have e : PySem.W.minD x (y :: ds) = PySem.W.minD (if PySem.W.dataLt y x then y else x) ds := rfl
    rw [e]
    have ih := minD_le ds (if PySem.W.dataLt y x then y else x)
    have h0 := ih _ List.mem_cons_self
    have key : ∀ u, PySem.W.dataLt u (if PySem.W.dataLt y x then y else x) = false → PySem.W.dataLt u (PySem.W.minD (if PySem.W.dataLt y x then y else x) ds) = false := fun u hu => by
      cases h : PySem.W.dataLt u (PySem.W.minD (if PySem.W.dataLt y x then y else x) ds) with
      | false => rfl
      | true =>
        rcases PyProof.Rows.lex_negTrans _ (PySem.W.keyToks (if PySem.W.dataLt y x then y else x)) _ h with h1 | h1
        · exact absurd (hu.symm.trans h1) Bool.false_ne_true
        · exact absurd (h0.symm.trans h1) Bool.false_ne_true
    rcases List.mem_cons.mp hz with rfl | hz
    · refine key z ?_
      split
      · rename_i h
        cases h2 : PySem.W.dataLt z y with
        | false => rfl
        | true => exact absurd ((PyProof.Rows.lex_irrefl _).symm.trans (PyProof.Rows.lex_trans _ _ _ h2 h)) Bool.false_ne_true
      · exact PyProof.Rows.lex_irrefl _
    · rcases List.mem_cons.mp hz with rfl | hz
      · refine key z ?_
        split
        · exact PyProof.Rows.lex_irrefl _
        · rename_i h; exact Bool.eq_false_iff.mpr h
      · exact ih z (List.mem_cons_of_mem _ hz)
/-- m is the least row of the round of r, L the length of the round -/
structure Circ (b : Int) (r m : List Int) (L : Nat) : Prop where
  at_ : ∃ i, orb b r i = m
  pos : 0 < L
  per : orb b m L = m
  low : ∀ t, 0 < t → t < L → orb b m t ≠ m
  least : ∀ t, PySem.W.dataLt (tI (orb b m t)) (tI m) = false
theorem Circ.pers {b : Int} {r m : List Int} {L : Nat} (c : Circ b r m L) : ∀ k, orb b m (k * L) = m
  | 0 => by rw [Nat.zero_mul]; rfl
  | k + 1 => by rw [Nat.succ_mul, ← orb_add, c.pers k, c.per]
theorem Circ.shift {b : Int} {r m : List Int} {L : Nat} (c : Circ b r m L) (s : Nat) : Circ b (orb b r s) m L := by
  obtain ⟨i, hi⟩ := c.at_
  refine ⟨⟨i + s * L - s, ?_⟩, c.pos, c.per, c.low, c.least⟩
  have h : s ≤ s * L := Nat.le_mul_of_pos_right s c.pos
  rw [orb_add, show s + (i + s * L - s) = i + s * L by omega, ← orb_add, hi, c.pers]
theorem Circ.unshift {b : Int} {r m : List Int} {L s : Nat} (c : Circ b (orb b r s) m L) : Circ b r m L := by
  obtain ⟨i, hi⟩ := c.at_
  exact ⟨⟨s + i, by rw [← orb_add]; exact hi⟩, c.pos, c.per, c.low, c.least⟩
theorem Circ.one {b : Int} {r m m' : List Int} {L L' : Nat} (c : Circ b r m L) (c' : Circ b r m' L') : m = m' ∧ L = L' := by
  obtain ⟨i, hi⟩ := c.at_
  obtain ⟨j, hj⟩ := c'.at_
  have e1 : ∃ t, orb b m t = m' := ⟨j + i * L' - i, by
    have h : i ≤ i * L' := Nat.le_mul_of_pos_right i c'.pos
    rw [← hi, orb_add, show i + (j + i * L' - i) = j + i * L' by omega, ← orb_add, hj, c'.pers]⟩
  have e2 : ∃ t, orb b m' t = m := ⟨i + j * L - j, by
    have h : j ≤ j * L := Nat.le_mul_of_pos_right j c.pos
    rw [← hj, orb_add, show j + (i + j * L - j) = i + j * L by omega, ← orb_add, hi, c.pers]⟩
  obtain ⟨t, ht⟩ := e1
  obtain ⟨t', ht'⟩ := e2
  have h1 := c.least t
  have h2 := c'.least t'
  rw [ht] at h1
  rw [ht'] at h2
  have hm : m = m' := lt_tot h2 h1
  subst hm
  refine ⟨rfl, ?_⟩
  rcases Nat.lt_trichotomy L L' with h | h | h
  · exact absurd c.per (c'.low L c.pos h)
  · exact h
  · exact absurd c'.per (c.low L' c'.pos h)
/-- the round, told from its least row on -/
def circR (b : Int) (m : List Int) (L : Nat) : List PyData := (List.range L).map fun t => tI (orb b m t)
section
variable {C : Ct} {ρ : Rho} {F : Out → Prop} {e : Expr} {pos : Pos}
/-- a, b = e -/
theorem ds_unp2 (i j : Nat) {x y : Str} {d d' : PyData} {px py pt : Pos} {kt} (he : DEd C (xi F) ρ e (.tuple [d, d'])) (k : F (.nx ((ρ.set i (.dat d)).set j (.dat d')))) (hN : C.X.N.Nodup) (hi : C.X.N[i]? = some x) (hj : C.X.N[j]? = some y)
    (hx : Loc C.X.env.scope x) (hy : Loc C.X.env.scope y) (hfx : C.X.fn x = true ∨ C.X.env.scope.names.lookup x = some .local := by first | exact .inl rfl | exact .inr rfl) (hfy : C.X.fn y = true ∨ C.X.env.scope.names.lookup y = some .local := by first | exact .inl rfl | exact .inr rfl)
    (hs : swapsWithSole [.Tuple [.Name x px, .Name y py] kt pt] e pos.line C.X.env = pure false := by rfl) (hw : swappedStores [.Tuple [.Name x px, .Name y py] kt pt] e C.X.env = pure none := by rfl)
    (h1 : (assignEach [.Tuple [.Name x px, .Name y py] kt pt] C.X.env).map (·.2) = [assign (.Tuple [.Name x px, .Name y py] kt pt) C.X.env] := by rfl) (hc : C.X.calm = true := by rfl) (h2 : (assignEach [.Name x px, .Name y py] C.X.env).length = 2 := by rfl) (h3 : (assignEach [.Name x px, .Name y py] C.X.env).findIdx? (·.1) = none := by rfl)
    (h4 : (assignEach [.Name x px, .Name y py] C.X.env).map (·.2) = assign (.Name x px) C.X.env :: (assignEach [.Name y py] C.X.env).map (·.2) := by rfl) (h5 : (assignEach [.Name y py] C.X.env).map (·.2) = assign (.Name y py) C.X.env :: (assignEach [] C.X.env).map (·.2) := by rfl) : DS C F ρ (.Assign [.Tuple [.Name x px, .Name y py] kt pt] e pos) :=
  ds_asg (js := [i, j]) (ρ' := fun _ => (ρ.set i (.dat d)).set j (.dat d')) he (fun z e => by
    subst e
    exact dg_tup (dgs_cons (dg_name i hN hi hx hfx) (dgs_cons (dg_name j hN hj hy hfy) dgs_nil h5) h4) hc h2 h3) (fun z _ => k) hs hw h1
end
/-- the number of steps to the round, and its length -/
noncomputable def fateD (b : Int) (r : List Int) : PyData := .tuple [.int ((crs b r).2 : Int), .int (((crs b r).1 : Int) - (crs b r).2)]
/-- the first step at which two courses have the same row -/
noncomputable def meetN (b : Int) (r o : List Int) : Option Nat := (List.range ((max (crs b r).2 (crs b o).2) + 1)).find? fun k => decide (orb b r k = orb b o k)
noncomputable def meetD (b : Int) (r o : List Int) : PyData := match meetN b r o with
  | some k => .int (k : Int)
  | none => .none
theorem meetD_some {b : Int} {r o : List Int} {k : Nat} (h : ∀ i, i < k → orb b r i ≠ orb b o i) (hk : k < (max (crs b r).2 (crs b o).2) + 1) (e : orb b r k = orb b o k) : meetD b r o = .int (k : Int) := by
  have : meetN b r o = some k := by
    unfold meetN
    rw [List.find?_range_eq_some]
    exact ⟨decide_eq_true e, List.mem_range.mpr hk, fun j hj => by rw [Bool.not_eq_true']; exact decide_eq_false (h j hj)⟩
  unfold meetD
  rw [this]
theorem meetD_none {b : Int} {r o : List Int} (h : ∀ i, i < (max (crs b r).2 (crs b o).2) + 1 → orb b r i ≠ orb b o i) : meetD b r o = .none := by
  have : meetN b r o = none := by
    unfold meetN
    rw [List.find?_eq_none]
    exact fun j hj e => h j (List.mem_range.mp hj) (of_decide_eq_true e)
  unfold meetD
  rw [this]
end DD

namespace DD
open PySem L2
theorem rowsD_at {b : Int} {r : List Int} {n i : Nat} (h : i < n) : (rowsD b r n)[i]? = some (tI (orb b r i)) := by
  unfold rowsD
  rw [List.getElem?_map, List.getElem?_range h]
  rfl
theorem Course.circ {b : Int} {r : List Int} {n j i0 : Nat} (c : Course b r n j) (h1 : j ≤ i0) (h2 : i0 < n) (hl : ∀ i, j ≤ i → i < n → PySem.W.dataLt (tI (orb b r i)) (tI (orb b r i0)) = false) : Circ b r (orb b r i0) (n - j) := by
  have hlt := c.lt
  refine ⟨⟨i0, rfl⟩, by omega, ?_, fun t h3 h4 e => ?_, fun t => ?_⟩
  · have := c.pers h1 1
    rw [Nat.one_mul] at this
    rw [orb_add, this]
  · rw [orb_add] at e
    rcases Nat.lt_or_ge (i0 + t) n with h | h
    · exact c.far i0 (i0 + t) (by omega) h e.symm
    · have e2 := c.per (i0 + t - n)
      rw [show n + (i0 + t - n) = i0 + t by omega, e] at e2
      exact c.far (j + (i0 + t - n)) i0 (by omega) h2 e2.symm
  · rw [orb_add]
    obtain ⟨i', h3, h4, e⟩ := c.back (i0 + t) (by omega)
    rw [← e]
    exact hl i' h3 h4
theorem circ_rot {b : Int} {r : List Int} {n j i0 : Nat} (c : Course b r n j) (h1 : j ≤ i0) (h2 : i0 < n) : ((rowsD b r n).drop j).drop (i0 - j) ++ ((rowsD b r n).drop j).take (i0 - j) = circR b (orb b r i0) (n - j) := by
  have hlt := c.lt
  apply List.ext_getElem?
  intro t
  have hlen : (((rowsD b r n).drop j).drop (i0 - j)).length = n - i0 := by rw [List.length_drop, List.length_drop, rowsD_len]; omega
  have hr : (circR b (orb b r i0) (n - j))[t]? = if t < n - j then some (tI (orb b r (i0 + t))) else none := by
    unfold circR
    rw [List.getElem?_map]
    split
    · rename_i h; rw [List.getElem?_range h, ← orb_add]; rfl
    · rename_i h; rw [List.getElem?_eq_none (by rw [List.length_range]; omega)]; rfl
  rw [hr, List.getElem?_append, hlen]
  by_cases h3 : t < n - i0
  · rw [if_pos h3, if_pos (by omega), List.getElem?_drop, List.getElem?_drop, show j + (i0 - j + t) = i0 + t by omega, rowsD_at (by omega)]
  · rw [if_neg h3, List.getElem?_take]
    by_cases h4 : t < n - j
    · rw [if_pos h4, if_pos (by omega), List.getElem?_drop, rowsD_at (by omega)]
      have := c.per (t - (n - i0))
      rw [show n + (t - (n - i0)) = i0 + t by omega] at this
      rw [this]
    · rw [if_neg h4, if_neg (by omega)]
theorem circ_ex {b : Int} {r : List Int} (hb : Base b) (hr : Row b r) : ∃ i0, (crs b r).2 ≤ i0 ∧ i0 < (crs b r).1 ∧ (∀ i, (crs b r).2 ≤ i → i < (crs b r).1 → PySem.W.dataLt (tI (orb b r i)) (tI (orb b r i0)) = false) ∧ ∃ x ds, (rowsD b r (crs b r).1).drop (crs b r).2 = x :: ds ∧ PySem.W.minD x ds = tI (orb b r i0) := by
  have c := crs_ok hb hr
  have hlt := c.lt
  cases e : (rowsD b r (crs b r).1).drop (crs b r).2 with
  | nil =>
    have := congrArg List.length e
    rw [List.length_drop, rowsD_len, List.length_nil] at this
    omega
  | cons x ds =>
    have hm := minD_mem ds x
    have hl := minD_le ds x
    rw [← e] at hm
    obtain ⟨k, hk⟩ := List.getElem?_of_mem hm
    have hk0 := (List.getElem?_eq_some_iff.mp hk).1
    rw [List.length_drop, rowsD_len] at hk0
    rw [List.getElem?_drop, rowsD_at (by omega)] at hk
    injection hk with hk
    refine ⟨(crs b r).2 + k, by omega, by omega, fun i h3 h4 => ?_, x, ds, rfl, hk.symm⟩
    rw [hk]
    refine hl _ ?_
    rw [← e]
    refine List.mem_of_getElem? (i := i - (crs b r).2) ?_
    rw [List.getElem?_drop, show (crs b r).2 + (i - (crs b r).2) = i by omega, rowsD_at h4]
noncomputable def crc (b : Int) (r : List Int) : List Int × Nat := open Classical in if h : ∃ p : List Int × Nat, Circ b r p.1 p.2 then Classical.choose h else ([], 0)
theorem crc_ok {b : Int} {r m : List Int} {L : Nat} (c : Circ b r m L) : crc b r = (m, L) := by
  have h : ∃ p : List Int × Nat, Circ b r p.1 p.2 := ⟨(m, L), c⟩
  have h2 := Classical.choose_spec h
  unfold crc
  rw [dif_pos h]
  obtain ⟨e1, e2⟩ := h2.one c
  exact Prod.ext e1 e2
/-- the round of a row -/
noncomputable def circD (b : Int) (r : List Int) : PyData := .tuple (circR b (crc b r).1 (crc b r).2)
theorem circD_eq {b : Int} {r m : List Int} {L : Nat} (c : Circ b r m L) : circD b r = .tuple (circR b m L) := by
  unfold circD
  rw [crc_ok c]
theorem circ_is {b : Int} {r : List Int} (hb : Base b) (hr : Row b r) : ∃ m L, Circ b r m L := by
  obtain ⟨i0, h1, h2, h3, _⟩ := circ_ex hb hr
  exact ⟨_, _, (crs_ok hb hr).circ h1 h2 h3⟩
/-- two courses with a row in common have the same round -/
theorem circD_meet {b : Int} {r o : List Int} {i j : Nat} (hb : Base b) (hr : Row b r) (ho : Row b o) (e : orb b r i = orb b o j) : circD b r = circD b o := by
  obtain ⟨m, L, c⟩ := circ_is hb hr
  have c2 := c.shift i
  rw [e] at c2
  rw [circD_eq c, circD_eq c2.unshift]
theorem cutD_from {ds : List PyData} {k : Nat} (h : k ≤ ds.length) : cutD ds (some (k : Int)) none = ds.drop k := by
  unfold cutD
  rw [HT.sIx_nat, HT.sIx_none, Nat.min_eq_left h]
  exact List.take_of_length_le (by rw [List.length_drop]; omega)
theorem cutD_to {ds : List PyData} {k : Nat} (h : k ≤ ds.length) : cutD ds none (some (k : Int)) = ds.take k := by
  unfold cutD
  rw [HT.sIx_nat, HT.sIx_none, Nat.min_eq_left h, Nat.sub_zero, List.drop_zero]
def AllRows (ds : List PyData) : Prop := ∀ d ∈ ds, ∃ ns, d = tI ns
theorem rows_drop {b : Int} {r : List Int} {n j : Nat} : AllRows ((rowsD b r n).drop j) := fun d hd => by
  obtain ⟨i, _, e⟩ := List.mem_map.mp (List.mem_of_mem_drop hd)
  exact ⟨_, e.symm⟩
theorem lay_rows : ∀ {ds : List PyData}, AllRows ds → PyData.canLayAll0 ds = true ∧ PyData.depthAll ds ≤ 1
  | [], _ => by simp [PyData.canLayAll0, PyData.depthAll]
  | d :: ds, h => by
    obtain ⟨ns, rfl⟩ := h d List.mem_cons_self
    have ih := lay_rows fun x hx => h x (List.mem_cons_of_mem _ hx)
    have h1 := lay_iv ns
    rw [PyData.canLayAll0, PyData.depthAll]
    refine ⟨by rw [Bool.and_eq_true]; exact ⟨by rw [tI, PyData.canLay0]; exact h1.1, ih.1⟩, ?_⟩
    rw [tI, PyData.depth, h1.2]
    omega
theorem sh_rows {ds : List PyData} (h : AllRows ds) : SeqAt.shaped (.list ds) = true := by
  have h1 := lay_rows h
  unfold SeqAt.shaped
  rw [PyData.canLay0, PyData.depth, h1.1, Bool.true_and, decide_eq_true_eq]
  have := h1.2
  omega
theorem alike_iv2 : ∀ xs ys : List Int, PySem.W.alikeAll (iv xs) (iv ys) = true
  | [], _ => by rw [show iv [] = [] from rfl, PySem.W.alikeAll]
  | x :: xs, [] => by rw [show iv [] = [] from rfl, show iv (x :: xs) = PyData.int x :: iv xs from rfl, PySem.W.alikeAll]
  | x :: xs, y :: ys => by rw [show iv (y :: ys) = PyData.int y :: iv ys from rfl, show iv (x :: xs) = PyData.int x :: iv xs from rfl, PySem.W.alikeAll, alike_iv2 xs ys, PySem.W.alike]; rfl
theorem alike_rows {ds : List PyData} (h : AllRows ds) : PySem.W.AlikeAll ds := by
  refine ⟨fun x hx y hy => ?_, fun x hx => ?_⟩
  · obtain ⟨a, rfl⟩ := h x hx
    obtain ⟨c, rfl⟩ := h y hy
    rw [tI, tI, PySem.W.alike]
    exact alike_iv2 a c
  · obtain ⟨a, rfl⟩ := h x hx
    simp [tI]
section
variable {C : Ct} {Ξ : Addr → Prop} {ρ : Rho} {e : Expr} {pos p : Pos}
theorem de_minR {x : PyData} {ds : List PyData} (h : AllRows (x :: ds)) (hg : Gl C.X "min") (hm : C.X.mg "min" = none) (ha : DEd C Ξ ρ e (.list (x :: ds))) (hcalm : C.X.calm = true := by rfl) (he : starEach [e] C.X.env = (false, eval e C.X.env) :: starEach [] C.X.env := by rfl) (hpl : (backTo pos (starEach [] C.X.env)).any (·.1) = false := by rfl) : DEd C Ξ ρ (.Call (.Name "min" p) [e] [] pos) (PySem.W.minD x ds) := by
  have := lay_rows h
  exact de_cb (cr_minD hcalm C.un) hg hm b_min (da_cons ha da_nil he) (rc_mm (t := false) (alike_rows h) this.1 (by omega)) (he := he) (hpl := hpl)
end
end DD

namespace DD
open PySem L2
theorem orb_stay {b : Int} {r o : List Int} {k : Nat} (e : orb b r k = orb b o k) (t : Nat) : orb b r (k + t) = orb b o (k + t) := by
  rw [← orb_add, ← orb_add, e]
/-- courses that meet do so before both are in their rounds, or there -/
theorem meet_bound {b : Int} {r o : List Int} {k : Nat} (hb : Base b) (hr : Row b r) (ho : Row b o) (e : orb b r k = orb b o k) : ∃ i, i < (max (crs b r).2 (crs b o).2) + 1 ∧ orb b r i = orb b o i := by
  rcases Nat.lt_or_ge k ((max (crs b r).2 (crs b o).2) + 1) with h | h
  · exact ⟨k, h, e⟩
  refine ⟨max (crs b r).2 (crs b o).2, by omega, ?_⟩
  have c1 := crs_ok hb hr
  have c2 := crs_ok hb ho
  have l1 := c1.lt
  have l2 := c2.lt
  have p1 := c1.pers (i := max (crs b r).2 (crs b o).2) (Nat.le_max_left _ _) (k * ((crs b o).1 - (crs b o).2))
  have p2 := c2.pers (i := max (crs b r).2 (crs b o).2) (Nat.le_max_right _ _) (k * ((crs b r).1 - (crs b r).2))
  rw [Nat.mul_right_comm] at p2
  have hk : k ≤ k * ((crs b o).1 - (crs b o).2) * ((crs b r).1 - (crs b r).2) := by
    rw [Nat.mul_assoc]
    exact Nat.le_mul_of_pos_right k (Nat.mul_pos (by omega) (by omega))
  have s := orb_stay e (max (crs b r).2 (crs b o).2 + k * ((crs b o).1 - (crs b o).2) * ((crs b r).1 - (crs b r).2) - k)
  rw [show k + (max (crs b r).2 (crs b o).2 + k * ((crs b o).1 - (crs b o).2) * ((crs b r).1 - (crs b r).2) - k) = max (crs b r).2 (crs b o).2 + k * ((crs b o).1 - (crs b o).2) * ((crs b r).1 - (crs b r).2) by omega] at s
  rw [← p1, s, p2]
theorem meetD_none_all {b : Int} {r o : List Int} (hb : Base b) (hr : Row b r) (ho : Row b o) (h : meetD b r o = .none) (k : Nat) : orb b r k ≠ orb b o k := fun e => by
  obtain ⟨i, hi, e2⟩ := meet_bound hb hr ho e
  unfold meetD at h
  cases hm : meetN b r o with
  | some z => rw [hm] at h; cases h
  | none =>
    unfold meetN at hm
    rw [List.find?_eq_none] at hm
    exact hm i (List.mem_range.mpr hi) (decide_eq_true e2)
theorem meetD_first {b : Int} {r o : List Int} {k : Nat} (hb : Base b) (hr : Row b r) (ho : Row b o) (h : ∀ i, i < k → orb b r i ≠ orb b o i) (e : orb b r k = orb b o k) : meetD b r o = .int (k : Int) := by
  obtain ⟨i, hi, e2⟩ := meet_bound hb hr ho e
  refine meetD_some h ?_ e
  rcases Nat.lt_or_ge i k with h1 | h1
  · exact absurd e2 (h i h1)
  · omega
theorem meetD_comm {b : Int} {r o : List Int} : meetD b r o = meetD b o r := by
  have : meetN b r o = meetN b o r := by
    unfold meetN
    rw [Nat.max_comm]
    congr 1
    funext k
    exact decide_eq_decide.mpr eq_comm
  unfold meetD
  rw [this]
theorem meetD_self {b : Int} {r : List Int} : meetD b r r = .int 0 := meetD_some (k := 0) (fun i hi => absurd hi (Nat.not_lt_zero _)) (by omega) rfl
theorem meetD_len {b : Int} {r o : List Int} (h : r.length ≠ o.length) : meetD b r o = .none := meetD_none fun i _ e => h (by rw [← orb_len (b := b) (r := r) i, e, orb_len])
section
variable {C : Ct} {F : Out → Prop} {ρ : Rho}
/-- a, b, c = x, y, z -/
theorem ds_par3 (i j l : Nat) {a b c : Expr} {pos : Pos} {x y z : Str} {d d' d'' : PyData} {px py pz pt : Pos} {kt k2 pt2} (ha : DAd C (xi F) ρ [a, b, c] [d, d', d'']) (k : F (.nx (((ρ.set i (.dat d)).set j (.dat d')).set l (.dat d'')))) (hN : C.X.N.Nodup) (hi : C.X.N[i]? = some x) (hj : C.X.N[j]? = some y) (hl : C.X.N[l]? = some z) (hij : i ≠ j) (hil : i ≠ l) (hjl : j ≠ l)
    (hx : C.X.env.scope.names.lookup x = some .local) (hy : C.X.env.scope.names.lookup y = some .local) (hz : C.X.env.scope.names.lookup z = some .local) (hw : swappedStores [.Tuple [.Name x px, .Name y py, .Name z pz] kt pt] (.Tuple [a, b, c] k2 pt2) C.X.env = pure (some [x, y, z]))
    (hc : C.X.calm = true := by rfl) (hs : swapsWithSole [.Tuple [.Name x px, .Name y py, .Name z pz] kt pt] (.Tuple [a, b, c] k2 pt2) pos.line C.X.env = pure false := by rfl) :
    DS C F ρ (.Assign [.Tuple [.Name x px, .Name y py, .Name z pz] kt pt] (.Tuple [a, b, c] k2 pt2) pos) := fun D σ H E q =>
  ⟨_, ps_par3 hc hN hi hj hl hij hil hjl hx hy hz pA hw hs, ha σ H E _ (fun vs us H2 p g r => by
    subst p
    have r' := r.ats
    cases r' with
    | cons r1 r' =>
    cases r' with
    | cons r2 r' =>
    cases r' with
    | cons r3 r' =>
    cases r'
    obtain ⟨E2, s⟩ := (E.grow g).put (i := i) (sv := .dat d) (o := some _) rfl ⟨_, rfl, r1⟩
    obtain ⟨E3, s3⟩ := E2.put (i := j) (sv := .dat d') (o := some _) rfl ⟨_, rfl, r2.up s⟩
    obtain ⟨E4, s4⟩ := E3.put (i := l) (sv := .dat d'') (o := some _) rfl ⟨_, rfl, (r3.up s).up s3⟩
    exact ⟨_, _, _, rfl, q.nx _ _ _ k E4 ((((vis_gr g).trans s).trans s3).trans s4)⟩) (q.exE E)⟩
end
/-- if without else, at a condition that is not known -/
theorem dss_ifR {C : Ct} {F : Out → Prop} {ρ : Rho} {e : Expr} {s1 rest : List Stmt} {pos : Pos} {B : Bool → Prop} (I : Rho → Prop) (hc : DT C (xi F) ρ e B) (h1 : ∀ F' : Out → Prop, (∀ ρ', I ρ' → F' (.nx ρ')) → DSs C F' ρ s1) (h0 : I ρ) (hr : ∀ ρ', I ρ' → DSs C F ρ' rest) : DSs C F ρ (.If e s1 [] pos :: rest) :=
  dss_cons (ds_if hc (fun _ => h1 _ fun ρ' i => hr ρ' i) fun _ => dss_nil (hr ρ h0))
section
variable {α : Type} {enc : α → List PyData} {C : Ct} {Ξ : Addr → Prop} {ρ : Rho} {e : Expr} {es : List Expr} {pos p : Pos} {P : PyData → Prop}
/-- a call whose arguments are known by a property only -/
theorem de_cy (I : α → Prop) {x : Str} {ps : List Str} {k : Nat} {Dom : α → Prop} {R : α → Out → Prop} (G : Fc C.X.prog C.X.w C.X.K C.X.mg C.X.base x ps k (spX enc Dom R)) (hg : Gl C.X x) (ha : DA C Ξ ρ (e :: es) (AllD fun ds => ∃ y, ds = enc y ∧ I y)) (hd : ∀ y, I y → Dom y)
    (hP : ∀ y d, I y → R y (.rt d) → P d) (hX : ∀ y c, I y → R y (.ex c) → Ξ c) (hk : k ≤ C.lv := by exact Nat.le_of_ble_eq_true rfl) (hcalm : C.X.calm = true := by rfl) (hdb : (x == ("__debug__" : Str)) = false := by decide) (he : starEach (e :: es) C.X.env = (false, eval e C.X.env) :: starEach es C.X.env := by rfl) (hpl : (backTo pos (starEach es C.X.env)).any (·.1) = false := by rfl) :
    DE C Ξ ρ (.Call (.Name x p) (e :: es) [] pos) P := fun σ H E Q q z => by
  obtain ⟨f, fd, hm, kp, hb, F⟩ := G.ex
  refine ⟨_, pe_callS F ((C.room' hcalm).mono hk) hg hm kp hb (fun σ => L2N.passAt C.tk σ) pA hdb he hpl, ha σ H E _ (fun l vs H2 pl g r => ?_) z⟩
  obtain ⟨ds, rfl, y, rfl, i⟩ := pl
  refine ⟨inn C ρ, y, (E.grow g).out, r.ats, hd y i, fun d v H' hr s ra => q d v H' (hP y d i hr) (g.trans (Gr.of s)) ra, fun c H' hr s => z c H' (hX y c i hr) (g.trans (Gr.of s))⟩
end
end DD

namespace DD
open PySem L2
/-- the first meeting below k -/
def dueD (b : Int) (r o : List Int) (k : Nat) : PyData := match (List.range k).find? (fun i => decide (orb b r i = orb b o i)) with
  | some i => .int (i : Int)
  | none => .none
theorem dueD_succ {b : Int} {r o : List Int} {k : Nat} : dueD b r o (k + 1) = if (nonB (dueD b r o k) && decide (orb b r k = orb b o k)) = true then .int (k : Int) else dueD b r o k := by
  unfold dueD
  rw [List.range_succ, List.find?_append]
  cases h : (List.range k).find? (fun i => decide (orb b r i = orb b o i)) with
  | some i => simp [nonB]
  | none =>
    by_cases e : orb b r k = orb b o k
    · simp [nonB, e]
    · simp [nonB, e]
theorem dueD_meet {b : Int} {r o : List Int} {k : Nat} (hb : Base b) (hr : Row b r) (ho : Row b o) (h : max (crs b r).2 (crs b o).2 + 1 ≤ k) : dueD b r o k = meetD b r o := by
  unfold dueD
  cases e : (List.range k).find? (fun i => decide (orb b r i = orb b o i)) with
  | some i =>
    rw [List.find?_range_eq_some] at e
    exact (meetD_first hb hr ho (fun j hj => by have := e.2.2 j hj; simpa using this) (of_decide_eq_true e.1)).symm
  | none =>
    rw [List.find?_eq_none] at e
    exact (meetD_none fun i hi q => e i (List.mem_range.mpr (by omega)) (decide_eq_true q)).symm
/-- an if without else, that leads to the same names by both ways -/
theorem dss_ifK {C : Ct} {F : Out → Prop} {ρ : Rho} {e : Expr} {s1 rest : List Stmt} {pos : Pos} {k : Bool} (ρ2 : Rho) (hc : DTd C (xi F) ρ e k) (h1 : k = true → ∀ F' : Out → Prop, F' (.nx ρ2) → DSs C F' ρ s1) (h0 : k = false → ρ = ρ2) (hr : DSs C F ρ2 rest) : DSs C F ρ (.If e s1 [] pos :: rest) :=
  dss_cons (ds_ifd hc (fun h => h1 h _ hr) fun h => dss_nil (by rw [h0 h]; exact hr))
theorem sh_rowsT {ds : List PyData} (h : AllRows ds) : SeqAt.shaped (.tuple ds) = true := by
  have h1 := lay_rows h
  unfold SeqAt.shaped
  rw [PyData.canLay0, PyData.depth, h1.1, Bool.true_and, decide_eq_true_eq]
  have := h1.2
  omega
theorem eqv_sh {d : PyData} (h : SeqAt.shaped d = true) : PyData.eqv d d = true := by
  unfold SeqAt.shaped at h
  rw [Bool.and_eq_true] at h
  exact SeqAt.eqv_refl d h.1
theorem circR_rows {b : Int} {m : List Int} {L : Nat} : AllRows (circR b m L) := fun d hd => by
  obtain ⟨i, _, e⟩ := List.mem_map.mp hd
  exact ⟨_, e.symm⟩
theorem sh_circ {b : Int} {r : List Int} : SeqAt.shaped (circD b r) = true := sh_rowsT circR_rows
theorem sh_meet {b : Int} {r o : List Int} : SeqAt.shaped (meetD b r o) = true := by
  unfold meetD
  split <;> rfl
section
variable {C : Ct} {Ξ : Addr → Prop} {ρ : Rho} {a b : Expr} {pos : Pos}
/-- a != b, both the same -/
theorem dt_neS {x : PyData} (h : SeqAt.shaped x = true) (ha : DEd C Ξ ρ a x) (hb : DEd C Ξ ρ b x) (hm : behindInMarks .NotEq b = false := by rfl) : DTd C Ξ ρ (.Compare a [.NotEq] [b] pos) false :=
  DT.to (dt_neD h h ha hb hm) (by rw [eqv_sh h]; rfl)
end
end DD

namespace DD
open PySem L2
/-! ## dicts as data; what is owned becomes data -/
theorem dct_inj : ∀ {a b : List (List Int × PyData)}, (a.map fun z => (PyData.tuple (z.1.map .int), z.2)) = (b.map fun z => (PyData.tuple (z.1.map .int), z.2)) → a = b
  | [], [], _ => rfl
  | [], _ :: _, h => by cases h
  | _ :: _, [], h => by cases h
  | (k, d) :: a, (k', d') :: b, h => by
    rw [List.map_cons, List.map_cons] at h
    injection h with h1 h2
    injection h1 with h3 h4
    injection h3 with h3
    have e3 : k = k' := iv_inj h3
    have h4 : d = d' := h4
    rw [e3, h4, dct_inj h2]
theorem At.dct_inv {H : Hp} {v : V} {kvs : List (List Int × PyData)} (h : At H v (dctD kvs)) : ∃ a xs, v = .ref a ∧ H a = some (.dT ((kvs.map fun z => keyOf z.1).zip xs)) ∧ AtAll H xs (kvs.map (·.2)) := by
  unfold dctD at h
  cases h with
  | dct h0 h1 h2 =>
    obtain rfl := dct_inj h0
    exact ⟨_, _, rfl, h1, h2⟩
section
variable {C : Ct} {Ξ : Addr → Prop} {ρ : Rho} {e o a b : Expr} {pos p px : Pos} {F : Out → Prop}
/-- k not in d -/
theorem dt_notInD {kvs : List (List Int × PyData)} {k : List Int} (hd : DEd C Ξ ρ o (dctD kvs)) (hk : DEd C Ξ ρ e (tI k)) (hm : behindInMarks .NotIn o = false := by rfl) : DTd C Ξ ρ (.Compare e [.NotIn] [o] pos) (!(kvs.find? fun z => decide (z.1 = k)).isSome) := fun σ H E Q qq z =>
  ⟨_, pt_cmp (pc_dnotin (by have := C.un; omega) pE pE) hm, hk σ H E _ (fun d v H2 pd g r => by
    subst pd
    refine hd σ H2 (E.grow g) _ (fun d2 v2 H3 pd2 g2 r2 => ?_) (fun c H3 x g2 => z c H3 x (g.trans g2))
    subst pd2
    obtain ⟨b, rfl, hb⟩ := iv_tup (r.up (vis_gr g2))
    obtain ⟨q, xs, rfl, h4, h5⟩ := r2.dct_inv
    have hv := val_dic (k := k) h5
    refine ⟨q, _, rfl, DGet.t (hid_le _ _ h4) (hid_le _ _ hb), _, rfl, qq _ H3 ?_ (g.trans g2)⟩
    cases hf : kvs.find? fun z => decide (z.1 = k) with
    | none => rw [hf] at hv; rw [hv]; rfl
    | some z => rw [hf] at hv; obtain ⟨v, e1, _⟩ := hv; rw [e1]; rfl) z⟩
/-- k in d -/
theorem dt_inD {kvs : List (List Int × PyData)} {k : List Int} (hd : DEd C Ξ ρ o (dctD kvs)) (hk : DEd C Ξ ρ e (tI k)) (hm : behindInMarks .In o = false := by rfl) : DTd C Ξ ρ (.Compare e [.In] [o] pos) (kvs.find? fun z => decide (z.1 = k)).isSome := fun σ H E Q qq z =>
  ⟨_, pt_cmp (pc_din (by have := C.un; omega) pE pE) hm, hk σ H E _ (fun d v H2 pd g r => by
    subst pd
    refine hd σ H2 (E.grow g) _ (fun d2 v2 H3 pd2 g2 r2 => ?_) (fun c H3 x g2 => z c H3 x (g.trans g2))
    subst pd2
    obtain ⟨b, rfl, hb⟩ := iv_tup (r.up (vis_gr g2))
    obtain ⟨q, xs, rfl, h4, h5⟩ := r2.dct_inv
    have hv := val_dic (k := k) h5
    refine ⟨q, _, rfl, DGet.t (hid_le _ _ h4) (hid_le _ _ hb), _, rfl, qq _ H3 ?_ (g.trans g2)⟩
    cases hf : kvs.find? fun z => decide (z.1 = k) with
    | none => rw [hf] at hv; rw [hv]; rfl
    | some z => rw [hf] at hv; obtain ⟨v, e1, _⟩ := hv; rw [e1]; rfl) z⟩
/-- d[k] -/
theorem de_dgetD {kvs : List (List Int × PyData)} {k : List Int} {z : List Int × PyData} (hd : DEd C Ξ ρ o (dctD kvs)) (hk : DEd C Ξ ρ e (tI k)) (hz : (kvs.find? fun z => decide (z.1 = k)) = some z) (hs : NoSl e := by intro _ _; rfl) : DEd C Ξ ρ (.Subscript o e pos) z.2 := fun σ H E Q qq zz =>
  ⟨_, pe_dget (by have := C.un; omega) pE pE hs, hd σ H E _ (fun d2 v2 H2 pd2 g r2 => by
    subst pd2
    refine hk σ H2 (E.grow g) _ (fun d v H3 pd g2 r => ?_) (fun c H3 x g2 => zz c H3 x (g.trans g2))
    subst pd
    obtain ⟨b, rfl, hb⟩ := iv_tup r
    obtain ⟨q, xs, rfl, h4, h5⟩ := (r2.up (vis_gr g2)).dct_inv
    have hv := val_dic (k := k) h5
    rw [hz] at hv
    obtain ⟨v, e1, e2⟩ := hv
    refine ⟨q, v, rfl, ?_, qq _ _ H3 rfl (g.trans g2) e2⟩
    have := DGet.t (hid_le _ _ h4) (hid_le _ _ hb)
    rw [e1] at this
    exact this) zz⟩
/-! ### frozen -/
theorem Env.frz {i : Nat} {q : Addr} {d : PyData} {σ : L2.St} {H : Hp} (E : Env C ρ σ H) (h : (gt ρ i).addr = some q) (hx : SlotOk C ρ H (gt ρ i) (σ.getD i none) → σ.getD i none = some (.ref q) ∧ C.O q = false ∧ ∀ Hv, Same (vis C ρ H) Hv → Hv q = H q → At Hv (.ref q) d) :
    Env C (ρ.set i (.dat d)) σ H ∧ Same (vis C ρ H) (vis C (ρ.set i (.dat d)) H) := by
  have s : Same (vis C ρ H) (vis C (ρ.set i (.dat d)) H) := vis_le fun a e => owns_set rfl e
  obtain ⟨e1, e2, e3⟩ := hx (E.slot i)
  have hq : inn C (ρ.set i (.dat d)) q = false := by
    unfold inn
    rw [e2]
    cases z : owns (ρ.set i (.dat d)) q with
    | false => rfl
    | true =>
      exfalso
      obtain ⟨j, hj⟩ := owns_iff.mp z
      rw [gt_set] at hj
      split at hj
      · cases hj
      · rename_i n
        have := E.dis j i q hj h
        subst this
        refine n ⟨rfl, ?_⟩
        rcases Nat.lt_or_ge j ρ.length with w | w
        · exact w
        · exfalso
          unfold gt at h
          rw [List.getD_eq_getElem?_getD, List.getElem?_eq_none w] at h
          cases h
  refine ⟨⟨by rw [List.length_set, E.len], fun j => ?_, E.cell, E.alloc, E.gr, fun j l p hj hl => ?_⟩, s⟩
  · rw [gt_set]
    split
    · rename_i n
      rw [← n.1]
      exact ⟨.ref q, e1, e3 _ s (hid_at hq)⟩
    · exact (E.slot j).see s fun _ _ _ q => q
  · rw [gt_set] at hj hl
    split at hj
    · cases hj
    · split at hl
      · cases hl
      · exact E.dis j l p hj hl
theorem Env.frzL {i : Nat} {q : Addr} {ds : List PyData} {σ : L2.St} {H : Hp} (E : Env C ρ σ H) (h : gt ρ i = .own q ds) : Env C (ρ.set i (.dat (.list ds))) σ H ∧ Same (vis C ρ H) (vis C (ρ.set i (.dat (.list ds))) H) :=
  E.frz (by rw [h]; rfl) fun s => by
    rw [h] at s
    obtain ⟨e, h1, _, xs, h3, h4⟩ := s
    exact ⟨e, h1, fun Hv sv hq => .lst (hq.trans h3) (h4.up sv)⟩
theorem Env.frzD {i : Nat} {q : Addr} {kvs : List (List Int × PyData)} {σ : L2.St} {H : Hp} (E : Env C ρ σ H) (h : gt ρ i = .dic q kvs) : Env C (ρ.set i (.dat (dctD kvs))) σ H ∧ Same (vis C ρ H) (vis C (ρ.set i (.dat (dctD kvs))) H) :=
  E.frz (by rw [h]; rfl) fun s => by
    rw [h] at s
    obtain ⟨e, h1, _, xs, h3, h4⟩ := s
    exact ⟨e, h1, fun Hv sv hq => .dct rfl (hq.trans h3) (h4.up sv)⟩
theorem dss_frzL (i : Nat) {q : Addr} {ds : List PyData} {sts : List Stmt} (h : gt ρ i = .own q ds) (k : DSs C F (ρ.set i (.dat (.list ds))) sts) : DSs C F ρ sts := fun D σ H E K =>
  k D σ H (E.frzL h).1 (K.move (E.frzL h).2)
theorem dss_frzD (i : Nat) {q : Addr} {kvs : List (List Int × PyData)} {sts : List Stmt} (h : gt ρ i = .dic q kvs) (k : DSs C F (ρ.set i (.dat (dctD kvs))) sts) : DSs C F ρ sts := fun D σ H E K =>
  k D σ H (E.frzD h).1 (K.move (E.frzD h).2)
/-- data without an address -/
def flat : PyData → Bool
  | .none => true
  | .bool _ => true
  | .int _ => true
  | .str _ => true
  | _ => false
theorem flat_at {H H' : Hp} {v : V} {d : PyData} (f : flat d = true) (h : At H v d) : At H' v d := by
  cases h with
  | non => exact .non
  | bl b => exact .bl b
  | int i => exact .int i
  | str x => exact .str x
  | lst _ _ => cases f
  | tup _ _ => cases f
  | dct _ _ _ => cases f
/-- an own list looked at -/
theorem de_view (i : Nat) {q : Addr} {ds : List PyData} {P : PyData → Prop} (h : gt ρ i = .own q ds) (he : DE C Ξ (ρ.set i (.dat (.list ds))) e P) (hP : ∀ d, P d → flat d = true) : DE C Ξ ρ e P := fun σ H E Q qq z =>
  he σ H (E.frzL h).1 Q (fun d v H2 p g r => qq d v H2 p g (flat_at (hP d p) r)) z
theorem de_viewI (i : Nat) {q : Addr} {ds : List PyData} {n : Int} (h : gt ρ i = .own q ds) (he : DEd C Ξ (ρ.set i (.dat (.list ds))) e (.int n)) : DEd C Ξ ρ e (.int n) := de_view i h he fun d e => by rw [e]; rfl
theorem dt_view (i : Nat) {q : Addr} {ds : List PyData} {P : Bool → Prop} (h : gt ρ i = .own q ds) (he : DT C Ξ (ρ.set i (.dat (.list ds))) e P) : DT C Ξ ρ e P := fun σ H E Q qq z =>
  he σ H (E.frzL h).1 Q qq z
/-! ### d[k] = v, whether or not k is new -/
def putD (kvs : List (List Int × PyData)) (k : List Int) (d : PyData) : List (List Int × PyData) :=
  if (kvs.any fun z => decide (z.1 = k)) = true then kvs.map (fun z => if z.1 = k then (z.1, d) else z) else kvs ++ [(k, d)]
theorem put_dic {Hv : Hp} {k : List Int} {v : V} {d : PyData} (r : At Hv v d) {kvs : List (List Int × PyData)} {xs : List V} (h : AtAll Hv xs (kvs.map (·.2))) : ∃ xs', putK ((kvs.map fun z => keyOf z.1).zip xs) (keyOf k) v = (((putD kvs k d).map fun z => keyOf z.1).zip xs') ∧ AtAll Hv xs' ((putD kvs k d).map (·.2)) := by
  have hany : ∀ {kvs : List (List Int × PyData)} {xs : List V}, AtAll Hv xs (kvs.map (·.2)) → (((kvs.map fun z => keyOf z.1).zip xs).any fun kv => decide (kv.1 = keyOf k)) = kvs.any fun z => decide (z.1 = k) := by
    intro kvs
    induction kvs with
    | nil => intro xs h; cases h; rfl
    | cons z t ih =>
      intro xs h
      cases h with
      | cons q1 q2 =>
        rw [List.map_cons, List.zip_cons_cons, List.any_cons, List.any_cons, ih q2]
        congr 1
        exact decide_eq_decide.mpr ⟨keyOf_inj, fun e => by rw [e]⟩
  unfold putK putD
  rw [hany h]
  by_cases ha : (kvs.any fun z => decide (z.1 = k)) = true
  · rw [if_pos ha, if_pos ha]
    clear ha
    induction kvs generalizing xs with
    | nil => cases h; exact ⟨[], rfl, .nil⟩
    | cons z t ih =>
      cases h with
      | @cons x _ _ _ q1 q2 =>
        obtain ⟨ys, e1, e2⟩ := ih q2
        by_cases e : z.1 = k
        · refine ⟨v :: ys, ?_, ?_⟩
          · rw [List.map_cons, List.zip_cons_cons, List.map_cons, e1, List.map_cons, if_pos e, List.map_cons, List.zip_cons_cons]
            rw [if_pos (by show keyOf z.1 = keyOf k; rw [e])]
          · rw [List.map_cons, if_pos e, List.map_cons]
            exact .cons r e2
        · refine ⟨x :: ys, ?_, ?_⟩
          · rw [List.map_cons, List.zip_cons_cons, List.map_cons, e1, List.map_cons, if_neg e, List.map_cons, List.zip_cons_cons]
            rw [if_neg (by show ¬ keyOf z.1 = keyOf k; exact fun y => e (keyOf_inj y))]
          · rw [List.map_cons, if_neg e, List.map_cons]
            exact .cons q1 e2
  · rw [if_neg ha, if_neg ha]
    have hlen := h.len
    rw [List.length_map] at hlen
    refine ⟨xs ++ [v], ?_, ?_⟩
    · rw [List.map_append, List.zip_append (by rw [List.length_map]; exact hlen.symm)]
      rfl
    · rw [List.map_append]
      exact h.app (.cons r .nil)
theorem ds_dputU (i : Nat) {x : Str} {q : Addr} {kvs : List (List Int × PyData)} {k : List Int} {d : PyData} {ve : Expr} {pos' : Pos} (h : gt ρ i = .dic q kvs) (hN : C.X.N[i]? = some x) (hv : Vis C.X.env.scope x) (hve : DEd C (xi F) ρ ve d) (hk : DEd C (xi F) ρ e (tI k)) (hl : kvs.length < 16777216)
    (kk : F (.nx (ρ.set i (.dic q (putD kvs k d))))) (hd : (x == ("__debug__" : Str)) = false := by decide) (hcd : (x == ("__classdict__" : Str)) = false := by decide) (hs : swapsWith ve (some (.Subscript (.Name x px) e pos')) pos.line C.X.env = pure false := by rfl) : DS C F ρ (.Assign [.Subscript (.Name x px) e pos'] ve pos) := fun D σ H E q0 =>
  ⟨_, ps_dput (by have := C.un; omega) (pe_var hN hv hd hcd) pE pE hs, hve σ H E _ (fun d1 v1 H1 p1 g1 r1 => ⟨_, ((E.grow g1).dic_of h).1, hk σ H1 (E.grow g1) _ (fun d2 v2 H2 p2 g2 r2 => by
    subst p1; subst p2
    have E2 := (E.grow g1).grow g2
    obtain ⟨b, rfl, hb⟩ := iv_tup r2
    obtain ⟨h1, h2, h3, xs, h4, h5⟩ := E2.dic_of h
    have hlen := h5.len
    rw [List.length_map] at hlen
    have r1' := r1.up (vis_gr g2)
    obtain ⟨ys, hput, hall⟩ := put_dic (k := k) r1' h5
    obtain ⟨E3, ev⟩ := E2.mutO (o := .dT (((putD kvs k d1).map fun z => keyOf z.1).zip ys)) (sv := .dic q (putD kvs k d1)) (i := i) (by rw [h]; rfl) rfl h2 h3 (fun φ y => by rw [h4] at y; cases y) fun ev => ⟨rfl, h2, h3, ys, upd_same, by rw [ev]; exact hall⟩
    refine ⟨q, _, rfl, DPut.t h4 (hid_le _ _ hb) (by rw [List.length_zip, List.length_map, sizeLine_eq]; omega), ?_⟩
    rw [hput]
    exact q0.nx _ _ _ kk E3 (by rw [ev]; exact (vis_gr g1).trans (vis_gr g2))) (fun c H2 x g => q0.exE E c H2 x (g1.trans g))⟩) (q0.exE E)⟩
/-- x, l = a, [] -/
theorem ds_newVL (i j : Nat) {x y : Str} {d : PyData} {px py pt lp pt2 : Pos} {kt k2 : Nat} (ha : DEd C (xi F) ρ a d) (k : ∀ b, F (.nx ((ρ.set i (.dat d)).set j (.own b [])))) (hN : C.X.N.Nodup) (hi : C.X.N[i]? = some x) (hj : C.X.N[j]? = some y) (hij : i ≠ j) (hlj : j < ρ.length)
    (hx : C.X.env.scope.names.lookup x = some .local) (hy : C.X.env.scope.names.lookup y = some .local) (hw : swappedStores [.Tuple [.Name x px, .Name y py] kt pt] (.Tuple [a, .List [] lp] k2 pt2) C.X.env = pure (some [x, y]))
    (h1 : starEach [a, .List [] lp] C.X.env = (false, eval a C.X.env) :: starEach [.List [] lp] C.X.env := by rfl) (h2 : starEach [.List [] lp] C.X.env = (false, eval (.List [] lp) C.X.env) :: starEach [] C.X.env := by rfl)
    (hc : C.X.calm = true := by rfl) (hs : swapsWithSole [.Tuple [.Name x px, .Name y py] kt pt] (.Tuple [a, .List [] lp] k2 pt2) pos.line C.X.env = pure false := by rfl) : DS C F ρ (.Assign [.Tuple [.Name x px, .Name y py] kt pt] (.Tuple [a, .List [] lp] k2 pt2) pos) := fun D σ H E q =>
  ⟨_, ps_par hc hN hi hj hij hx hy (pa_cons pE (pa_cons (pe_lst pa_nil) pa_nil h2) h1) hw hs, ha σ H E _ (fun d1 v H2 pd g r => ⟨by decide, fun b hb => by
    subst pd
    obtain ⟨E1, s1⟩ := (E.grow g).put (i := i) (sv := .dat d1) (o := some v) rfl ⟨v, rfl, r⟩
    obtain ⟨E2, s2⟩ := E1.fresh (o := .lst []) (sv := .own b []) (i := j) hb rfl (by rw [List.length_set]; exact hlj) fun o1 o2 => ⟨rfl, o1, o2, [], upd_same, .nil⟩
    exact ⟨v, .ref b, rfl, q.nx _ _ _ (k b) E2 (((vis_gr g).trans s1).trans s2)⟩⟩) (q.exE E)⟩
/-- l = [] -/
theorem ds_newL (i : Nat) {x : Str} {pos' lp : Pos} (k : ∀ b, F (.nx (ρ.set i (.own b [])))) (hN : C.X.N.Nodup) (hi : C.X.N[i]? = some x) (hli : i < ρ.length) (hx : Loc C.X.env.scope x)
    (hs : swapsWith (.List [] lp) (some (.Name x pos')) pos.line C.X.env = pure false := by rfl) (hf : C.X.fn x = true ∨ C.X.env.scope.names.lookup x = some .local := by first | exact .inl rfl | exact .inr rfl) : DS C F ρ (.Assign [.Name x pos'] (.List [] lp) pos) := fun D σ H E q =>
  ⟨_, ps_set hN hi hx (pe_lst pa_nil) hs hf, by decide, fun b hb => by
    obtain ⟨E2, s2⟩ := E.fresh (o := .lst []) (sv := .own b []) (i := i) hb rfl hli fun o1 o2 => ⟨rfl, o1, o2, [], upd_same, .nil⟩
    exact q.nx _ _ _ (k b) E2 s2⟩
/-- d = {} -/
theorem ds_newD (i : Nat) {x : Str} {pos' lp : Pos} (k : ∀ b, F (.nx (ρ.set i (.dic b [])))) (hN : C.X.N.Nodup) (hi : C.X.N[i]? = some x) (hli : i < ρ.length) (hx : Loc C.X.env.scope x)
    (hs : swapsWith (.Dict [] [] lp) (some (.Name x pos')) pos.line C.X.env = pure false := by rfl) (hf : C.X.fn x = true ∨ C.X.env.scope.names.lookup x = some .local := by first | exact .inl rfl | exact .inr rfl) : DS C F ρ (.Assign [.Name x pos'] (.Dict [] [] lp) pos) := fun D σ H E q =>
  ⟨_, ps_set hN hi hx pe_dnewT hs hf, fun b hb => by
    obtain ⟨E2, s2⟩ := E.fresh (o := .dT []) (sv := .dic b []) (i := i) hb rfl hli fun o1 o2 => ⟨rfl, o1, o2, [], upd_same, .nil⟩
    exact q.nx _ _ _ (k b) E2 s2⟩
end
end DD

namespace DD
open PySem PySem.Spec PyProof.Rows L2
/-! ## a new tuple whose object is known for a while; t.count(k) -/
def NF (X : Cx) (p : Addr) : Prop := ∀ o u, X.H_0 p ≠ some (.frz o u)
def tSnoc (X : Cx) (ta : TE) (t : TA) : TE := fun σ H Q => ta σ H fun x H1 => ∃ a xs, x = .ref a ∧ t σ H1 fun ds H2 => SqT X.K H2 a xs ∧ ds ≠ [] ∧ xs.length + ds.length ≤ sizeLine ∧
  ∀ p o, H2 p = none → o.dict = none → NF X p → Q (.ref p) (upd H2 p (.frz o (.tup (xs ++ ds))))
theorem nf_new {X : Cx} {pins : List (Addr × Obj)} {σ : L2.St} {H : Hp} {s : Shared} (I : Inv X pins σ H s) {p : Addr} (h : H p = none) : NF X p := fun o u e => by
  have := I.base.frzs p o u e
  rw [h] at this
  cases this
theorem pe_snoc {X : Cx} {a : Expr} {es : List Expr} {ta : TE} {t : TA} {k : Nat} {p1 pos : Pos} (ha : PE X a ta) (hs : PA X es t) : PE X (.BinOp a .Add (.Tuple es k p1) pos) (tSnoc X ta t) := by
  refine ⟨fun pins s σ H Q I h => wpAny_BinOp ?_⟩
  refine thn (ha.run pins s σ H _ I h) fun v s1 ⟨x, H1, I1, r1, a, xs, ex, q1⟩ => ?_
  subst ex
  obtain rfl : v = Value.ref a := r1
  refine wpAny_Tuple_spliced (thn (hs.run p1 pins s1 σ H1 _ I1 q1) fun us s2 ⟨ds, H2, I2, r2, hq, hne, hz, q2⟩ => ?_)
  obtain ⟨its, ri, pl, _⟩ := I2.tuple hq
  have hl1 := ri.length
  have hl2 := r2.length
  refine ⟨by omega, ?_⟩
  have I3 : Inv X pins σ H2 { s2 with heap := s2.heap.push { cls := .type "tuple", data := .seq us.toArray } } := I2.kept (t' := s2.toks) fun b ob q => Heap.get?_push_of_some _ q
  obtain ⟨its', ri', pl', _⟩ := I3.tuple hq
  have hT : IsTup (s2.heap.push { cls := .type "tuple", data := .seq us.toArray }) s2.heap.objs.size us.toArray := IsTup.new _ _
  by_cases hx : xs = []
  · subst hx
    cases ri'
    refine cat_tup0 pl' hT ⟨.ref s2.heap.objs.size, _, I2.laid (t' := s2.toks) (o := .frz { cls := .type "tuple", data := .seq us.toArray } (.tup ds)) (fun b ob q => Heap.get?_push_of_some _ q) (Nat.le_refl _) ?_, rfl, ?_⟩
    · exact ⟨Heap.get?_push_size _ rfl, by rw [List.length_nil, Nat.zero_add] at hz; exact hz, us, r2, hT⟩
    · have hf := I2.hok.fresh (Nat.le_refl _)
      exact q2 s2.heap.objs.size { cls := .type "tuple", data := .seq us.toArray } hf rfl (nf_new I2 hf)
  · have hl3 := ri'.length
    refine HT.cat_tup pl' hT (fun z => hx (ri'.nil_iff.mp z)) (fun z => absurd (r2.nil_iff.mp z) hne) (fun _ => ?_) (by show its'.length + us.length ≤ sizeLine; omega)
    have hf := I3.hok.fresh (Nat.le_refl _)
    refine ⟨.ref _, _, I3.laid (t' := s2.toks) (o := .frz { cls := .type "tuple", data := .seq (its' ++ us).toArray } (.tup (xs ++ ds))) (fun b ob q => Heap.get?_push_of_some _ q) (Nat.le_refl _) ?_, rfl, q2 _ _ hf rfl (nf_new I3 hf)⟩
    exact ⟨Heap.get?_push_size _ rfl, by rw [List.length_append]; exact hz, _, ri'.append r2, IsTup.new _ _⟩
/-- known no more -/
theorem inv_thaw {X : Cx} {pins : List (Addr × Obj)} {σ : L2.St} {H : Hp} {s : Shared} (I : Inv X pins σ H s) {p : Addr} {o : Obj} {xs : List V} (nf : NF X p) (e : H p = some (.frz o (.tup xs))) : Inv X pins σ (upd H p (.tup xs)) s := by
  have no : ∀ b, H b = none → b ≠ p := fun b h z => by rw [z, e] at h; cases h
  refine ⟨I.ok, I.os, I.bare, ⟨I.base.keep, I.base.slot, fun b u h1 h2 h3 => ?_, I.base.there, fun b ys h => ?_, fun b u y h => ?_, fun b ps h => ?_⟩, I.loc, I.cell, ?_, fun x c h => ?_, fun q hq => ?_, fun b u h => ?_, I.len⟩
  · have := I.base.free b u h1 h2 h3
    rw [upd_ne (no b this)]; exact this
  · have := I.base.tups b ys h
    rw [upd_ne (ne_of this e fun z => by cases z)]; exact this
  · have := I.base.frzs b u y h
    rw [upd_ne fun z => nf u y (by rw [← z]; exact h)]; exact this
  · obtain ⟨more, this⟩ := I.base.tbls b ps h
    exact ⟨more, by rw [upd_ne (ne_of this e fun z => by cases z)]; exact this⟩
  · rw [upd_ne (no _ I.free)]; exact I.free
  · rw [upd_ne (no _ (I.freeC x c h))]; exact I.freeC x c h
  · obtain ⟨h1, h2, h3⟩ := I.pin q hq
    exact ⟨h1, by rw [upd_ne (no _ h2)]; exact h2, h3⟩
  · by_cases z : b = p
    · subst z
      rw [upd_same] at h
      cases h
      exact (I.hok b _ e).2
    · rw [upd_ne z] at h
      refine (I.hok b u h).stay (fun _ _ _ q => q) (fun c q => ?_) (fun c ys q => ?_)
      · rw [upd_ne (ne_of q e fun z => by cases z)]; exact q
      · rw [upd_ne (ne_of q e fun z => by cases z)]; exact q
theorem ps_thaw {X : Cx} {st : Stmt} {t : TS} (h : PS X st t) : PS X st (fun D σ H => ∃ p o xs, NF X p ∧ t { D with nx := fun σ' H' => H' p = some (.frz o (.tup xs)) ∧ D.nx σ' (upd H' p (.tup xs)) } σ H) := by
  refine ⟨fun pins s σ H D I ⟨p, o, xs, nf, hq⟩ => ?_⟩
  refine wpAny_mono (h.run pins s σ H _ I hq) (fun f s' hp => ?_) fun _ _ z => z
  cases f with
  | next => obtain ⟨σ', H', I', e, q⟩ := hp; exact ⟨σ', _, inv_thaw I' nf e, q⟩
  | brk => exact hp
  | cont => exact hp
  | ret u => exact hp
def tCnt (to : TE) (t : TA) : TE := fun σ H Q => to σ H fun x H1 => ∃ a ob ns, x = V.ref a ∧ H1 a = some (.frz ob (.tup ((ns : List Int).map V.int))) ∧ ob.dict = none ∧ t σ H1 fun vs H2 => ∃ k : Int, vs = [.int k] ∧ H2 a = some (.frz ob (.tup (ns.map V.int))) ∧ Q (.int (ns.count k : Nat)) H2
theorem pe_tcnt {X : Cx} {o e : Expr} {to : TE} {t : TA} {apos cpos : Pos} (ho : PE X o to) (ha : PA X [e] t) (hbase : attributeBase o "count" X.env (eval o X.env) = eval o X.env := by rfl)
    (hfew : ((backTo cpos (starEach [e] X.env)).all (fun x => !x.1) && (backToKw cpos (keywordEach [] X.env)).all (fun x => x.1.isSome) && decide ([e].length + ([] : List Keyword).length + (if ([] : List Keyword).isEmpty then 0 else 1) < 30)) = true := by rfl)
    (hline : (apos.endLine == cpos.line) = true := by rfl) (hs : starEach [e] X.env = (false, eval e X.env) :: starEach [] X.env := by rfl) (hpl : (backTo cpos (starEach [] X.env)).any (·.1) = false := by rfl) :
    PE X (.Call (.Attribute o "count" apos) [e] [] cpos) (tCnt to t) := by
  refine ⟨fun pins s σ H Q I h => ?_⟩
  refine wpAny_Call_method_late hbase hfew hline rfl (thn (ho.run pins s σ H _ I h) fun v s1 ⟨x, H1, I1, r1, a, ob, ns, ex, hf, hd, q1⟩ => ?_)
  subst ex
  obtain rfl : v = Value.ref a := r1
  obtain ⟨hob, _, its, rv, tp⟩ := I1.hok a _ hf
  refine ⟨"tuple", _, PySem.F.plainAttrs_tuple, PySem.F.slot_tuple_count, PySem.F.type_tuple_count, tp.typeIs, fun b eb => ?_, ?_⟩
  · cases eb
    exact ⟨ob, hob, hd⟩
  have hA := ha.run cpos pins s1 σ H1 _ I1 q1
  rw [hs] at hA ⊢
  refine Calls.callWith_builtin (by show (false || (backTo cpos (starEach [] X.env)).any (·.1)) = false; rw [hpl] <;> rfl) (Calls.evalArgs_plain (thn hA fun us s2 ⟨vs, H2, I2, r2, k, ev, hf2, q2⟩ => ?_))
  subst ev
  obtain ⟨u, rfl, ru⟩ := r2.one
  obtain ⟨tk, rfl⟩ := ru
  obtain ⟨_, _, its2, rv2, ob2, hob2, hcls, nn, hdat⟩ := I2.hok a _ hf2
  obtain ⟨cls2, dd2, data2, sl2⟩ := ob2
  simp only at hcls hdat
  subst hcls hdat
  have hi := ints_of_vals rv2
  have ec : its2.toArray.toList.countP (eqk k) = ns.count k := by rw [List.toList_toArray]; exact eqk_count hi
  refine call_meets PySem.F.slot_tuple_count ⟨_, hob2, rfl⟩ PySem.F.entry_tuple_count (PySem.F.args_tuple_count_2 _ _) (SeqAt.tuple_countAt a its2.toArray nn dd2 sl2 (.int k tk) (eqk k)) ⟨hob2, fun y hy => (eqk_gives hi y (by simpa using hy)).at _ _, ?_⟩
  rw [ec]
  exact ⟨.int (ns.count k : Nat), H2, I2.tok _, ⟨_, rfl⟩, q2⟩
end DD

namespace DD
open PySem L2
theorem Env.dat_of {C : Ct} {ρ : Rho} {σ : L2.St} {H : Hp} {i : Nat} {d : PyData} (E : Env C ρ σ H) (h : gt ρ i = .dat d) : ∃ v, σ[i]? = some (some v) ∧ At (vis C ρ H) v d := by
  have s := E.slot i
  rw [h] at s
  obtain ⟨v, e, r⟩ := s
  refine ⟨v, ?_, r⟩
  rw [List.getD_eq_getElem?_getD] at e
  cases q : σ[i]? with
  | none => rw [q] at e; cases e
  | some o => rw [q] at e; exact congrArg some e
/-- more = row + (digit,); longer.append((more, many * size // more.count(digit))) -/
theorem dss_more {C : Ct} {F : Out → Prop} {ρ : Rho} (io ir id im is il : Nat) {xo xr xd xm xs xl : Str} {ns : List Int} {d m s : Int} {q : Addr} {ds : List PyData} {po pr pd pt pb ps pl pa p1 p2 p3 p4 p5 p6 p7 p8 p9 p10 p11 p12 : Pos} {kt k2 : Nat}
    (hr : gt ρ ir = .dat (tI ns)) (hd : gt ρ id = .dat (.int d)) (hm : gt ρ im = .dat (.int m)) (hs : gt ρ is = .dat (.int s)) (hl : gt ρ il = .own q ds) (nd : io ≠ id ∧ io ≠ im ∧ io ≠ is ∧ io ≠ il) (hlo : io < ρ.length)
    (hN : C.X.N.Nodup) (ho : C.X.N[io]? = some xo) (hrN : C.X.N[ir]? = some xr) (hdN : C.X.N[id]? = some xd) (hmN : C.X.N[im]? = some xm) (hsN : C.X.N[is]? = some xs) (hlN : C.X.N[il]? = some xl)
    (vo : C.X.env.scope.names.lookup xo = some .local) (vr : Vis C.X.env.scope xr) (vd : Vis C.X.env.scope xd) (vm : Vis C.X.env.scope xm) (vs : Vis C.X.env.scope xs) (vl : Vis C.X.env.scope xl)
    (hc : CMul m s) (hln : ns.length ≤ 100) (hlen : ds.length < 16777216)
    (kk : F (.nx ((ρ.set io (.dat (tI (ns ++ [d])))).set il (.own q (ds ++ [.tuple [tI (ns ++ [d]), .int (m * s / ((ns ++ [d]).count d : Nat))]])))))
    (w1 : (xo == ("__debug__" : Str)) = false ∧ (xr == ("__debug__" : Str)) = false ∧ (xd == ("__debug__" : Str)) = false ∧ (xm == ("__debug__" : Str)) = false ∧ (xs == ("__debug__" : Str)) = false ∧ (xl == ("__debug__" : Str)) = false := by decide)
    (w2 : (xo == ("__classdict__" : Str)) = false ∧ (xr == ("__classdict__" : Str)) = false ∧ (xd == ("__classdict__" : Str)) = false ∧ (xm == ("__classdict__" : Str)) = false ∧ (xs == ("__classdict__" : Str)) = false ∧ (xl == ("__classdict__" : Str)) = false := by decide)
    (hsw : swapsWith (.BinOp (.Name xr pr) .Add (.Tuple [.Name xd pd] kt pt) pb) (some (.Name xo po)) ps.line C.X.env = pure false := by rfl)
    (hbase : attributeBase (.Name xl pl) "append" C.X.env (eval (.Name xl pl) C.X.env) = eval (.Name xl pl) C.X.env := by rfl)
    (hbase2 : attributeBase (.Name xo p5) "count" C.X.env (eval (.Name xo p5) C.X.env) = eval (.Name xo p5) C.X.env := by rfl)
    (hfew : ((backTo p11 (starEach [.Tuple [.Name xo p1, .BinOp (.BinOp (.Name xm p2) .Mult (.Name xs p3) p4) .FloorDiv (.Call (.Attribute (.Name xo p5) "count" p6) [.Name xd p7] [] p8) p9] k2 p10] C.X.env)).all (fun x => !x.1) && (backToKw p11 (keywordEach [] C.X.env)).all (fun x => x.1.isSome) && decide ([Expr.Tuple [.Name xo p1, .BinOp (.BinOp (.Name xm p2) .Mult (.Name xs p3) p4) .FloorDiv (.Call (.Attribute (.Name xo p5) "count" p6) [.Name xd p7] [] p8) p9] k2 p10].length + ([] : List Keyword).length + (if ([] : List Keyword).isEmpty then 0 else 1) < 30)) = true := by rfl)
    (hline : (pa.endLine == p11.line) = true := by rfl) (hline2 : (p6.endLine == p8.line) = true := by rfl)
    (hsE : swapsWith (.Call (.Attribute (.Name xl pl) "append" pa) [.Tuple [.Name xo p1, .BinOp (.BinOp (.Name xm p2) .Mult (.Name xs p3) p4) .FloorDiv (.Call (.Attribute (.Name xo p5) "count" p6) [.Name xd p7] [] p8) p9] k2 p10] [] p11) none p12.line C.X.env = pure false := by rfl) :
    DSs C F ρ [.Assign [.Name xo po] (.BinOp (.Name xr pr) .Add (.Tuple [.Name xd pd] kt pt) pb) ps, .Expr (.Call (.Attribute (.Name xl pl) "append" pa) [.Tuple [.Name xo p1, .BinOp (.BinOp (.Name xm p2) .Mult (.Name xs p3) p4) .FloorDiv (.Call (.Attribute (.Name xo p5) "count" p6) [.Name xd p7] [] p8) p9] k2 p10] [] p11) p12] := fun D σ H E K => by
  refine ⟨_, pss_cons (ps_set hN ho (.inl vo) (pe_snoc (pe_var hrN vr w1.2.1 w2.2.1) (pa_cons (pe_var hdN vd w1.2.2.1 w2.2.2.1) pa_nil)) hsw (.inr vo))
    (pss_one (ps_thaw (ps_expr (pe_bm PySem.F.plainAttrs_list PySem.F.slot_list_append PySem.F.type_list_append mt_append (pe_var hlN vl w1.2.2.2.2.2 w2.2.2.2.2.2) (pa_cons (pe_tup (pa_cons (pe_var ho (.inl vo) w1.1 w2.1) (pa_cons (pe_op op_fdivW (pe_op op_mul (pe_var hmN vm w1.2.2.2.1 w2.2.2.2.1) (pe_var hsN vs w1.2.2.2.2.1 w2.2.2.2.2.1)) (pe_tcnt (pe_var ho (.inl vo) w1.1 w2.1) (pa_cons (pe_var hdN vd w1.2.2.1 w2.2.2.1) pa_nil) hbase2 rfl hline2)) pa_nil))) pa_nil) hbase hfew hline) hsE))), ?_⟩
  obtain ⟨v1, g1, r1⟩ := E.dat_of hr
  obtain ⟨v2, g2, r2⟩ := E.dat_of hd
  obtain ⟨v3, g3, r3⟩ := E.dat_of hm
  obtain ⟨v4, g4, r4⟩ := E.dat_of hs
  obtain ⟨g5, o1, o2, ys, h5, h6⟩ := E.own_of hl
  obtain rfl := r2.int_inv
  obtain rfl := r3.int_inv
  obtain rfl := r4.int_inv
  obtain ⟨a, xs', rfl, ha, hb⟩ := r1.ref_tup
  obtain rfl := hb.ints
  refine ⟨_, g1, a, _, rfl, _, g2, SqT.of (hid_le _ _ ha), by simp, by rw [sizeLine_eq, List.length_map]; show ns.length + 1 ≤ _; omega, fun p ob hp hob nf => ?_⟩
  have e1 : (ns.map V.int) ++ [V.int d] = (ns ++ [d]).map V.int := by rw [List.map_append]; rfl
  have gs : ∀ {j : Nat} {o : Option V}, io ≠ j → σ[j]? = some o → (σ.set io (some (.ref p)))[j]? = some o := fun hj e => by rw [List.getElem?_set_ne hj]; exact e
  have go : (σ.set io (some (.ref p)))[io]? = some (some (.ref p)) := by rw [List.getElem?_set_self (by rw [E.len]; exact hlo)]
  have hpq : q ≠ p := ne_of_none h5 hp
  have cpos : 0 < (ns ++ [d]).count d := List.count_pos_iff.mpr (by simp)
  have cle : (ns ++ [d]).count d ≤ 101 := by have := List.count_le_length (a := d) (l := ns ++ [d]); rw [List.length_append] at this; show _ ≤ 101; have e : [d].length = 1 := rfl; omega
  rw [e1]
  refine ⟨p, ob, (ns ++ [d]).map V.int, nf, ?_⟩
  refine ⟨_, gs nd.2.2.2 g5, .inl ⟨rfl, ys, SqL.of (by rw [upd_ne hpq]; exact h5)⟩, ?_⟩
  refine ⟨.ref p, go, ?_⟩
  refine ⟨_, gs nd.2.1 g3, _, gs nd.2.2.1 g4, m, s, rfl, rfl, hc, ?_⟩
  refine ⟨.ref p, go, p, ob, ns ++ [d], rfl, upd_same, hob, ?_⟩
  refine ⟨_, gs nd.1 g2, d, rfl, upd_same, ?_⟩
  refine ⟨m * s, ((ns ++ [d]).count d : Nat), rfl, rfl, ⟨by omega, ?_⟩, ?_⟩
  · have : (((ns ++ [d]).count d : Nat) : Int).natAbs.log2 ≤ (ns ++ [d]).count d := by
      rw [Int.natAbs_natCast]
      exact Nat.le_of_lt (Nat.lt_of_lt_of_le Nat.lt_two_pow_self (Nat.log2_self_le (by omega)))
    omega
  refine ⟨by rw [sizeLine_eq]; show 2 ≤ _; omega, fun t ht => ?_⟩
  have hpt : p ≠ t := fun z => by rw [← z, upd_same] at ht; cases ht
  have htn : H t = none := by rw [upd_ne (Ne.symm hpt)] at ht; exact ht
  have hqt : q ≠ t := ne_of_none h5 htn
  refine ⟨q, ys, .ref t, rfl, rfl, by rw [upd_ne hqt, upd_ne hpq]; exact h5, by rw [sizeLine_eq, h6.len]; exact hlen, ?_, ?_⟩
  · rw [upd_ne (Ne.symm hpq), upd_ne hpt, upd_same]
  -- the heap at the end
  have eH : upd (upd (upd (upd H p (.frz ob (.tup ((ns ++ [d]).map V.int)))) t (.tup [.ref p, .int (m * s / ((ns ++ [d]).count d : Nat))])) q (.lst (ys ++ [.ref t]))) p (.tup ((ns ++ [d]).map V.int)) =
      upd (upd (upd H p (.tup ((ns ++ [d]).map V.int))) t (.tup [.ref p, .int (m * s / ((ns ++ [d]).count d : Nat))])) q (.lst (ys ++ [.ref t])) := by
    funext x
    by_cases x1 : x = p
    · subst x1
      rw [upd_same, upd_ne (Ne.symm hpq), upd_ne hpt, upd_same]
    · rw [upd_ne x1]
      by_cases x2 : x = q
      · subst x2; rw [upd_same, upd_same]
      · rw [upd_ne x2, upd_ne x2]
        by_cases x3 : x = t
        · subst x3; rw [upd_same, upd_same]
        · rw [upd_ne x3, upd_ne x3, upd_ne x1, upd_ne x1]
  rw [eH]
  have gp : Gr C.U H (upd H p (.tup ((ns ++ [d]).map V.int))) := Gr.of (same_new hp)
  have E1 := E.grow gp
  have rp : At (vis C ρ (upd H p (.tup ((ns ++ [d]).map V.int)))) (.ref p) (tI (ns ++ [d])) := .tup (E.newV hp) (atAll_ints _)
  obtain ⟨E2, s2⟩ := E1.put (i := io) (sv := .dat (tI (ns ++ [d]))) (o := some (.ref p)) rfl ⟨_, rfl, rp⟩
  have htn2 : upd H p (.tup ((ns ++ [d]).map V.int)) t = none := by rw [upd_ne (Ne.symm hpt)]; exact htn
  have gt2 : Gr C.U (upd H p (.tup ((ns ++ [d]).map V.int))) (upd (upd H p (.tup ((ns ++ [d]).map V.int))) t (.tup [.ref p, .int (m * s / ((ns ++ [d]).count d : Nat))])) := Gr.of (same_new htn2)
  have E3 := E2.grow gt2
  have hl2 : gt (ρ.set io (.dat (tI (ns ++ [d])))) il = .own q ds := by rw [gt_set, if_neg (fun z => nd.2.2.2 z.1)]; exact hl
  obtain ⟨_, _, _, zs, h7, h8⟩ := E3.own_of hl2
  have ez : zs = ys := by
    rw [upd_ne hqt, upd_ne hpq, h5] at h7
    injection h7 with h7
    injection h7 with h7
    exact h7.symm
  subst ez
  have rt : At (vis C (ρ.set io (.dat (tI (ns ++ [d])))) (upd (upd H p (.tup ((ns ++ [d]).map V.int))) t (.tup [.ref p, .int (m * s / ((ns ++ [d]).count d : Nat))]))) (.ref t) (.tuple [tI (ns ++ [d]), .int (m * s / ((ns ++ [d]).count d : Nat))]) :=
    .tup (E2.newV htn2) (.cons ((rp.up s2).up (vis_gr gt2)) (.cons (.int _) .nil))
  obtain ⟨E4, ev⟩ := E3.mutO (o := .lst (zs ++ [.ref t])) (sv := .own q (ds ++ [.tuple [tI (ns ++ [d]), .int (m * s / ((ns ++ [d]).count d : Nat))]])) (i := il) (by rw [hl2]; rfl) rfl o1 o2 (fun φ y => by rw [h7] at y; cases y) fun ev => ⟨rfl, o1, o2, zs ++ [.ref t], upd_same, by rw [ev]; exact h8.app (.cons rt .nil)⟩
  exact K.nx _ _ _ kk E4 (by rw [ev]; exact (((vis_gr gp).trans s2).trans (vis_gr gt2)))
end DD

namespace DD
open PySem L2
/-! ## all falling rows of a length -/
def topI (b : Int) (row : List Int) : Int := if row = [] then b else row.getD (row.length - 1) 0 + 1
def extF (b : Int) (k : Nat) (z : List Int × Int) : List (List Int × Int) := (List.range (topI b z.1).toNat).map fun (d : Nat) => (z.1 ++ [(d : Int)], z.2 * ((k : Int) + 1) / (((z.1 ++ [(d : Int)]).count (d : Int) : Nat) : Int))
def falN (b : Int) : Nat → List (List Int × Int)
  | 0 => [([], 1)]
  | k + 1 => (falN b k).flatMap (extF b k)
def pairD (z : List Int × Int) : PyData := .tuple [tI z.1, .int z.2]
def falD (b : Int) (k : Nat) : List PyData := (falN b k).map pairD
def fstD : PyData → PyData
  | .tuple (x :: _) => x
  | _ => .none
def sndD : PyData → PyData
  | .tuple (_ :: x :: _) => x
  | _ => .none
theorem falD_len (b : Int) (k : Nat) : (falD b k).length = (falN b k).length := List.length_map ..
structure FalR (b : Int) (k : Nat) (r : List Int) : Prop where
  len : r.length = k
  dg : Dg b r
  dn : r.Pairwise fun x y => y ≤ x
theorem FalR.row {b : Int} {k : Nat} {r : List Int} (h : FalR b k r) (h1 : 1 ≤ k) (h8 : k ≤ 8) : Row b r := ⟨by rw [h.len]; exact ⟨h1, h8⟩, h.dg⟩
theorem last_getD {r : List Int} (h : r ≠ []) : r.getD (r.length - 1) 0 = r.getLast h := by
  rw [List.getD_eq_getElem?_getD, List.getElem?_eq_getElem (by have := List.length_pos_iff.mpr h; omega), List.getLast_eq_getElem]
  rfl
theorem top_le {b : Int} {k : Nat} {r : List Int} (h : FalR b k r) : topI b r ≤ b := by
  unfold topI
  split
  · exact Int.le_refl _
  · rename_i hne
    have := h.dg _ (getD_mem (s := r) (i := r.length - 1) (by have := List.length_pos_iff.mpr hne; omega))
    omega
theorem top_ge {b : Int} {k : Nat} {r : List Int} (hb : 0 ≤ b) (h : FalR b k r) : 0 ≤ topI b r := by
  unfold topI
  split
  · exact hb
  · rename_i hne
    have := h.dg _ (getD_mem (s := r) (i := r.length - 1) (by have := List.length_pos_iff.mpr hne; omega))
    omega
theorem ext_ok {b : Int} {k : Nat} {z w : List Int × Int} (hz : FalR b k z.1) (h : w ∈ extF b k z) : FalR b (k + 1) w.1 := by
  unfold extF at h
  obtain ⟨d, hd, rfl⟩ := List.mem_map.mp h
  have hd := List.mem_range.mp hd
  have ht := top_le hz
  refine ⟨by rw [List.length_append, hz.len]; rfl, hz.dg.app fun n hn => by rw [List.mem_singleton.mp hn]; omega, ?_⟩
  rw [List.pairwise_append]
  refine ⟨hz.dn, List.pairwise_singleton _ _, fun x hx y hy => ?_⟩
  rw [List.mem_singleton.mp hy]
  have hne : z.1 ≠ [] := List.ne_nil_of_mem hx
  unfold topI at hd
  rw [if_neg hne] at hd
  obtain ⟨i, hi, e⟩ := List.mem_iff_getElem.mp hx
  have hl : z.1.getD (z.1.length - 1) 0 ≤ x := by
    rw [List.getD_eq_getElem?_getD, List.getElem?_eq_getElem (by omega), ← e]
    show z.1[z.1.length - 1] ≤ z.1[i]
    rcases Nat.lt_or_ge i (z.1.length - 1) with q | q
    · exact List.pairwise_iff_getElem.mp hz.dn i (z.1.length - 1) hi (by omega) q
    · have : i = z.1.length - 1 := by omega
      subst this
      exact Int.le_refl _
  omega
theorem fal_ok {b : Int} : ∀ {k : Nat} {z : List Int × Int}, z ∈ falN b k → FalR b k z.1
  | 0, z, h => by
    rw [List.mem_singleton.mp h]
    exact ⟨rfl, (fun _ h => nomatch h : Dg b []), List.Pairwise.nil⟩
  | k + 1, z, h => by
    obtain ⟨y, hy, hz⟩ := List.mem_flatMap.mp h
    exact ext_ok (fal_ok hy) hz
theorem ext_len (b : Int) (k : Nat) (z : List Int × Int) : (extF b k z).length = (topI b z.1).toNat := by unfold extF; rw [List.length_map, List.length_range]
theorem fm_len_le {α β : Type} (f : α → List β) (n : Nat) : ∀ l : List α, (∀ x ∈ l, (f x).length ≤ n) → (l.flatMap f).length ≤ l.length * n
  | [], _ => by simp
  | x :: l, h => by
    rw [List.flatMap_cons, List.length_append, List.length_cons, Nat.succ_mul]
    have h1 := h x List.mem_cons_self
    have h2 := fm_len_le f n l fun y hy => h y (List.mem_cons_of_mem _ hy)
    omega
theorem fal_len {b : Int} (hb : 0 ≤ b) : ∀ k : Nat, ((falN b k).length : Int) ≤ b ^ k
  | 0 => by simp [falN]
  | k + 1 => by
    have h := fm_len_le (extF b k) b.toNat (falN b k) fun z hz => by rw [ext_len]; have := top_le (fal_ok hz); omega
    have ih := fal_len hb k
    show (((falN b k).flatMap (extF b k)).length : Int) ≤ _
    have h2 : (((falN b k).flatMap (extF b k)).length : Int) ≤ ((falN b k).length : Int) * (b.toNat : Int) := by
      rw [← Int.natCast_mul]; exact Int.ofNat_le.mpr h
    rw [Int.toNat_of_nonneg hb] at h2
    rw [Int.pow_succ]
    exact Int.le_trans h2 (Int.mul_le_mul_of_nonneg_right ih hb)
theorem pow_mono {b : Int} (hb : 1 ≤ b) {j k : Nat} (h : j ≤ k) : b ^ j ≤ b ^ k := by
  obtain ⟨m, rfl⟩ := Nat.le.dest h
  clear h
  induction m with
  | zero => exact Int.le_refl _
  | succ m ih =>
    rw [← Nat.add_assoc, Int.pow_succ]
    have h0 : 0 ≤ b ^ (j + m) := Int.pow_nonneg (by omega)
    have := Int.mul_le_mul_of_nonneg_left hb h0
    omega
theorem flat_take_succ {α β : Type} (f : α → List β) {l : List α} {i : Nat} {x : α} (h : l[i]? = some x) : (l.take (i + 1)).flatMap f = (l.take i).flatMap f ++ f x := by
  rw [List.take_succ, h, List.flatMap_append]
  simp
theorem flat_take_le {α β : Type} (f : α → List β) (l : List α) (i : Nat) : ((l.take i).flatMap f).length ≤ (l.flatMap f).length := by
  conv => rhs; rw [← List.take_append_drop i l, List.flatMap_append, List.length_append]
  omega
theorem atI_last {r : List Int} (h : r ≠ []) : atI (iv r) (-1) = some (.int (r.getD (r.length - 1) 0)) := by
  have hp := List.length_pos_iff.mpr h
  have := atI_neg (l := iv r) (k := 0) (d := .int (r.getD (r.length - 1) 0)) (by rw [iv_len]; omega) (by rw [iv_len, Nat.sub_zero]; exact iv_getD (by omega))
  rw [show (-1 : Int) - ((0 : Nat) : Int) = -1 by omega] at this
  exact this
end DD

namespace DD
open PySem L2
/-! ## all rounds -/
theorem orb_succ (b : Int) (r : List Int) (t : Nat) : orb b r (t + 1) = orb b (stepI b r) t := by
  have := orb_add b r 1 t
  rw [Nat.add_comm 1 t] at this
  exact this.symm
/-- a row that comes again -/
def InR (b : Int) (r : List Int) : Prop := ∃ t, 0 < t ∧ orb b r t = r
theorem InR.mul {b : Int} {r : List Int} {t : Nat} (h : orb b r t = r) : ∀ k, orb b r (k * t) = r
  | 0 => by rw [Nat.zero_mul]; rfl
  | k + 1 => by rw [Nat.succ_mul, ← orb_add, InR.mul h k, h]
theorem InR.zero {b : Int} {r : List Int} {n j : Nat} (c : Course b r n j) (h : InR b r) : j = 0 := by
  rcases Nat.eq_zero_or_pos j with e | hp
  · exact e
  · exfalso
    obtain ⟨t, ht, e⟩ := h
    have h1 := InR.mul e (j * 1)
    rw [Nat.mul_one] at h1
    have hle : j ≤ j * t := Nat.le_mul_of_pos_right j ht
    obtain ⟨i, h2, h3, h4⟩ := c.back (j * t) hle
    rw [h1] at h4
    exact c.far 0 i (by omega) h3 h4.symm
theorem crs_in {b : Int} {r : List Int} (hb : Base b) (hr : Row b r) (h : InR b r) : (crs b r).2 = 0 := h.zero (crs_ok hb hr)
theorem Course.inR {b : Int} {r : List Int} {n j : Nat} (c : Course b r n j) {i : Nat} (h1 : j ≤ i) : InR b (orb b r i) := by
  have hl := c.lt
  refine ⟨n - j, by omega, ?_⟩
  have := c.pers h1 1
  rw [Nat.one_mul] at this
  rw [orb_add, this]
theorem crs_zero {b : Int} {r : List Int} (hb : Base b) (hr : Row b r) : (crs b r).2 = 0 ↔ InR b r :=
  ⟨fun h => (crs_ok hb hr).inR (i := 0) (by omega), crs_in hb hr⟩
theorem crs_step {b : Int} {r : List Int} (hb : Base b) (hr : Row b r) (h : ¬ InR b r) : (crs b r).2 = (crs b (stepI b r)).2 + 1 := by
  have c := crs_ok hb hr
  have hl := c.lt
  have hj : (crs b r).2 ≠ 0 := fun e => h ((crs_zero hb hr).mp e)
  have hs : Row b (stepI b r) := hr.step (by have := hb.1; omega)
  have c2 : Course b (stepI b r) ((crs b r).1 - 1) ((crs b r).2 - 1) := by
    refine ⟨fun i j hij hjn => ?_, by omega, ?_⟩
    · rw [← orb_succ, ← orb_succ]
      exact c.far (i + 1) (j + 1) (by omega) (by omega)
    · rw [← orb_succ, ← orb_succ, show (crs b r).1 - 1 + 1 = (crs b r).1 by omega, show (crs b r).2 - 1 + 1 = (crs b r).2 by omega]
      exact c.eq
  have := (crs_uniq hb hs c2).2
  omega
/-- m comes again after L steps, not before -/
structure Cyc (b : Int) (m : List Int) (L : Nat) : Prop where
  pos : 0 < L
  per : orb b m L = m
  low : ∀ t, 0 < t → t < L → orb b m t ≠ m
theorem Course.cyc {b : Int} {r : List Int} {n j : Nat} (c : Course b r n j) : Cyc b (orb b r j) (n - j) := by
  have hl := c.lt
  refine ⟨by omega, ?_, fun t h1 h2 e => ?_⟩
  · rw [orb_add, show j + (n - j) = n by omega]; exact c.eq
  · rw [orb_add] at e
    exact c.far j (j + t) (by omega) (by omega) e.symm
theorem Cyc.muls {b : Int} {m : List Int} {L : Nat} (c : Cyc b m L) : ∀ k, orb b m (k * L) = m := InR.mul c.per
def cirD (b : Int) (c : List Int × Nat) : PyData := .list (circR b c.1 c.2)
def kvD (kv : List (List Int × Nat × Nat)) : List (List Int × PyData) := kv.map fun z => (z.1, .tuple [.int (z.2.1 : Int), .int (z.2.2 : Int)])
theorem kvD_app (a b : List (List Int × Nat × Nat)) : kvD (a ++ b) = kvD a ++ kvD b := List.map_append
theorem kvD_len (a : List (List Int × Nat × Nat)) : (kvD a).length = a.length := List.length_map ..
def keysK (kv : List (List Int × Nat × Nat)) : List (List Int) := kv.map (·.1)
theorem kv_none {kv : List (List Int × Nat × Nat)} {k : List Int} (h : k ∉ keysK kv) : ((kvD kv).find? fun z => decide (z.1 = k)) = none := by
  rw [List.find?_eq_none]
  intro z hz e
  obtain ⟨y, hy, rfl⟩ := List.mem_map.mp hz
  exact h (List.mem_map.mpr ⟨y, hy, of_decide_eq_true e⟩)
theorem kv_some {kv : List (List Int × Nat × Nat)} {k : List Int} (h : k ∈ keysK kv) : ∃ y ∈ kv, y.1 = k ∧ ((kvD kv).find? fun z => decide (z.1 = k)) = some (y.1, .tuple [.int (y.2.1 : Int), .int (y.2.2 : Int)]) := by
  cases e : (kvD kv).find? fun z => decide (z.1 = k) with
  | none =>
    exfalso
    obtain ⟨y, hy, ek⟩ := List.mem_map.mp h
    have := List.find?_eq_none.mp e _ (List.mem_map.mpr ⟨y, hy, rfl⟩)
    simp [ek] at this
  | some z =>
    have h1 := List.mem_of_find?_eq_some e
    have h2 : decide (z.1 = k) = true := List.find?_some (p := fun z : List Int × PyData => decide (z.1 = k)) e
    obtain ⟨y, hy, rfl⟩ := List.mem_map.mp h1
    exact ⟨y, hy, of_decide_eq_true h2, rfl⟩
theorem kv_dec (kv : List (List Int × Nat × Nat)) (k : List Int) : ((kvD kv).find? fun z => decide (z.1 = k)).isSome = decide (k ∈ keysK kv) := by
  by_cases h : k ∈ keysK kv
  · obtain ⟨y, _, _, e⟩ := kv_some h
    rw [e, decide_eq_true h]; rfl
  · rw [kv_none h, decide_eq_false h]; rfl
/-- what is known about the rounds so far -/
structure KOk (b : Int) (n : Nat) (cs : List (List Int × Nat)) (kv : List (List Int × Nat × Nat)) : Prop where
  row : ∀ z ∈ kv, Row b z.1 ∧ z.1.length = n
  val : ∀ z ∈ kv, ∃ c, cs[z.2.1]? = some c ∧ z.2.2 = (crs b z.1).2 ∧ ∃ t, orb b z.1 z.2.2 = orb b c.1 t
  stp : ∀ z ∈ kv, stepI b z.1 ∈ keysK kv
  cyc : ∀ c ∈ cs, Row b c.1 ∧ c.1.length = n ∧ Cyc b c.1 c.2 ∧ c.1 ∈ keysK kv
  dis : ∀ (i j : Nat) (ci cj : List Int × Nat), cs[i]? = some ci → cs[j]? = some cj → (∃ t, orb b ci.1 t = cj.1) → i = j
  nd : (keysK kv).Nodup
  cl : cs.length ≤ kv.length
theorem KOk.nil (b : Int) (n : Nat) : KOk b n [] [] where
  row := fun z h => nomatch h
  val := fun z h => nomatch h
  stp := fun z h => nomatch h
  cyc := fun c h => nomatch h
  dis := fun i j ci cj h => by rw [List.getElem?_nil] at h; cases h
  nd := List.Pairwise.nil
  cl := Nat.le_refl _
theorem KOk.closed {b : Int} {n : Nat} {cs : List (List Int × Nat)} {kv : List (List Int × Nat × Nat)} (k : KOk b n cs kv) {r : List Int} (h : r ∈ keysK kv) : ∀ t, orb b r t ∈ keysK kv
  | 0 => h
  | t + 1 => by
    obtain ⟨y, hy, e⟩ := List.mem_map.mp (k.closed h t)
    have := k.stp y hy
    rw [e] at this
    exact this
theorem KOk.bound {b : Int} {n : Nat} {cs : List (List Int × Nat)} {kv : List (List Int × Nat × Nat)} (hb : Base b) (hp : b ^ n ≤ 10000) (k : KOk b n cs kv) : kv.length ≤ 10000 := by
  have b1 : 1 ≤ b := by have := hb.1; omega
  have key : ∀ r ∈ keysK kv, Row b r ∧ r.length = n := fun r h => by
    obtain ⟨y, hy, rfl⟩ := List.mem_map.mp h
    exact k.row y hy
  have nd : ((keysK kv).map fun r => (numI b r).toNat).Nodup := by
    unfold List.Nodup
    rw [List.pairwise_map]
    refine List.Pairwise.imp_of_mem (fun {x y} hx hy hxy e => hxy ?_) k.nd
    obtain ⟨h1, h2⟩ := key x hx
    obtain ⟨h3, h4⟩ := key y hy
    have n1 := numI_bd b1 h1.2
    have n2 := numI_bd b1 h3.2
    exact num_inj h1.2 h3.2 (by omega) (by omega)
  have := pigeon 10000 _ nd fun x hx => by
    obtain ⟨r, hr, rfl⟩ := List.mem_map.mp hx
    obtain ⟨h1, h2⟩ := key r hr
    have n1 := numI_bd b1 h1.2
    rw [h2] at n1
    omega
  unfold keysK at this
  rw [List.length_map, List.length_map] at this
  exact this
/-- a row whose step is known -/
theorem KOk.add {b : Int} {n : Nat} {cs : List (List Int × Nat)} {kv : List (List Int × Nat × Nat)} (hb : Base b) (k : KOk b n cs kv) {r : List Int} (hr : Row b r) (hl : r.length = n) (h1 : r ∉ keysK kv) {y : List Int × Nat × Nat} (hy : y ∈ kv) (e : y.1 = stepI b r) :
    KOk b n cs (kv ++ [(r, y.2.1, y.2.2 + 1)]) := by
  have hk : stepI b r ∈ keysK kv := List.mem_map.mpr ⟨y, hy, e⟩
  have hn : ¬ InR b r := fun ⟨t, ht, h⟩ => by
    obtain ⟨s, rfl⟩ : ∃ s, t = s + 1 := ⟨t - 1, by omega⟩
    rw [orb_succ] at h
    exact h1 (h ▸ k.closed hk s)
  have hst := crs_step hb hr hn
  obtain ⟨c, v1, v2, t, v3⟩ := k.val y hy
  rw [e] at v2 v3
  have kk : keysK (kv ++ [(r, y.2.1, y.2.2 + 1)]) = keysK kv ++ [r] := List.map_append
  have sub : ∀ x, x ∈ keysK kv → x ∈ keysK (kv ++ [(r, y.2.1, y.2.2 + 1)]) := fun x hx => by rw [kk]; exact List.mem_append_left _ hx
  refine ⟨fun z hz => ?_, fun z hz => ?_, fun z hz => ?_, fun c hc => ?_, k.dis, ?_, ?_⟩
  · rcases List.mem_append.mp hz with h | h
    · exact k.row z h
    · rw [List.mem_singleton.mp h]; exact ⟨hr, hl⟩
  · rcases List.mem_append.mp hz with h | h
    · exact k.val z h
    · rw [List.mem_singleton.mp h]
      exact ⟨c, v1, by show y.2.2 + 1 = (crs b r).2; omega, t, by show orb b r (y.2.2 + 1) = _; rw [orb_succ]; exact v3⟩
  · rcases List.mem_append.mp hz with h | h
    · exact sub _ (k.stp z h)
    · rw [List.mem_singleton.mp h]; exact sub _ hk
  · obtain ⟨a1, a2, a3, a4⟩ := k.cyc c hc
    exact ⟨a1, a2, a3, sub _ a4⟩
  · rw [kk, List.nodup_append]
    refine ⟨k.nd, by simp, fun x hx z hz => ?_⟩
    rw [List.mem_singleton.mp hz]
    exact fun q => h1 (q ▸ hx)
  · rw [List.length_append]; exact Nat.le_trans k.cl (Nat.le_add_right _ _)
/-- a new round -/
def newK (b : Int) (r : List Int) (num j k : Nat) : List (List Int × Nat × Nat) := (List.range (k - j)).map fun i => (orb b r (j + i), num, 0)
theorem newK_keys (b : Int) (r : List Int) (num j k : Nat) : keysK (newK b r num j k) = (List.range (k - j)).map fun i => orb b r (j + i) := by unfold keysK newK; rw [List.map_map]; rfl
theorem KOk.round {b : Int} {n : Nat} {cs : List (List Int × Nat)} {kv : List (List Int × Nat × Nat)} (hb : Base b) (kk : KOk b n cs kv) {r : List Int} (hr : Row b r) (hl : r.length = n) {k j : Nat} (c : Course b r k j) (hno : ∀ i, i < k → orb b r i ∉ keysK kv) :
    KOk b n (cs ++ [(orb b r j, k - j)]) (kv ++ newK b r cs.length j k) := by
  have b1 : 1 ≤ b := by have := hb.1; omega
  have hlt := c.lt
  have ek : keysK (kv ++ newK b r cs.length j k) = keysK kv ++ (List.range (k - j)).map fun i => orb b r (j + i) := by rw [← newK_keys b r cs.length]; exact List.map_append
  have inN : ∀ i, j ≤ i → orb b r i ∈ keysK (kv ++ newK b r cs.length j k) := fun i hi => by
    obtain ⟨i', h1, h2, h3⟩ := c.back i hi
    rw [ek, ← h3]
    exact List.mem_append_right _ (List.mem_map.mpr ⟨i' - j, List.mem_range.mpr (by omega), by rw [show j + (i' - j) = i' by omega]⟩)
  have sub : ∀ x, x ∈ keysK kv → x ∈ keysK (kv ++ newK b r cs.length j k) := fun x hx => by rw [ek]; exact List.mem_append_left _ hx
  have new : ∀ z, z ∈ newK b r cs.length j k → ∃ i, i < k - j ∧ z = (orb b r (j + i), cs.length, 0) := fun z hz => by
    obtain ⟨i, hi, e⟩ := List.mem_map.mp hz
    exact ⟨i, List.mem_range.mp hi, e.symm⟩
  refine ⟨fun z hz => ?_, fun z hz => ?_, fun z hz => ?_, fun c' hc => ?_, fun i i' ci cj h1 h2 ⟨t, h3⟩ => ?_, ?_, ?_⟩
  · rcases List.mem_append.mp hz with h | h
    · exact kk.row z h
    · obtain ⟨i, _, rfl⟩ := new z h
      exact ⟨orb_row b1 hr _, by rw [orb_len]; exact hl⟩
  · rcases List.mem_append.mp hz with h | h
    · obtain ⟨c', v1, v2⟩ := kk.val z h
      exact ⟨c', by rw [List.getElem?_append_left (List.getElem?_eq_some_iff.mp v1).1]; exact v1, v2⟩
    · obtain ⟨i, hi, rfl⟩ := new z h
      refine ⟨(orb b r j, k - j), by simp, ?_, i, ?_⟩
      · exact (crs_in hb (orb_row b1 hr _) (c.inR (by omega))).symm
      · show orb b r (j + i) = orb b (orb b r j) i
        rw [orb_add]
  · rcases List.mem_append.mp hz with h | h
    · exact sub _ (kk.stp z h)
    · obtain ⟨i, hi, rfl⟩ := new z h
      exact inN (j + i + 1) (by omega)
  · rcases List.mem_append.mp hc with h | h
    · obtain ⟨a1, a2, a3, a4⟩ := kk.cyc c' h
      exact ⟨a1, a2, a3, sub _ a4⟩
    · rw [List.mem_singleton.mp h]
      exact ⟨orb_row b1 hr _, by rw [orb_len]; exact hl, c.cyc, inN j (Nat.le_refl _)⟩
  · have old : ∀ {i ci}, (cs ++ [(orb b r j, k - j)])[i]? = some ci → (i < cs.length ∧ cs[i]? = some ci) ∨ (i = cs.length ∧ ci = (orb b r j, k - j)) := fun {i ci} h => by
      rcases Nat.lt_or_ge i cs.length with q | q
      · rw [List.getElem?_append_left q] at h; exact .inl ⟨q, h⟩
      · rw [List.getElem?_append_right q] at h
        have : i - cs.length = 0 := by
          rcases Nat.eq_zero_or_pos (i - cs.length) with z | z
          · exact z
          · rw [List.getElem?_eq_none (by simp; omega)] at h; cases h
        rw [this] at h
        injection h with h
        exact .inr ⟨by omega, h.symm⟩
    rcases old h1 with ⟨a1, a2⟩ | ⟨a1, a2⟩
    · rcases old h2 with ⟨b1', b2⟩ | ⟨b1', b2⟩
      · exact kk.dis i i' ci cj a2 b2 ⟨t, h3⟩
      · exfalso
        have h4 := kk.closed (kk.cyc ci (List.mem_of_getElem? a2)).2.2.2 t
        rw [h3, b2] at h4
        exact hno j hlt h4
    · rcases old h2 with ⟨b1', b2⟩ | ⟨b1', b2⟩
      · exfalso
        rw [a2] at h3
        have h3 : orb b (orb b r j) t = cj.1 := h3
        rw [orb_add] at h3
        obtain ⟨i2, q1, q2, q3⟩ := c.back (j + t) (by omega)
        have h4 := (kk.cyc cj (List.mem_of_getElem? b2)).2.2.2
        rw [← h3, ← q3] at h4
        exact hno i2 q2 h4
      · omega
  · rw [ek, List.nodup_append]
    refine ⟨kk.nd, ?_, fun x hx z hz => ?_⟩
    · unfold List.Nodup
      rw [List.pairwise_map]
      refine List.Pairwise.imp_of_mem (fun {x y} hx hy hxy => ?_) (List.pairwise_lt_range (n := k - j))
      have hy := List.mem_range.mp hy
      exact c.far (j + x) (j + y) (by omega) (by omega)
    · obtain ⟨i, hi, rfl⟩ := List.mem_map.mp hz
      have hi := List.mem_range.mp hi
      exact fun q => hno (j + i) (by omega) (q ▸ hx)
  · rw [List.length_append, List.length_append]
    have := kk.cl
    unfold newK
    rw [List.length_map, List.length_range]
    show cs.length + 1 ≤ _
    omega
/-- all the rounds of a base and a length -/
structure AllC (b : Int) (n : Nat) (cs : List (List Int × Nat)) (kv : List (List Int × Nat × Nat)) : Prop where
  ok : KOk b n cs kv
  all : ∀ z ∈ falN b n, stepI b z.1 ∈ keysK kv
theorem dss_ifQ {C : Ct} {F : Out → Prop} {ρ : Rho} {e : Expr} {s1 rest : List Stmt} {pos : Pos} {k : Bool} (I : Rho → Prop) (hc : DTd C (xi F) ρ e k) (h1 : k = true → ∀ F' : Out → Prop, (∀ ρ', I ρ' → F' (.nx ρ')) → DSs C F' ρ s1) (h0 : k = false → I ρ) (hr : ∀ ρ', I ρ' → DSs C F ρ' rest) : DSs C F ρ (.If e s1 [] pos :: rest) :=
  dss_cons (ds_ifd hc (fun h => h1 h _ fun ρ' i => hr ρ' i) fun h => dss_nil (hr ρ (h0 h)))
theorem rows_circR (b : Int) (r : List Int) {j k : Nat} (h : j ≤ k) : (rowsD b r k).drop j = circR b (orb b r j) (k - j) := by
  apply List.ext_getElem?
  intro t
  unfold circR
  rw [List.getElem?_drop, List.getElem?_map]
  by_cases h1 : t < k - j
  · rw [rowsD_at (by omega), List.getElem?_range h1]
    show _ = some (tI (orb b (orb b r j) t))
    rw [orb_add]
  · rw [List.getElem?_eq_none (by rw [rowsD_len]; omega), List.getElem?_eq_none (by rw [List.length_range]; omega)]
    rfl
theorem rows_take (b : Int) (r : List Int) {j k : Nat} (h : j ≤ k) : (rowsD b r k).take j = rowsD b r j := by
  apply List.ext_getElem?
  intro t
  rw [List.getElem?_take]
  split
  · rename_i h1; rw [rowsD_at (by omega), rowsD_at h1]
  · rename_i h1; rw [List.getElem?_eq_none (by rw [rowsD_len]; omega)]
end DD
namespace DD
open PySem L2
theorem rows_all (b : Int) (r : List Int) (n : Nat) : AllRows (rowsD b r n) := rows_drop (j := 0)
theorem rows_any (b : Int) (r x : List Int) (k : Nat) : ((rowsD b r k).any fun z => PyData.eqv z (tI x)) = true ↔ ∃ i, i < k ∧ orb b r i = x := by
  rw [List.any_eq_true]
  constructor
  · rintro ⟨z, hz, e⟩
    obtain ⟨i, hi, rfl⟩ := List.mem_map.mp hz
    rw [eqvT] at e
    exact ⟨i, List.mem_range.mp hi, of_decide_eq_true e⟩
  · rintro ⟨i, hi, e⟩
    exact ⟨_, List.mem_map.mpr ⟨i, List.mem_range.mpr hi, rfl⟩, by rw [eqvT]; exact decide_eq_true e⟩
theorem keysK_app (a b : List (List Int × Nat × Nat)) : keysK (a ++ b) = keysK a ++ keysK b := List.map_append
theorem newK_take (b : Int) (r : List Int) (num j k i : Nat) (h : i < k - j) : (newK b r num j k).take (i + 1) = (newK b r num j k).take i ++ [(orb b r (j + i), num, 0)] := by
  refine take_snoc' ?_
  unfold newK
  rw [List.getElem?_map, List.getElem?_range h]
  rfl
where take_snoc' {α : Type} {l : List α} {i : Nat} {x : α} (h : l[i]? = some x) : l.take (i + 1) = l.take i ++ [x] := by rw [List.take_succ, h]; rfl
theorem newK_len (b : Int) (r : List Int) (num j k : Nat) : (newK b r num j k).length = k - j := by unfold newK; rw [List.length_map, List.length_range]
theorem newK_mem {b : Int} {r : List Int} {num j k i : Nat} {x : List Int} (h : x ∈ keysK ((newK b r num j k).take i)) : ∃ i', i' < i ∧ i' < k - j ∧ x = orb b r (j + i') := by
  obtain ⟨y, hy, rfl⟩ := List.mem_map.mp h
  obtain ⟨i', hi, e⟩ := List.mem_iff_getElem.mp hy
  rw [List.length_take, newK_len] at hi
  rw [List.getElem_take] at e
  unfold newK at e
  rw [List.getElem_map, List.getElem_range] at e
  exact ⟨i', by omega, by omega, by rw [← e]⟩
theorem rowsD_ofNat {b : Int} {r : List Int} {n i : Nat} {d : PyData} (h : (rowsD b r n)[i]? = some d) : i < n ∧ d = tI (orb b r i) := by
  have h1 := (List.getElem?_eq_some_iff.mp h).1
  rw [rowsD_len] at h1
  rw [rowsD_at h1] at h
  injection h with h
  exact ⟨h1, h.symm⟩
end DD

namespace DD
open PySem L2
variable {K : PySem.W.Frag}
/-! ## a def of a base and a length -/
def fTab (K : PySem.W.Frag) (r : Int → Nat → Out) (b v : PyData) : Out := match fNB2 K b v with
  | .rt _ => r (unI b) (unI v).toNat
  | o => o
structure Small (b : Int) (n : Nat) : Prop where
  hb : Base b
  hn : 1 ≤ n ∧ n ≤ 8
  hp : b ^ n ≤ 10000
theorem fNB2_ok {b : Int} {n : Nat} (h : Small b n) : fNB2 K (.int b) (.int (n : Int)) = .rt .none := by
  unfold fNB2
  rw [fNL_ok h.hb (by have := h.hn; omega)]
  show fNS K b n = _
  unfold fNS
  rw [if_neg (by have := h.hp; omega)]
theorem fTab_ok {r : Int → Nat → Out} {b : Int} {n : Nat} (h : Small b n) : fTab K r (.int b) (.int (n : Int)) = r b n := by
  unfold fTab
  rw [fNB2_ok h]
  rfl
theorem fTab_ex {r : Int → Nat → Out} {b v : PyData} {c : Addr} (h : fNB2 K b v = .ex c) : fTab K r b v = .ex c := by
  unfold fTab
  rw [h]
theorem fNB2_large {b : Int} {n : Nat} (hb : Base b) (hn : 1 ≤ n ∧ n ≤ 8) (h : 10000 < b ^ n) : fNB2 K (.int b) (.int (n : Int)) = .ex (He.ga K "TooLarge") := by
  unfold fNB2
  rw [fNL_ok hb (by omega)]
  show fNS K b n = _
  unfold fNS
  rw [if_pos h]
theorem thenB {F : Out → Prop} {ρ : Rho} {b v : PyData} (h1 : ∀ c, fNB2 K b v = .ex c → F (.ex c)) (h2 : ∀ (bi : Int) (n : Nat), b = .int bi → v = .int (n : Int) → Small bi n → F (.nx ρ)) : thenO (fNB2 K b v) F ρ := by
  rcases fNL_cases (K := K) b v with ⟨bi, n, rfl, rfl, hb, hn, e⟩ | ⟨c, e⟩
  · obtain ⟨m, rfl⟩ := Int.eq_ofNat_of_zero_le (by omega : 0 ≤ n)
    by_cases hp : 10000 < bi ^ m
    · have := fNB2_large (K := K) (n := m) hb (by omega) hp
      rw [this]
      exact h1 _ this
    · have hs : Small bi m := ⟨hb, by omega, by omega⟩
      have := fNB2_ok (K := K) hs
      rw [this]
      exact h2 bi m rfl rfl hs
  · have := fNB2_ex e
    rw [this]
    exact h1 _ this
section
variable {C : Ct} {Ξ : Addr → Prop} {ρ : Rho} {a b : Expr} {pos : Pos}
/-- an item of a tuple that is known by a property -/
theorem de_ixTP {i : Int} {Pa P : PyData → Prop} (ha : DE C Ξ ρ a Pa) (hb : DEd C Ξ ρ b (.int i)) (h : ∀ x, Pa x → ∃ ds e, x = .tuple ds ∧ atI ds i = some e ∧ P e) (hs : PlainIx b := by intro _ _; rfl) : DE C Ξ ρ (.Subscript a b pos) P :=
  de_ix ix_seq ha hb (fun x y hx hy => by
    obtain ⟨ds, e, rfl, h1, h2⟩ := h x hx
    subst hy
    intro A' ρ' σ H v u Q E r1 r2 k
    exact rd_ixT h1 A' ρ' σ H v u Q E r1 r2 fun z w H2 pz => k z w H2 (by rw [pz]; exact h2)) hs
end
/-! ## all falling rows are there -/
theorem fal_mem {b : Int} : ∀ {n : Nat} {r : List Int}, FalR b n r → ∃ m, (r, m) ∈ falN b n
  | 0, r, h => by
    have := List.eq_nil_of_length_eq_zero h.len
    subst this
    exact ⟨1, List.mem_singleton.mpr rfl⟩
  | n + 1, r, h => by
    have hne : r ≠ [] := fun e => by have := h.len; rw [e] at this; cases this
    have e : r = r.dropLast ++ [r.getLast hne] := (List.dropLast_concat_getLast hne).symm
    have hlast := h.dg _ (List.getLast_mem hne)
    have hp := h.dn
    rw [e, List.pairwise_append] at hp
    obtain ⟨m, hm⟩ := fal_mem (n := n) (r := r.dropLast) ⟨by rw [List.length_dropLast, h.len]; rfl, h.dg.sub fun x hx => (List.dropLast_sublist r).subset hx, hp.1⟩
    obtain ⟨d, hd⟩ := Int.eq_ofNat_of_zero_le hlast.1
    have ht : r.getLast hne < topI b r.dropLast := by
      unfold topI
      split
      · exact hlast.2
      · rename_i h2
        have := hp.2.2 _ (getD_mem (s := r.dropLast) (i := r.dropLast.length - 1) (by have := List.length_pos_iff.mpr h2; omega)) _ (List.mem_singleton.mpr rfl)
        omega
    refine ⟨m * ((n : Int) + 1) / (((r.dropLast ++ [(d : Int)]).count (d : Int) : Nat) : Int), List.mem_flatMap.mpr ⟨_, hm, ?_⟩⟩
    unfold extF
    refine List.mem_map.mpr ⟨d, List.mem_range.mpr (by show d < (topI b r.dropLast).toNat; omega), ?_⟩
    show (r.dropLast ++ [(d : Int)], _) = (r, _)
    rw [← hd, ← e]
theorem falI_R {b : Int} {n : Nat} {r : List Int} (h : Dg b r) (hl : r.length = n) : FalR b n (falI r) := ⟨by rw [falI_len]; exact hl, h.fal, by
  unfold falI
  rw [List.pairwise_reverse]
  exact srt_pw r⟩
theorem AllC.step {b : Int} {n : Nat} {cs : List (List Int × Nat)} {kv : List (List Int × Nat × Nat)} (a : AllC b n cs kv) {r : List Int} (hd : Dg b r) (hl : r.length = n) : stepI b r ∈ keysK kv := by
  obtain ⟨m, hm⟩ := fal_mem (falI_R hd hl)
  have := a.all _ hm
  rwa [step_perm (fal_of_perm r)] at this
theorem AllC.inR {b : Int} {n : Nat} {cs : List (List Int × Nat)} {kv : List (List Int × Nat × Nat)} (a : AllC b n cs kv) {r : List Int} (hd : Dg b r) (hl : r.length = n) (h : InR b r) : r ∈ keysK kv := by
  obtain ⟨t, ht, e⟩ := h
  obtain ⟨s, rfl⟩ : ∃ s, t = s + 1 := ⟨t - 1, by omega⟩
  rw [orb_succ] at e
  rw [← e]
  exact a.ok.closed (a.step hd hl) s
theorem InR.step {b : Int} {r : List Int} (h : InR b r) : InR b (stepI b r) := by
  obtain ⟨t, ht, e⟩ := h
  refine ⟨t, ht, ?_⟩
  have := orb_succ b r t
  rw [← this]
  show stepI b (orb b r t) = _
  rw [e]
theorem crs_step0 {b : Int} {r : List Int} (hb : Base b) (hr : Row b r) : (crs b r).2 = if (crs b (stepI b r)).2 = 0 then (crs b r).2 else (crs b (stepI b r)).2 + 1 := by
  have hs : Row b (stepI b r) := hr.step (by have := hb.1; omega)
  split
  · rfl
  · rename_i h
    exact crs_step hb hr fun hi => h (crs_in hb hs hi.step)
/-! ## all rows -/
def allR (b : Int) (n : Nat) : List (List Int) := (List.range (b ^ n).toNat).map fun (i : Nat) => wrI b n (i : Int) []
def allL (b : Int) : Nat → List (List Int)
  | 0 => [[]]
  | k + 1 => (allL b k).flatMap fun r => (List.range b.toNat).map fun (d : Nat) => r ++ [(d : Int)]
theorem range_mul (m c : Nat) : List.range (m * c) = (List.range m).flatMap fun j => (List.range c).map fun d => j * c + d := by
  induction m with
  | zero => simp
  | succ m ih =>
    rw [Nat.succ_mul, List.range_add, ih, List.range_succ, List.flatMap_append]
    simp
theorem allL_R {b : Int} (hb : 1 ≤ b) : ∀ n, allL b n = allR b n
  | 0 => by
    unfold allL allR
    rw [Int.pow_zero]
    rfl
  | n + 1 => by
    obtain ⟨c, rfl⟩ := Int.eq_ofNat_of_zero_le (show 0 ≤ b by omega)
    have hc : 0 < c := by omega
    unfold allL
    rw [allL_R hb n]
    have hp : 0 ≤ (c : Int) ^ n := Int.pow_nonneg (by omega)
    have e1 : (((c : Int) ^ (n + 1))).toNat = ((c : Int) ^ n).toNat * c := by
      rw [Int.pow_succ]
      have : (((c : Int) ^ n * c)).toNat = ((c : Int) ^ n).toNat * (c : Int).toNat := Int.toNat_mul hp (by omega)
      rw [this]; rfl
    unfold allR
    rw [e1, range_mul, List.flatMap_map, List.map_flatMap]
    congr 1
    funext j
    rw [List.map_map]
    refine List.map_congr_left fun d hd => ?_
    have hd : d < c := List.mem_range.mp hd
    show wrI c n (j : Int) [] ++ [(d : Int)] = wrI c (n + 1) ((j * c + d : Nat) : Int) []
    rw [wrI_succ]
    have h1 : (((j * c + d : Nat) : Int)) / (c : Int) = (j : Int) := by
      rw [← Int.natCast_ediv]
      congr 1
      rw [Nat.mul_comm, Nat.mul_add_div hc, Nat.div_eq_of_lt hd, Nat.add_zero]
    have h2 : (((j * c + d : Nat) : Int)) % (c : Int) = (d : Int) := by
      rw [← Int.natCast_emod]
      congr 1
      rw [Nat.mul_comm, Nat.mul_add_mod, Nat.mod_eq_of_lt hd]
    rw [h1, h2]
theorem allR_mem {b : Int} (hb : 1 ≤ b) {n : Nat} {r : List Int} : r ∈ allR b n ↔ Dg b r ∧ r.length = n := by
  constructor
  · intro h
    obtain ⟨i, hi, rfl⟩ := List.mem_map.mp h
    exact ⟨wrI_dg hb _ _ _ (fun _ h => nomatch h), by rw [wrI_len]; rfl⟩
  · rintro ⟨h1, h2⟩
    have hn := numI_bd hb h1
    rw [h2] at hn
    refine List.mem_map.mpr ⟨(numI b r).toNat, List.mem_range.mpr (by omega), ?_⟩
    rw [Int.toNat_of_nonneg hn.1]
    have := wr_num r h1
    rw [h2] at this
    exact this
theorem allR_len (b : Int) (n : Nat) : (allR b n).length = (b ^ n).toNat := by unfold allR; rw [List.length_map, List.length_range]
theorem allR_row {b : Int} (hb : 1 ≤ b) {n : Nat} (hn : 1 ≤ n ∧ n ≤ 8) {r : List Int} (h : r ∈ allR b n) : Row b r := by
  obtain ⟨h1, h2⟩ := (allR_mem hb).mp h
  exact ⟨by omega, h1⟩
/-! ## the longest way -/
def bestS (f : List Int → Nat) (o : Option (Nat × List Int)) (r : List Int) : Option (Nat × List Int) := match o with
  | none => some (f r, r)
  | some z => if z.1 < f r then some (f r, r) else some z
def bestF (f : List Int → Nat) (l : List (List Int)) : Option (Nat × List Int) := l.foldl (bestS f) none
def bestD : Option (Nat × List Int) → PyData
  | none => .none
  | some z => .tuple [.int (z.1 : Int), tI z.2]
theorem best_snoc (f : List Int → Nat) (l : List (List Int)) (r : List Int) : bestF f (l ++ [r]) = bestS f (bestF f l) r := by unfold bestF; rw [List.foldl_append]; rfl
theorem best_spec (f : List Int → Nat) (l : List (List Int)) : (l = [] ∧ bestF f l = none) ∨ ∃ z, bestF f l = some z ∧ z.2 ∈ l ∧ z.1 = f z.2 ∧ ∀ r ∈ l, f r ≤ z.1 := by
  refine snoc_ind (p := fun l => (l = [] ∧ bestF f l = none) ∨ ∃ z, bestF f l = some z ∧ z.2 ∈ l ∧ z.1 = f z.2 ∧ ∀ r ∈ l, f r ≤ z.1) (.inl ⟨rfl, rfl⟩) (fun l r ih => .inr ?_) l
  rw [best_snoc]
  rcases ih with ⟨rfl, e⟩ | ⟨z, e, h1, h2, h3⟩
  · rw [e]
    exact ⟨(f r, r), rfl, by simp, rfl, fun x hx => by simp at hx; rw [hx]; exact Nat.le_refl _⟩
  · rw [e]
    unfold bestS
    simp only
    by_cases h : z.1 < f r
    · rw [if_pos h]
      refine ⟨_, rfl, by simp, rfl, fun x hx => ?_⟩
      rcases List.mem_append.mp hx with h4 | h4
      · have := h3 x h4; show f x ≤ f r; omega
      · rw [List.mem_singleton.mp h4]; exact Nat.le_refl _
    · rw [if_neg h]
      refine ⟨z, rfl, List.mem_append_left _ h1, h2, fun x hx => ?_⟩
      rcases List.mem_append.mp hx with h4 | h4
      · exact h3 x h4
      · rw [List.mem_singleton.mp h4]; omega
noncomputable def longD (b : Int) (n : Nat) : PyData := bestD (bestF (fun r => (crs b r).2) (allR b n))
theorem sh_best (o : Option (Nat × List Int)) : SeqAt.shaped (bestD o) = true := by
  cases o with
  | none => rfl
  | some z =>
    unfold bestD SeqAt.shaped
    have h := lay_iv z.2
    simp [PyData.canLay0, PyData.canLayAll0, PyData.depth, PyData.depthAll, tI, h.1, h.2]
end DD

namespace DD
open PySem L2
/-! ## small cases -/
theorem crs_fix {b : Int} {r : List Int} (hb : Base b) (hr : Row b r) (h : stepI b r = r) : (crs b r).2 = 0 := crs_in hb hr ⟨1, by decide, h⟩
theorem crs_one {b : Int} {r : List Int} (hb : Base b) (hr : Row b r) (h : stepI b r ≠ r) (h2 : stepI b (stepI b r) = stepI b r) : (crs b r).2 = 1 := by
  have hs : Row b (stepI b r) := hr.step (by have := hb.1; omega)
  rw [crs_step hb hr, crs_fix hb hs h2]
  rintro ⟨t, ht, e⟩
  obtain ⟨s, rfl⟩ : ∃ s, t = s + 1 := ⟨t - 1, by omega⟩
  rw [orb_succ] at e
  have : ∀ s, orb b (stepI b r) s = stepI b r := fun s => by
    induction s with
    | zero => rfl
    | succ s ih => show stepI b (orb b (stepI b r) s) = _; rw [ih, h2]
  rw [this] at e
  exact h e
theorem srt_single (d : Int) : srtI [d] = [d] := by rw [srt_isrt]; rfl
theorem step_single (b d : Int) : stepI b [d] = [0] := by
  unfold stepI falI
  rw [srt_single]
  show wrI b 1 (numI b [d] - numI b [d]) [] = [0]
  rw [Int.sub_self]
  unfold wrI wrI
  simp
theorem crs_single {b d : Int} (hb : Base b) (h0 : 0 ≤ d) (h1 : d < b) : (crs b [d]).2 = if d = 0 then 0 else 1 := by
  have hr : Row b [d] := ⟨by simp, fun n hn => by rw [List.mem_singleton.mp hn]; exact ⟨h0, h1⟩⟩
  split
  · rename_i e; subst e; exact crs_fix hb hr (step_single b 0)
  · rename_i e
    refine crs_one hb hr ?_ ?_
    · rw [step_single]; intro q; injection q with q; exact e q.symm
    · rw [step_single, step_single]
theorem bestS_none (f : List Int → Nat) (r : List Int) : bestS f none r = some (f r, r) := rfl
theorem bestS_some (f : List Int → Nat) (z : Nat × List Int) (r : List Int) : bestS f (some z) r = if z.1 < f r then some (f r, r) else some z := rfl
theorem best_keep (f : List Int → Nat) (z : Nat × List Int) : ∀ l : List (List Int), (∀ r ∈ l, f r ≤ z.1) → l.foldl (bestS f) (some z) = some z
  | [], _ => rfl
  | r :: l, h => by
    have h1 := h r List.mem_cons_self
    show l.foldl (bestS f) (bestS f (some z) r) = some z
    rw [show bestS f (some z) r = some z by unfold bestS; simp only; rw [if_neg (by omega)]]
    exact best_keep f z l fun x hx => h x (List.mem_cons_of_mem _ hx)
theorem wr_single (b i : Int) (h0 : 0 ≤ i) (h1 : i < b) : wrI b 1 i [] = [i] := by
  unfold wrI wrI
  rw [Int.emod_eq_of_lt h0 h1]
theorem allR_one {b : Int} (hb : 1 ≤ b) : allR b 1 = (List.range b.toNat).map fun (i : Nat) => [(i : Int)] := by
  unfold allR
  rw [Int.pow_succ, Int.pow_zero, Int.one_mul]
  refine List.map_congr_left fun i hi => ?_
  have hi := List.mem_range.mp hi
  exact wr_single b i (by omega) (by omega)
theorem long_one {b : Int} (hb : Base b) : longD b 1 = .tuple [.int 1, tI [1]] := by
  have b2 := hb.1
  unfold longD
  rw [allR_one (by omega)]
  obtain ⟨c, hc⟩ : ∃ c, b.toNat = 2 + c := ⟨b.toNat - 2, by omega⟩
  rw [hc, List.range_add, List.map_append]
  show bestD ((([[0], [1]] : List (List Int)) ++ _).foldl (bestS _) none) = _
  rw [List.foldl_append]
  have e : ([[0], [1]] : List (List Int)).foldl (bestS fun r => (crs b r).2) none = some (1, [1]) := by
    have h0 := crs_single (d := 0) hb (by decide) (by omega)
    have h1 := crs_single (d := 1) hb (by decide) (by omega)
    rw [if_pos rfl] at h0
    rw [if_neg (by decide)] at h1
    simp only [List.foldl_cons, List.foldl_nil, bestS_none, bestS_some, h0, h1]
    rfl
  rw [e, best_keep]
  · rfl
  · intro r hr
    obtain ⟨i, hi, rfl⟩ := List.mem_map.mp hr
    obtain ⟨j, hj, rfl⟩ := List.mem_map.mp hi
    have hj := List.mem_range.mp hj
    have := crs_single (d := ((2 + j : Nat) : Int)) hb (by omega) (by omega)
    show (crs b [((2 + j : Nat) : Int)]).2 ≤ 1
    rw [this]
    split <;> omega
theorem st2 (r : List Int) (s : List Int) (h : wrI 2 r.length (numI 2 (isrt r).reverse - numI 2 (isrt r)) [] = s) : stepI 2 r = s := by
  unfold stepI falI
  rw [srt_isrt]
  exact h
theorem long_two : longD 2 2 = .tuple [.int 1, tI [1, 0]] := by
  have hb : Base 2 := ⟨by decide, by decide⟩
  have e : allR 2 2 = [[0, 0], [0, 1], [1, 0], [1, 1]] := by decide +kernel
  have hr : ∀ r ∈ allR 2 2, Row 2 r := fun r h => allR_row (by decide) ⟨by decide, by decide⟩ h
  rw [e] at hr
  have s0 : stepI 2 [0, 0] = [0, 0] := st2 _ _ (by decide +kernel)
  have s1 : stepI 2 [0, 1] = [0, 1] := st2 _ _ (by decide +kernel)
  have s2 : stepI 2 [1, 0] = [0, 1] := st2 _ _ (by decide +kernel)
  have s3 : stepI 2 [1, 1] = [0, 0] := st2 _ _ (by decide +kernel)
  have c0 := crs_fix hb (hr [0, 0] (by simp)) s0
  have c1 := crs_fix hb (hr [0, 1] (by simp)) s1
  have c2 := crs_one hb (hr [1, 0] (by simp)) (by rw [s2]; decide) (by rw [s2, s1])
  have c3 := crs_one hb (hr [1, 1] (by simp)) (by rw [s3]; decide) (by rw [s3, s0])
  unfold longD
  rw [e]
  unfold bestF
  simp only [List.foldl_cons, List.foldl_nil, bestS_none, bestS_some, c0, c1]
  rw [if_neg (by decide)]
  simp only [bestS_some, c2]
  rw [if_pos (by decide)]
  simp only [bestS_some, c3]
  rw [if_neg (by decide)]
  rfl
/-! ## x, d = a, {} -/
theorem ds_newVD {C : Ct} {F : Out → Prop} {ρ : Rho} {a : Expr} {pos : Pos} (i j : Nat) {x y : Str} {d : PyData} {px py pt lp pt2 : Pos} {kt k2 : Nat} (ha : DEd C (xi F) ρ a d) (k : ∀ b, F (.nx ((ρ.set i (.dat d)).set j (.dic b [])))) (hN : C.X.N.Nodup) (hi : C.X.N[i]? = some x) (hj : C.X.N[j]? = some y) (hij : i ≠ j) (hlj : j < ρ.length)
    (hx : C.X.env.scope.names.lookup x = some .local) (hy : C.X.env.scope.names.lookup y = some .local) (hw : swappedStores [.Tuple [.Name x px, .Name y py] kt pt] (.Tuple [a, .Dict [] [] lp] k2 pt2) C.X.env = pure (some [x, y]))
    (h1 : starEach [a, .Dict [] [] lp] C.X.env = (false, eval a C.X.env) :: starEach [.Dict [] [] lp] C.X.env := by rfl) (h2 : starEach [.Dict [] [] lp] C.X.env = (false, eval (.Dict [] [] lp) C.X.env) :: starEach [] C.X.env := by rfl)
    (hc : C.X.calm = true := by rfl) (hs : swapsWithSole [.Tuple [.Name x px, .Name y py] kt pt] (.Tuple [a, .Dict [] [] lp] k2 pt2) pos.line C.X.env = pure false := by rfl) : DS C F ρ (.Assign [.Tuple [.Name x px, .Name y py] kt pt] (.Tuple [a, .Dict [] [] lp] k2 pt2) pos) := fun D σ H E q =>
  ⟨_, ps_par hc hN hi hj hij hx hy (pa_cons pE (pa_cons pe_dnewT pa_nil h2) h1) hw hs, ha σ H E _ (fun d1 v H2 pd g r => fun b hb => by
    subst pd
    obtain ⟨E1, s1⟩ := (E.grow g).put (i := i) (sv := .dat d1) (o := some v) rfl ⟨v, rfl, r⟩
    obtain ⟨E2, s2⟩ := E1.fresh (o := .dT []) (sv := .dic b []) (i := j) hb rfl (by rw [List.length_set]; exact hlj) fun o1 o2 => ⟨rfl, o1, o2, [], upd_same, .nil⟩
    exact ⟨v, .ref b, rfl, q.nx _ _ _ (k b) E2 (((vis_gr g).trans s1).trans s2)⟩) (q.exE E)⟩
/-! ## a table of rows -/
def TabOk (P : List Int → PyData → Prop) (kvs : List (List Int × PyData)) : Prop := ∀ z ∈ kvs, P z.1 z.2
theorem TabOk.get {P : List Int → PyData → Prop} {kvs : List (List Int × PyData)} (h : TabOk P kvs) {k : List Int} {z : List Int × PyData} (e : (kvs.find? fun z => decide (z.1 = k)) = some z) : z.1 = k ∧ P k z.2 := by
  have h1 := List.mem_of_find?_eq_some e
  have h2 : decide (z.1 = k) = true := List.find?_some (p := fun z : List Int × PyData => decide (z.1 = k)) e
  have h2 := of_decide_eq_true h2
  exact ⟨h2, h2 ▸ h z h1⟩
theorem TabOk.add {P : List Int → PyData → Prop} {kvs : List (List Int × PyData)} (h : TabOk P kvs) {k : List Int} {d : PyData} (p : P k d) : TabOk P (kvs ++ [(k, d)]) := fun z hz => by
  rcases List.mem_append.mp hz with h1 | h1
  · exact h z h1
  · rw [List.mem_singleton.mp h1]; exact p
theorem find_add {kvs : List (List Int × PyData)} {k : List Int} {d : PyData} (h : (kvs.find? fun z => decide (z.1 = k)) = none) : ((kvs ++ [(k, d)]).find? fun z => decide (z.1 = k)) = some (k, d) := by
  rw [List.find?_append, h, List.find?_cons_of_pos (by simp)]
  rfl
end DD

namespace DD
open PySem L2
/-! ## the order of ints and tuples -/
mutual
def ti : PyData → Bool
  | .int _ => true
  | .tuple xs => tis xs
  | _ => false
def tis : List PyData → Bool
  | [] => true
  | x :: xs => ti x && tis xs
end
mutual
theorem toks_inj : ∀ (x y : PyData) (a b : List (Int ⊕ List Nat)), ti x = true → PySem.W.alike x y = true → PySem.W.keyToks x ++ a = PySem.W.keyToks y ++ b → x = y ∧ a = b
  | .int i, y, a, b, _, h, e => by
    cases y with
    | int j =>
      simp only [PySem.W.keyToks, List.cons_append, List.nil_append, List.cons.injEq, Sum.inl.injEq] at e
      exact ⟨by rw [e.1], e.2⟩
    | _ => simp [PySem.W.alike] at h
  | .tuple xs, y, a, b, t, h, e => by
    cases y with
    | tuple ys =>
      rw [PySem.W.alike] at h
      rw [ti] at t
      rw [PySem.W.keyToks, PySem.W.keyToks] at e
      obtain ⟨e1, e2⟩ := toksA_inj xs ys a b t h e
      exact ⟨by rw [e1], e2⟩
    | _ => simp [PySem.W.alike] at h
  | .none, _, _, _, t, _, _ => by simp [ti] at t
  | .bool _, _, _, _, t, _, _ => by simp [ti] at t
  | .str _, _, _, _, t, _, _ => by simp [ti] at t
  | .list _, _, _, _, t, _, _ => by simp [ti] at t
  | .dict _, _, _, _, t, _, _ => by simp [ti] at t
theorem toksA_inj : ∀ (xs ys : List PyData) (a b : List (Int ⊕ List Nat)), tis xs = true → PySem.W.alikeAll xs ys = true → PySem.W.keyToksAll xs ++ a = PySem.W.keyToksAll ys ++ b → xs = ys ∧ a = b
  | [], [], a, b, _, _, e => by
    rw [PySem.W.keyToksAll] at e
    exact ⟨rfl, by simpa using e⟩
  | [], y :: ys, a, b, _, _, e => by
    rw [PySem.W.keyToksAll, PySem.W.keyToksAll] at e
    simp at e
  | x :: xs, [], a, b, _, _, e => by
    rw [PySem.W.keyToksAll, PySem.W.keyToksAll] at e
    simp at e
  | x :: xs, y :: ys, a, b, t, h, e => by
    rw [PySem.W.alikeAll, Bool.and_eq_true] at h
    rw [tis, Bool.and_eq_true] at t
    rw [PySem.W.keyToksAll, PySem.W.keyToksAll, List.cons_append, List.cons_append, List.append_assoc, List.append_assoc] at e
    injection e with _ e
    obtain ⟨e1, e2⟩ := toks_inj x y _ _ t.1 h.1 e
    obtain ⟨e3, e4⟩ := toksA_inj xs ys a b t.2 h.2 e2
    exact ⟨by rw [e1, e3], e4⟩
end
theorem dLe_eq (a b : PyData) : dLe a b = !PySem.W.dataLt b a := rfl
theorem dle_trans (a b c : PyData) (h1 : dLe a b = true) (h2 : dLe b c = true) : dLe a c = true := by
  rw [dLe_eq, Bool.not_eq_true'] at h1 h2 ⊢
  cases h : PySem.W.dataLt c a with
  | false => rfl
  | true =>
    rcases PyProof.Rows.lex_negTrans _ (PySem.W.keyToks b) _ h with q | q
    · exact absurd (h2.symm.trans q) Bool.false_ne_true
    · exact absurd (h1.symm.trans q) Bool.false_ne_true
theorem dle_total (a b : PyData) : (dLe a b || dLe b a) = true := by
  rw [dLe_eq, dLe_eq]
  cases h : PySem.W.dataLt b a with
  | false => rfl
  | true =>
    cases h2 : PySem.W.dataLt a b with
    | false => rfl
    | true => exact absurd ((PyProof.Rows.lex_irrefl _).symm.trans (PyProof.Rows.lex_trans _ _ _ h h2)) Bool.false_ne_true
theorem dle_anti {a b : PyData} (t : ti a = true) (al : PySem.W.alike a b = true) (h1 : dLe a b = true) (h2 : dLe b a = true) : a = b := by
  rw [dLe_eq, Bool.not_eq_true'] at h1 h2
  have e := PyProof.Rows.lex_total _ _ h2 h1
  have := toks_inj a b [] [] t al (by rw [List.append_nil, List.append_nil]; exact e)
  exact this.1
/-- sorts out the same list -/
theorem sort_of {xs ys : List PyData} (h : xs.Perm ys) (t : ∀ x ∈ xs, ti x = true) (al : ∀ x ∈ xs, ∀ y ∈ xs, PySem.W.alike x y = true) (pw : ys.Pairwise fun a b => dLe a b = true) : xs.mergeSort dLe = ys := by
  have hp := (List.mergeSort_perm xs dLe).trans h
  have hm : ∀ x, x ∈ xs.mergeSort dLe → x ∈ xs := fun x hx => (List.mergeSort_perm xs dLe).mem_iff.mp hx
  refine List.Perm.eq_of_pairwise (le := fun a b => dLe a b = true) (fun a b ha hb h1 h2 => ?_) (List.pairwise_mergeSort (le := dLe) dle_trans dle_total xs) pw hp
  exact dle_anti (t a (hm a ha)) (al a (hm a ha) b (h.mem_iff.mpr hb)) h1 h2
theorem sort_same {xs ys : List PyData} (h : xs.Perm ys) (t : ∀ x ∈ xs, ti x = true) (al : ∀ x ∈ xs, ∀ y ∈ xs, PySem.W.alike x y = true) : xs.mergeSort dLe = ys.mergeSort dLe :=
  sort_of (h.trans (List.mergeSort_perm ys dLe).symm) t al (List.pairwise_mergeSort (le := dLe) dle_trans dle_total ys)
theorem sort_pw (xs : List PyData) : (xs.mergeSort dLe).Pairwise fun a b => dLe a b = true := List.pairwise_mergeSort (le := dLe) dle_trans dle_total xs
theorem sort_mem {xs : List PyData} {x : PyData} : x ∈ xs.mergeSort dLe ↔ x ∈ xs := (List.mergeSort_perm xs dLe).mem_iff
/-! ### rows, rounds -/
theorem ti_iv : ∀ ns : List Int, tis (iv ns) = true
  | [] => by rw [show iv [] = [] from rfl, tis]
  | n :: ns => by rw [show iv (n :: ns) = PyData.int n :: iv ns from rfl, tis, ti_iv ns, ti]; rfl
theorem ti_row (ns : List Int) : ti (tI ns) = true := by rw [ti]; exact ti_iv ns
theorem ti_all : ∀ {xs : List PyData}, (∀ x ∈ xs, ti x = true) → tis xs = true
  | [], _ => by rw [tis]
  | x :: xs, h => by rw [tis, h x List.mem_cons_self, ti_all fun y hy => h y (List.mem_cons_of_mem _ hy)]; rfl
theorem alike_row (a b : List Int) : PySem.W.alike (tI a) (tI b) = true := by rw [PySem.W.alike]; exact alike_iv2 a b
theorem alike_all : ∀ {xs ys : List PyData}, (∀ x ∈ xs, ∀ y ∈ ys, PySem.W.alike x y = true) → PySem.W.alikeAll xs ys = true
  | [], _, _ => by rw [PySem.W.alikeAll]
  | x :: xs, [], _ => by rw [PySem.W.alikeAll]
  | x :: xs, y :: ys, h => by
    rw [PySem.W.alikeAll, h x List.mem_cons_self y List.mem_cons_self, alike_all fun a ha b hb => h a (List.mem_cons_of_mem _ ha) b (List.mem_cons_of_mem _ hb)]
    rfl
/-- a tuple of rows -/
def RowsT (d : PyData) : Prop := ∃ ds, d = .tuple ds ∧ AllRows ds ∧ ds ≠ []
theorem RowsT.ti {d : PyData} (h : RowsT d) : ti d = true := by
  obtain ⟨ds, rfl, h, _⟩ := h
  rw [DD.ti]
  exact ti_all fun x hx => by obtain ⟨ns, rfl⟩ := h x hx; exact ti_row ns
theorem RowsT.alike {d e : PyData} (h : RowsT d) (h' : RowsT e) : PySem.W.alike d e = true := by
  obtain ⟨ds, rfl, h, _⟩ := h
  obtain ⟨es, rfl, h', _⟩ := h'
  rw [PySem.W.alike]
  exact alike_all fun x hx y hy => by
    obtain ⟨a, rfl⟩ := h x hx
    obtain ⟨b, rfl⟩ := h' y hy
    exact alike_row a b
theorem lf_iv (ns : List Int) : lf (tI ns) = true := by rw [lf]; exact lfs_iv ns
theorem lfs_all : ∀ {xs : List PyData}, (∀ x ∈ xs, lf x = true) → lfs xs = true
  | [], _ => by rw [lfs]
  | x :: xs, h => by rw [lfs, h x List.mem_cons_self, lfs_all fun y hy => h y (List.mem_cons_of_mem _ hy)]; rfl
theorem RowsT.lf {d : PyData} (h : RowsT d) : lf d = true := by
  obtain ⟨ds, rfl, h, _⟩ := h
  rw [DD.lf]
  exact lfs_all fun x hx => by obtain ⟨ns, rfl⟩ := h x hx; exact lf_iv ns
theorem RowsT.sh {d : PyData} (h : RowsT d) : SeqAt.shaped d = true := by
  obtain ⟨ds, rfl, h, _⟩ := h
  exact sh_rowsT h
theorem RowsT.dp {d : PyData} (h : RowsT d) : d.depth ≤ 2 := by
  obtain ⟨ds, rfl, h, _⟩ := h
  rw [PyData.depth]
  have := (lay_rows h).2
  omega
theorem can_rounds {ds : List PyData} (h : ∀ d ∈ ds, RowsT d) : CanSort ds where
  al := fun d hd d' hd' => (h d hd).alike (h d' hd')
  so := .inl fun d hd => by
    obtain ⟨es, rfl, _, hne⟩ := h d hd
    cases es with
    | nil => exact absurd rfl hne
    | cons x r => exact ⟨x, r, rfl⟩
  lf := lfs_all fun x hx => (h x hx).lf
  dp := fun d hd => by have := (h d hd).dp; omega
theorem can_rows {ds : List PyData} (h : ∀ d ∈ ds, ∃ ns, d = tI ns ∧ ns ≠ []) : CanSort ds where
  al := fun d hd d' hd' => by
    obtain ⟨a, rfl, _⟩ := h d hd
    obtain ⟨b, rfl, _⟩ := h d' hd'
    exact alike_row a b
  so := .inl fun d hd => by
    obtain ⟨ns, rfl, hne⟩ := h d hd
    cases ns with
    | nil => exact absurd rfl hne
    | cons x r => exact ⟨_, _, rfl⟩
  lf := lfs_all fun x hx => by obtain ⟨a, rfl, _⟩ := h x hx; exact lf_iv a
  dp := fun d hd => by
    obtain ⟨a, rfl, _⟩ := h d hd
    have := (lay_iv a).2
    rw [tI, PyData.depth, this]
    decide
/-! ## all rounds, sorted -/
theorem Cyc.far {b : Int} {m : List Int} {L : Nat} (c : Cyc b m L) : Course b m L 0 := by
  refine ⟨fun i j hij hj e => ?_, c.pos, c.per⟩
  have h : orb b m (L - (j - i)) = m := by
    have h1 : orb b m (i + (L - j)) = orb b m (j + (L - j)) := by rw [← orb_add, ← orb_add, e]
    rw [show j + (L - j) = L by omega, c.per, show i + (L - j) = L - (j - i) by omega] at h1
    exact h1
  exact c.low (L - (j - i)) (by omega) (by omega) h
theorem Cyc.crs {b : Int} {m : List Int} {L : Nat} (hb : Base b) (hr : Row b m) (c : Cyc b m L) : crs b m = (L, 0) := by
  obtain ⟨e1, e2⟩ := crs_uniq hb hr c.far
  exact Prod.ext e1.symm e2.symm
theorem circ_len {b : Int} {r : List Int} (hb : Base b) (hr : Row b r) : ∃ m L, Circ b r m L ∧ circD b r = .tuple (circR b m L) := by
  obtain ⟨m, L, c⟩ := circ_is hb hr
  exact ⟨m, L, c, circD_eq c⟩
theorem circD_rowsT {b : Int} {r : List Int} (hb : Base b) (hr : Row b r) : RowsT (circD b r) := by
  obtain ⟨m, L, c, e⟩ := circ_len hb hr
  refine ⟨_, e, circR_rows, fun h => ?_⟩
  have := congrArg List.length h
  unfold circR at this
  rw [List.length_map, List.length_range] at this
  have := c.pos
  simp at *
  omega
/-- the same round: the one comes to the other, if that is in its round -/
theorem circD_reach {b : Int} {r o : List Int} (hb : Base b) (hr : Row b r) (ho : Row b o) (hin : InR b o) (e : circD b r = circD b o) : ∃ t, orb b r t = o := by
  obtain ⟨m, L, c, e1⟩ := circ_len hb hr
  obtain ⟨m', L', c', e2⟩ := circ_len hb ho
  rw [e1, e2] at e
  injection e with e
  have hm : m = m' := by
    have h := congrArg (fun l => l[0]?) e
    unfold circR at h
    simp only [List.getElem?_map] at h
    rw [List.getElem?_range c.pos, List.getElem?_range c'.pos] at h
    have h : some (tI m) = some (tI m') := h
    injection h with h
    injection h with h
    exact iv_inj h
  subst hm
  obtain ⟨i, hi⟩ := c.at_
  obtain ⟨i', hi'⟩ := c'.at_
  obtain ⟨t, ht, et⟩ := hin
  refine ⟨i + (i' * t - i'), ?_⟩
  have h1 := InR.mul et i'
  have hle : i' ≤ i' * t := Nat.le_mul_of_pos_right i' ht
  rw [← orb_add, hi, ← hi', orb_add, show i' + (i' * t - i') = i' * t by omega, h1]
/-- without doubles -/
noncomputable def ddp : List PyData → List PyData
  | [] => []
  | x :: xs => open Classical in if x ∈ xs then ddp xs else x :: ddp xs
theorem mem_ddp {x : PyData} : ∀ {xs : List PyData}, x ∈ ddp xs ↔ x ∈ xs
  | [] => by rw [ddp]
  | y :: xs => by
    rw [ddp]
    split
    · rename_i h
      rw [mem_ddp (xs := xs), List.mem_cons]
      exact ⟨.inr, fun h2 => h2.elim (fun e => e ▸ h) id⟩
    · rw [List.mem_cons, List.mem_cons, mem_ddp (xs := xs)]
theorem nd_ddp : ∀ xs : List PyData, (ddp xs).Nodup
  | [] => by rw [ddp]; exact List.Pairwise.nil
  | y :: xs => by
    rw [ddp]
    split
    · exact nd_ddp xs
    · rename_i h
      exact List.nodup_cons.mpr ⟨fun h2 => h (mem_ddp.mp h2), nd_ddp xs⟩
noncomputable def roundsL (b : Int) (n : Nat) : List PyData := (ddp ((allR b n).map (circD b))).mergeSort dLe
theorem rounds_mem {b : Int} {n : Nat} {x : PyData} : x ∈ roundsL b n ↔ ∃ r ∈ allR b n, circD b r = x := by
  unfold roundsL
  rw [sort_mem, mem_ddp, List.mem_map]
theorem rounds_nd (b : Int) (n : Nat) : (roundsL b n).Nodup := (List.mergeSort_perm _ dLe).nodup_iff.mpr (nd_ddp _)
theorem rounds_pw (b : Int) (n : Nat) : (roundsL b n).Pairwise fun a c => dLe a c = true := sort_pw _
theorem rounds_T {b : Int} {n : Nat} (hb : Base b) (hn : 1 ≤ n ∧ n ≤ 8) {x : PyData} (h : x ∈ roundsL b n) : RowsT x := by
  obtain ⟨r, hr, rfl⟩ := rounds_mem.mp h
  exact circD_rowsT hb (allR_row (by have := hb.1; omega) hn hr)
theorem sort_rounds {b : Int} {n : Nat} (hb : Base b) (hn : 1 ≤ n ∧ n ≤ 8) {xs : List PyData} (nd : xs.Nodup) (hm : ∀ x, x ∈ xs ↔ ∃ r ∈ allR b n, circD b r = x) : xs.mergeSort dLe = roundsL b n := by
  have hT : ∀ x ∈ xs, RowsT x := fun x hx => rounds_T hb hn (rounds_mem.mpr ((hm x).mp hx))
  refine sort_of ((List.perm_ext_iff_of_nodup nd (rounds_nd b n)).mpr fun x => by rw [hm, rounds_mem]) (fun x hx => (hT x hx).ti) (fun x hx y hy => (hT x hx).alike (hT y hy)) (rounds_pw b n)
theorem rounds_is {b : Int} {n : Nat} (hb : Base b) (hn : 1 ≤ n ∧ n ≤ 8) {xs : List PyData} (nd : xs.Nodup) (pw : xs.Pairwise fun a c => dLe a c = true) (hm : ∀ x, x ∈ xs ↔ ∃ r ∈ allR b n, circD b r = x) : roundsL b n = xs := by
  have hT : ∀ x ∈ roundsL b n, RowsT x := fun x hx => rounds_T hb hn hx
  have hp : (roundsL b n).Perm xs := (List.perm_ext_iff_of_nodup (rounds_nd b n) nd).mpr fun x => by rw [hm, rounds_mem]
  refine List.Perm.eq_of_pairwise (le := fun a b => dLe a b = true) (fun x y hx hy h1 h2 => ?_) (rounds_pw b n) pw hp
  exact dle_anti (hT x hx).ti ((hT x hx).alike (hT y (hp.mem_iff.mpr hy))) h1 h2
noncomputable def rdsL (b : Int) (cs : List (List Int × Nat)) : List PyData := cs.map fun c => circD b c.1
theorem AllC.find {b : Int} {n : Nat} {cs : List (List Int × Nat)} {kv : List (List Int × Nat × Nat)} (hb : Base b) (hn : 1 ≤ n ∧ n ≤ 8) (a : AllC b n cs kv) {y : List Int × Nat × Nat} (hy : y ∈ kv) : ∃ c, cs[y.2.1]? = some c ∧ circD b y.1 = circD b c.1 := by
  obtain ⟨c, v1, v2, t, v3⟩ := a.ok.val y hy
  exact ⟨c, v1, circD_meet hb (a.ok.row y hy).1 (a.ok.cyc c (List.mem_of_getElem? v1)).1 v3⟩
theorem AllC.rds_mem {b : Int} {n : Nat} {cs : List (List Int × Nat)} {kv : List (List Int × Nat × Nat)} (hb : Base b) (hn : 1 ≤ n ∧ n ≤ 8) (a : AllC b n cs kv) (x : PyData) : x ∈ rdsL b cs ↔ ∃ r ∈ allR b n, circD b r = x := by
  have b1 : 1 ≤ b := by have := hb.1; omega
  constructor
  · intro h
    obtain ⟨c, hc, rfl⟩ := List.mem_map.mp h
    obtain ⟨h1, h2, _⟩ := a.ok.cyc c hc
    exact ⟨c.1, (allR_mem b1).mpr ⟨h1.2, h2⟩, rfl⟩
  · rintro ⟨r, hr, rfl⟩
    obtain ⟨hd, hl⟩ := (allR_mem b1).mp hr
    have hrow := allR_row b1 hn hr
    obtain ⟨y, hy, ey⟩ := List.mem_map.mp (a.step hd hl)
    obtain ⟨c, h1, h2⟩ := a.find hb hn hy
    refine List.mem_map.mpr ⟨c, List.mem_of_getElem? h1, ?_⟩
    rw [← h2, ey]
    exact (circD_meet (i := 1) (j := 0) hb hrow (hrow.step b1) rfl).symm
theorem AllC.rds_nd {b : Int} {n : Nat} {cs : List (List Int × Nat)} {kv : List (List Int × Nat × Nat)} (hb : Base b) (a : AllC b n cs kv) : (rdsL b cs).Nodup := by
  unfold rdsL List.Nodup
  rw [List.pairwise_map, List.pairwise_iff_getElem]
  intro i j hi hj hij e
  have h1 := a.ok.cyc cs[i] (List.getElem_mem hi)
  have h2 := a.ok.cyc cs[j] (List.getElem_mem hj)
  have := a.ok.dis i j _ _ (List.getElem?_eq_getElem hi) (List.getElem?_eq_getElem hj) (circD_reach hb h1.1 h2.1 ⟨_, h2.2.2.1.pos, h2.2.2.1.per⟩ e)
  omega
theorem AllC.rds_T {b : Int} {n : Nat} {cs : List (List Int × Nat)} {kv : List (List Int × Nat × Nat)} (hb : Base b) (a : AllC b n cs kv) : ∀ d ∈ rdsL b cs, RowsT d := fun d hd => by
  obtain ⟨c, hc, rfl⟩ := List.mem_map.mp hd
  exact circD_rowsT hb (a.ok.cyc c hc).1
theorem AllC.sort {b : Int} {n : Nat} {cs : List (List Int × Nat)} {kv : List (List Int × Nat × Nat)} (hb : Base b) (hn : 1 ≤ n ∧ n ≤ 8) (a : AllC b n cs kv) : (rdsL b cs).mergeSort dLe = roundsL b n := sort_rounds hb hn (a.rds_nd hb) (a.rds_mem hb hn)
end DD

namespace DD
open PySem L2
section
variable {C : Ct} {Ξ : Addr → Prop} {ρ : Rho} {e tg : Expr} {es : List Expr} {pos p : Pos}
theorem de_cbG {Pd : List PyData → Prop} {x : Str} {id : String} {r : List V → Hp → VK → Prop} {P : PyData → Prop} (hc : CallR C.X (.builtin id) r) (hg : Gl C.X x) (hm : C.X.mg x = none) (hv : bootBuiltins x = some (.builtin id)) (ha : DA C Ξ ρ (e :: es) (AllD Pd)) (hr : ∀ ds, Pd ds → RCd r ds P)
    (hn : x ≠ "__name__" := by decide) (hdb : (x == ("__debug__" : Str)) = false := by decide)
    (he : starEach (e :: es) C.X.env = (false, eval e C.X.env) :: starEach es C.X.env := by rfl) (hpl : (backTo pos (starEach es C.X.env)).any (·.1) = false := by rfl) : DE C Ξ ρ (.Call (.Name x p) (e :: es) [] pos) P := fun σ H E Q q z =>
  ⟨_, pe_callB hc hg hm hv pA hn hdb he hpl, ha σ H E _ (fun l vs H2 p g r1 => by
    obtain ⟨ds, rfl, pd⟩ := p
    exact hr ds pd C ρ σ H2 vs Q (E.grow g) r1.ats fun d w H3 pd s rw' => q d w H3 pd (g.trans (Gr.of s)) rw') z⟩
theorem de_sortLP {Pd : List PyData → Prop} {P : PyData → Prop} (hu : C.X.A.units + 100 < cLine) (hg : Gl C.X "sorted") (hm : C.X.mg "sorted" = none) (ha : DE C Ξ ρ e (fun d => ∃ ds, d = .list ds ∧ Pd ds)) (hc : ∀ ds, Pd ds → CanSort ds ∧ P (.list (ds.mergeSort dLe))) (he : starEach [e] C.X.env = (false, eval e C.X.env) :: starEach [] C.X.env := by rfl) (hpl : (backTo pos (starEach [] C.X.env)).any (·.1) = false := by rfl) : DE C Ξ ρ (.Call (.Name "sorted" p) [e] [] pos) P :=
  de_cbG (Pd := fun l => ∃ ds, l = [.list ds] ∧ Pd ds) (cr_sortD hu) hg hm b_sorted (da_consG ha (fun d ⟨ds, e1, pd⟩ => da_nilG ⟨[d], rfl, ds, by rw [e1], pd⟩) he) (fun l ⟨ds, e1, pd⟩ => by
    subst e1
    intro A ρ' σ H vs Q E r k
    exact rc_sortL (hc ds pd).1 A ρ' σ H vs Q E r fun d w H2 ed => k d w H2 (by rw [ed]; exact (hc ds pd).2)) (he := he) (hpl := hpl)
theorem dit_listG {P : List PyData → Prop} (ha : DE C Ξ ρ e (fun d => ∃ ds, d = .list ds ∧ P ds)) : DIt C Ξ ρ tg e P := fun σ H E R k z => ⟨_, pi_list pE, ha σ H E _ (fun d v H2 pd g r => by
  obtain ⟨ds, rfl, pd⟩ := pd
  obtain ⟨a, vs, rfl, h1, h2⟩ := r.ref_list
  exact ⟨a, rfl, ⟨vs, SqL.of (hid_le _ _ h1)⟩, k _ _ _ H2 pd g ⟨vs, h1, h2⟩ yields_list⟩) z⟩
end
def headR : PyData → List Int
  | .list (x :: _) => unT x
  | _ => []
def lenD : PyData → Nat
  | .list xs => xs.length
  | .tuple xs => xs.length
  | _ => 0
theorem circR_cons (b : Int) (m : List Int) {L : Nat} (h : 0 < L) : ∃ ds, circR b m L = tI m :: ds := by
  obtain ⟨k, rfl⟩ : ∃ k, L = k + 1 := ⟨L - 1, by omega⟩
  unfold circR
  rw [List.range_succ_eq_map, List.map_cons]
  exact ⟨_, rfl⟩
theorem head_cirD {b : Int} {c : List Int × Nat} (h : 0 < c.2) : headR (cirD b c) = c.1 := by
  obtain ⟨ds, e⟩ := circR_cons b c.1 h
  unfold cirD
  rw [e]
  exact unT_tI c.1
theorem circR_len (b : Int) (m : List Int) (L : Nat) : (circR b m L).length = L := by unfold circR; rw [List.length_map, List.length_range]
theorem len_cirD (b : Int) (c : List Int × Nat) : lenD (cirD b c) = c.2 := circR_len _ _ _
theorem AllC.heads {b : Int} {n : Nat} {cs : List (List Int × Nat)} {kv : List (List Int × Nat × Nat)} (a : AllC b n cs kv) : (cs.map (cirD b)).map (fun d => circD b (headR d)) = rdsL b cs := by
  unfold rdsL
  rw [List.map_map]
  refine List.map_congr_left fun c hc => ?_
  show circD b (headR (cirD b c)) = circD b c.1
  rw [head_cirD (a.ok.cyc c hc).2.2.1.pos]
theorem cs_at {b : Int} {cs : List (List Int × Nat)} {k : Nat} {d : PyData} (h : (cs.map (cirD b))[k]? = some d) : ∃ c, cs[k]? = some c ∧ d = cirD b c := by
  rw [List.getElem?_map] at h
  cases e : cs[k]? with
  | none => rw [e] at h; cases h
  | some c => rw [e] at h; injection h with h; exact ⟨c, rfl, h.symm⟩
/-- the rows that are their own steps, ascending -/
def fixedL (b : Int) (n : Nat) : List PyData := (((allR b n).filter fun r => decide (stepI b r = r)).map tI).mergeSort dLe
theorem allR_nd {b : Int} (hb : 1 ≤ b) (n : Nat) : (allR b n).Nodup := by
  unfold allR List.Nodup
  rw [List.pairwise_map]
  refine List.Pairwise.imp_of_mem (fun {i j} hi hj hij e => ?_) (List.pairwise_lt_range (n := (b ^ n).toNat))
  have hi := List.mem_range.mp hi
  have hj := List.mem_range.mp hj
  have h1 := numI_wr hb n (i : Int) (by omega) (by omega)
  have h2 := numI_wr hb n (j : Int) (by omega) (by omega)
  rw [e, h2] at h1
  omega
theorem tI_inj {a b : List Int} (h : tI a = tI b) : a = b := by injection h with h; exact iv_inj h
theorem nd_map {α β : Type} {f : α → β} : ∀ {l : List α}, l.Nodup → (∀ x ∈ l, ∀ y ∈ l, f x = f y → x = y) → (l.map f).Nodup := fun {l} h i => by
  unfold List.Nodup
  rw [List.pairwise_map]
  exact List.Pairwise.imp_of_mem (fun {x y} hx hy hxy e => hxy (i x hx y hy e)) h
theorem AllC.fixed {b : Int} {n : Nat} {cs : List (List Int × Nat)} {kv : List (List Int × Nat × Nat)} (hb : Base b) (hn : 1 ≤ n ∧ n ≤ 8) (a : AllC b n cs kv) :
    ((((cs.map (cirD b)).filter fun d => decide (lenD d = 1)).map fun d => tI (headR d)).mergeSort dLe) = fixedL b n ∧ CanSort (((cs.map (cirD b)).filter fun d => decide (lenD d = 1)).map fun d => tI (headR d)) := by
  have b1 : 1 ≤ b := by have := hb.1; omega
  have mem : ∀ x, x ∈ (((cs.map (cirD b)).filter fun d => decide (lenD d = 1)).map fun d => tI (headR d)) ↔ ∃ c ∈ cs, c.2 = 1 ∧ x = tI c.1 := fun x => by
    rw [List.mem_map]
    constructor
    · rintro ⟨d, hd, rfl⟩
      obtain ⟨h1, h2⟩ := List.mem_filter.mp hd
      obtain ⟨c, hc, rfl⟩ := List.mem_map.mp h1
      exact ⟨c, hc, by have := of_decide_eq_true h2; rw [len_cirD] at this; exact this, by rw [head_cirD (a.ok.cyc c hc).2.2.1.pos]⟩
    · rintro ⟨c, hc, h1, rfl⟩
      exact ⟨cirD b c, List.mem_filter.mpr ⟨List.mem_map.mpr ⟨c, hc, rfl⟩, by rw [len_cirD]; exact decide_eq_true h1⟩, by rw [head_cirD (a.ok.cyc c hc).2.2.1.pos]⟩
  have mem2 : ∀ x, x ∈ ((allR b n).filter fun r => decide (stepI b r = r)).map tI ↔ ∃ c ∈ cs, c.2 = 1 ∧ x = tI c.1 := fun x => by
    rw [List.mem_map]
    constructor
    · rintro ⟨r, hr, rfl⟩
      obtain ⟨h1, h2⟩ := List.mem_filter.mp hr
      have h2 := of_decide_eq_true h2
      obtain ⟨hd, hl⟩ := (allR_mem b1).mp h1
      have hrow := allR_row b1 hn h1
      have hfix : ∀ t, orb b r t = r := fun t => by
        induction t with
        | zero => rfl
        | succ t ih => show stepI b (orb b r t) = r; rw [ih, h2]
      obtain ⟨y, hy, ey⟩ := List.mem_map.mp (a.inR hd hl ⟨1, by decide, h2⟩)
      obtain ⟨c, v1, v2⟩ := a.find hb hn hy
      have hc := a.ok.cyc c (List.mem_of_getElem? v1)
      rw [ey] at v2
      obtain ⟨t, ht⟩ := circD_reach hb hrow hc.1 ⟨_, hc.2.2.1.pos, hc.2.2.1.per⟩ v2
      rw [hfix] at ht
      refine ⟨c, List.mem_of_getElem? v1, ?_, by rw [ht]⟩
      have hp := hc.2.2.1.pos
      rcases Nat.lt_or_ge 1 c.2 with q | q
      · exact absurd (by rw [← ht]; exact hfix 1) (hc.2.2.1.low 1 (by decide) q)
      · omega
    · rintro ⟨c, hc, h1, rfl⟩
      obtain ⟨g1, g2, g3, _⟩ := a.ok.cyc c hc
      have := g3.per
      rw [h1] at this
      exact ⟨c.1, List.mem_filter.mpr ⟨(allR_mem b1).mpr ⟨g1.2, g2⟩, decide_eq_true this⟩, rfl⟩
  have nd1 : (((cs.map (cirD b)).filter fun d => decide (lenD d = 1)).map fun d => tI (headR d)).Nodup := by
    rw [List.filter_map, List.map_map]
    have hcs : cs.Nodup := by
      unfold List.Nodup
      rw [List.pairwise_iff_getElem]
      intro i j hi hj hij e
      have := a.ok.dis i j _ _ (List.getElem?_eq_getElem hi) (List.getElem?_eq_getElem hj) ⟨0, by rw [← e]; rfl⟩
      omega
    refine nd_map (hcs.filter _) fun x hx y hy e => ?_
    have hx := List.mem_filter.mp hx
    have hy := List.mem_filter.mp hy
    have lx : x.2 = 1 := by have h : lenD (cirD b x) = 1 := of_decide_eq_true hx.2; rw [len_cirD] at h; exact h
    have ly : y.2 = 1 := by have h : lenD (cirD b y) = 1 := of_decide_eq_true hy.2; rw [len_cirD] at h; exact h
    have e : tI (headR (cirD b x)) = tI (headR (cirD b y)) := e
    rw [head_cirD (by omega), head_cirD (by omega)] at e
    exact Prod.ext (tI_inj e) (by omega)
  have nd2 : (((allR b n).filter fun r => decide (stepI b r = r)).map tI).Nodup := nd_map ((allR_nd b1 n).filter _) fun x _ y _ e => tI_inj e
  have rows : ∀ x ∈ (((cs.map (cirD b)).filter fun d => decide (lenD d = 1)).map fun d => tI (headR d)), ∃ ns, x = tI ns ∧ ns ≠ [] := fun x hx => by
    obtain ⟨c, hc, _, rfl⟩ := (mem x).mp hx
    exact ⟨c.1, rfl, (a.ok.cyc c hc).1.ne⟩
  refine ⟨sort_same ((List.perm_ext_iff_of_nodup nd1 nd2).mpr fun x => by rw [mem, mem2]) (fun x hx => ?_) (fun x hx y hy => ?_), can_rows rows⟩
  · obtain ⟨ns, rfl, _⟩ := rows x hx; exact ti_row ns
  · obtain ⟨ns, rfl, _⟩ := rows x hx
    obtain ⟨ms, rfl, _⟩ := rows y hy
    exact alike_row ns ms
end DD

namespace DD
open PySem L2
/-! ## an own list of ints whose items grow -/
def rGetL : V → V → Hp → VK → Prop := fun o i H Q => ∃ (p : Addr) (xs : List V) (k : Nat) (v : V), o = .ref p ∧ i = .int (k : Int) ∧ H p = some (.lst xs) ∧ xs[k]? = some v ∧ Q v H
theorem get_listN {X : Cx} : PGet X rGetL := by
  intro pins s σ H o i ov iv Q I ro ri h
  obtain ⟨p, xs, k, v, rfl, rfl, hp, hk, q⟩ := h
  obtain rfl : ov = Value.ref p := ro
  obtain ⟨t, rfl⟩ := ri
  obtain ⟨its, rv, pl, hz⟩ := I.list (SqL.of hp)
  obtain ⟨u, hu, ru⟩ := rv.get hk
  have hl := rv.length
  have hk1 := (List.getElem?_eq_some_iff.mp hu).1
  have hn := line63
  exact wpAny_getItem_list pl.isList (by omega) (by omega) (by simpa using hu) ⟨v, H, I, ru, q⟩
section
variable {C : Ct} {ρ : Rho} {e ie b : Expr} {pos : Pos} {F : Out → Prop}
/-- l[k] += v -/
theorem ds_augO (i : Nat) {x : Str} {px tpos : Pos} {q : Addr} {ds : List PyData} {k : Nat} {m j : Int} (h : gt ρ i = .own q ds) (hN : C.X.N[i]? = some x) (hv : Vis C.X.env.scope x) (hk : DEd C (xi F) ρ ie (.int (k : Int))) (hj : DEd C (xi F) ρ e (.int j)) (hm : ds[k]? = some (.int m))
    (kk : F (.nx (ρ.set i (.own q (ds.set k (.int (m + j))))))) (hd : (x == ("__debug__" : Str)) = false := by decide) (hcd : (x == ("__classdict__" : Str)) = false := by decide)
    (ha : ∀ ov iv new, augStore ie ov iv new = (do holding [new, ov, iv] (setItem ov iv new); release [new, ov, iv] []; pure .next) := by intros; rfl) :
    DS C F ρ (.AugAssign (.Subscript (.Name x px) ie tpos) .Add e pos) := fun D σ H E q0 =>
  ⟨_, ps_augS (pe_var hN hv hd hcd) pE get_listN pE ip_add set_list ha, _, (E.own_of h).1, hk σ H E _ (fun d1 v1 H1 p1 g1 r1 => by
    subst p1
    obtain rfl := r1.int_inv
    have E1 := E.grow g1
    obtain ⟨_, o2, o3, xs, h4, h5⟩ := E1.own_of h
    obtain ⟨u, hu, ru⟩ := h5.get hm
    obtain rfl := ru.int_inv
    refine ⟨q, xs, k, _, rfl, rfl, h4, hu, ?_⟩
    refine hj σ H1 E1 _ (fun d2 v2 H2 p2 g2 r2 => ?_) (fun c H2 x g => q0.exE E c H2 x (g1.trans g))
    subst p2
    obtain rfl := r2.int_inv
    have E2 := E1.grow g2
    obtain ⟨_, o4, o5, ys, h6, h7⟩ := E2.own_of h
    have hl := h7.len
    have hkl := (List.getElem?_eq_some_iff.mp hm).1
    refine ⟨m, j, rfl, rfl, q, ys, (k : Int), k, rfl, rfl, h6, ?_, ?_⟩
    · unfold ixN
      rw [if_pos (by omega), if_pos (by omega)]
      rfl
    obtain ⟨E3, ev⟩ := E2.mutO (o := .lst (ys.set k (.int (m + j)))) (sv := .own q (ds.set k (.int (m + j)))) (i := i) (by rw [h]; rfl) rfl o4 o5 (fun φ y => by rw [h6] at y; cases y) fun ev => ⟨rfl, o4, o5, _, upd_same, by rw [ev]; exact h7.set (.int _) k⟩
    exact q0.nx _ _ _ kk E3 (by rw [ev]; exact (vis_gr g1).trans (vis_gr g2))) (q0.exE E)⟩
/-- l = [0] * n -/
theorem ds_newRep (i : Nat) {x : Str} {k : Int} {j : Nat} {p1 p2 p3 pos' : Pos} (hb : DEd C (xi F) ρ b (.int k)) (h0 : 0 ≤ k) (h1 : k ≤ 1000000) (kk : ∀ q, F (.nx (ρ.set i (.own q (List.replicate k.toNat (.int 0)))))) (hN : C.X.N.Nodup) (hi : C.X.N[i]? = some x) (hli : i < ρ.length) (hx : Loc C.X.env.scope x)
    (hs : swapsWith (.BinOp (.List [.Constant (.int 0) j p1] p2) .Mult b p3) (some (.Name x pos')) pos.line C.X.env = pure false := by rfl) (hf : C.X.fn x = true ∨ C.X.env.scope.names.lookup x = some .local := by first | exact .inl rfl | exact .inr rfl) : DS C F ρ (.Assign [.Name x pos'] (.BinOp (.List [.Constant (.int 0) j p1] p2) .Mult b p3) pos) := fun D σ H E q =>
  ⟨_, ps_set hN hi hx (pe_op op_rep (pe_lst (pa_cons pe_int pa_nil)) pE) hs hf, by decide, fun l hl => by
    have g0 : Gr C.U H (upd H l (.lst [.int 0])) := Gr.of (same_new hl)
    refine hb σ _ (E.grow g0) _ (fun d v H2 pd g r => ?_) (fun c H2 x g => q.exE E c H2 x (g0.trans g))
    subst pd
    obtain rfl := r.int_inv
    have E2 := (E.grow g0).grow g
    have hl2 : H2 l = some (.lst [.int 0]) := g.keep l _ (O_U (E.new hl)) upd_same
    refine ⟨l, k, [.int 0], rfl, rfl, hl2, by omega, by omega, by rw [sizeLine_eq]; show 1 * k.toNat ≤ _; omega, fun p hp => ?_⟩
    have er : (List.replicate k.toNat [V.int 0]).flatten = List.replicate k.toNat (V.int 0) := by
      induction k.toNat with
      | zero => rfl
      | succ n ih => rw [List.replicate_succ, List.flatten_cons, ih, List.replicate_succ]; rfl
    rw [er]
    obtain ⟨E3, s3⟩ := E2.fresh (o := .lst (List.replicate k.toNat (.int 0))) (sv := .own p (List.replicate k.toNat (.int 0))) (i := i) hp rfl hli fun o1 o2 => ⟨rfl, o1, o2, _, upd_same, by
      have : ∀ (Hv : Hp) (n : Nat), AtAll Hv (List.replicate n (V.int 0)) (List.replicate n (PyData.int 0)) := fun Hv n => by
        induction n with
        | zero => exact .nil
        | succ n ih => rw [List.replicate_succ, List.replicate_succ]; exact .cons (.int _) ih
      exact this _ _⟩
    exact q.nx _ _ _ (kk p) E3 (((vis_gr g0).trans (vis_gr g)).trans s3)⟩
end
/-! ## enumerate of a list -/
def enumD (ds : List PyData) : List PyData := (List.range ds.length).map fun (i : Nat) => .tuple [.int (i : Int), ds.getD i .none]
theorem enumD_len (ds : List PyData) : (enumD ds).length = ds.length := by unfold enumD; rw [List.length_map, List.length_range]
theorem enumD_at {ds : List PyData} {k : Nat} {d : PyData} (h : (enumD ds)[k]? = some d) : ∃ x, ds[k]? = some x ∧ d = .tuple [.int (k : Int), x] := by
  have h1 := (List.getElem?_eq_some_iff.mp h).1
  rw [enumD_len] at h1
  unfold enumD at h
  rw [List.getElem?_map, List.getElem?_range h1] at h
  injection h with h
  refine ⟨ds[k], List.getElem?_eq_getElem h1, ?_⟩
  rw [← h]
  show PyData.tuple [.int (k : Int), ds.getD k .none] = _
  rw [List.getD_eq_getElem?_getD, List.getElem?_eq_getElem h1]
  rfl
theorem yields_enum {K : PySem.W.Frag} {a : Addr} {ds : List PyData} : Yields (Ite K a) (enumD ds) (fun Hv => ∃ xs, Hv a = some (.lst xs) ∧ AtAll Hv xs ds) where
  mono := fun Hv Hv' s ⟨xs, h1, h2⟩ => ⟨xs, s _ _ h1, h2.up s⟩
  go := fun O H k ⟨xs, h1, h2⟩ hk => by
    rw [enumD_len] at hk
    obtain ⟨v, h3, _⟩ := h2.get (List.getElem?_eq_getElem hk)
    exact ⟨xs, v, SqL.of (hid_le _ _ h1), h3⟩
  yld := fun O H k v H' hO ⟨xs, h1, h2⟩ hk y => by
    rw [enumD_len] at hk
    obtain ⟨T, x, rfl, hT, rfl, y⟩ := y
    obtain ⟨d, h3, h4⟩ := h2.get' (y xs (SqL.of (hid_le _ _ h1)))
    have sm : Same H (upd H T (.tup [.int (k : Nat), x])) := same_new hT
    have hOT : O T = false := by
      cases e : O T with
      | false => rfl
      | true => exact absurd hT (hO T e)
    refine ⟨sm, .tuple [.int (k : Int), d], ?_, .tup ((hid_at hOT).trans upd_same) (.cons (.int _) (.cons (h4.up (hid_mono fun a o e1 e2 => ⟨e1, sm a o e2⟩)) .nil))⟩
    unfold enumD
    rw [List.getElem?_map, List.getElem?_range hk]
    show some (PyData.tuple [.int (k : Int), ds.getD k .none]) = _
    rw [List.getD_eq_getElem?_getD, h3]
    rfl
  stop := fun O H k ⟨xs, h1, h2⟩ hk => ⟨xs, SqL.of (hid_le _ _ h1), by rw [enumD_len] at hk; rw [h2.len]; exact hk⟩
theorem dit_enum {C : Ct} {Ξ : Addr → Prop} {ρ : Rho} {e : Expr} {elts : List Expr} {kk : Nat} {tpos p pos : Pos} {ds : List PyData} (hg : Gl C.X "enumerate") (hm : C.X.mg "enumerate" = none) (ha : DEd C Ξ ρ e (.list ds)) (hs : starEach [e] C.X.env = [(false, eval e C.X.env)] := by rfl) : DItd C Ξ ρ (.Tuple elts kk tpos) (.Call (.Name "enumerate" p) [e] [] pos) (enumD ds) := fun σ H E R k z =>
  ⟨_, pi_enum hg hm (pa_cons pE pa_nil hs) hs, ha σ H E _ (fun d v H2 pd g r => by
    subst pd
    obtain ⟨a, vs, rfl, h1, h2⟩ := r.ref_list
    exact ⟨a, vs, rfl, SqL.of (hid_le _ _ h1), k _ _ _ H2 rfl g ⟨vs, h1, h2⟩ yields_enum⟩) z⟩
end DD

namespace DD
open PySem L2
/-! ## how many rows come to each round -/
mutual
theorem eqv_ti : ∀ x y : PyData, ti x = true → ti y = true → PyData.eqv x y = true → x = y
  | .int i, y, _, h, e => by
    cases y with
    | int j => rw [eqvI] at e; rw [of_decide_eq_true e]
    | tuple ys => simp [PyData.eqv] at e
    | _ => simp [ti] at h
  | .tuple xs, y, t, h, e => by
    cases y with
    | int j => simp [PyData.eqv] at e
    | tuple ys =>
      rw [PyData.eqv] at e
      rw [ti] at t h
      rw [eqvA_ti xs ys t h e]
    | _ => simp [ti] at h
  | .none, _, t, _, _ => by simp [ti] at t
  | .bool _, _, t, _, _ => by simp [ti] at t
  | .str _, _, t, _, _ => by simp [ti] at t
  | .list _, _, t, _, _ => by simp [ti] at t
  | .dict _, _, t, _, _ => by simp [ti] at t
theorem eqvA_ti : ∀ xs ys : List PyData, tis xs = true → tis ys = true → PyData.eqvAll xs ys = true → xs = ys
  | [], [], _, _, _ => rfl
  | [], y :: ys, _, _, e => by simp [PyData.eqvAll] at e
  | x :: xs, [], _, _, e => by simp [PyData.eqvAll] at e
  | x :: xs, y :: ys, t, h, e => by
    rw [PyData.eqvAll, Bool.and_eq_true] at e
    rw [tis, Bool.and_eq_true] at t h
    rw [eqv_ti x y t.1 h.1 e.1, eqvA_ti xs ys t.2 h.2 e.2]
end
noncomputable def cntT (b : Int) (x : PyData) (l : List (List Int × Int)) : Int := open Classical in ((l.filter fun z => decide (circD b z.1 = x)).map (·.2)).sum
theorem cntT_snoc (b : Int) (x : PyData) (l : List (List Int × Int)) (z : List Int × Int) : cntT b x (l ++ [z]) = (open Classical in if circD b z.1 = x then cntT b x l + z.2 else cntT b x l) := by
  unfold cntT
  rw [List.filter_append, List.map_append, List.sum_append]
  split
  · rename_i h
    rw [List.filter_cons_of_pos (by simpa using h)]
    simp
  · rename_i h
    rw [List.filter_cons_of_neg (by simpa using h)]
    simp
noncomputable def cntR (b : Int) (n : Nat) (x : PyData) : Int := cntT b x (falN b n)
noncomputable def prD (b : Int) (n : Nat) (x : PyData) : PyData := .tuple [x, .int (cntR b n x)]
theorem ti_pr {b : Int} {n : Nat} {x : PyData} (h : ti x = true) : ti (prD b n x) = true := by
  unfold prD
  rw [ti, tis, tis, tis, h, ti]
  rfl
theorem alike_pr {b : Int} {n : Nat} {x y : PyData} (h : PySem.W.alike x y = true) : PySem.W.alike (prD b n x) (prD b n y) = true := by
  unfold prD
  rw [PySem.W.alike, PySem.W.alikeAll, PySem.W.alikeAll, PySem.W.alikeAll, PySem.W.alike, h]
  rfl
theorem can_prs {b : Int} {n : Nat} {xs : List PyData} (h : ∀ x ∈ xs, RowsT x) : CanSort (xs.map (prD b n)) where
  al := fun d hd d' hd' => by
    obtain ⟨x, hx, rfl⟩ := List.mem_map.mp hd
    obtain ⟨y, hy, rfl⟩ := List.mem_map.mp hd'
    exact alike_pr ((h x hx).alike (h y hy))
  so := .inl fun d hd => by
    obtain ⟨x, hx, rfl⟩ := List.mem_map.mp hd
    exact ⟨_, _, rfl⟩
  lf := lfs_all fun d hd => by
    obtain ⟨x, hx, rfl⟩ := List.mem_map.mp hd
    have e : lf (.int (cntR b n x)) = true := rfl
    have e2 : lf (.tuple [x, .int (cntR b n x)]) = lfs [x, .int (cntR b n x)] := by rw [lf]
    show lf (.tuple [x, .int (cntR b n x)]) = true
    rw [e2, lfs, lfs, lfs, (h x hx).lf, e]
    rfl
  dp := fun d hd => by
    obtain ⟨x, hx, rfl⟩ := List.mem_map.mp hd
    have := (h x hx).dp
    have e : (PyData.int (cntR b n x)).depth = 0 := by simp [PyData.depth]
    unfold prD
    have e2 : (PyData.tuple [x, PyData.int (cntR b n x)]).depth = PyData.depthAll [x, PyData.int (cntR b n x)] + 1 := by rw [PyData.depth]
    rw [e2, PyData.depthAll, PyData.depthAll, PyData.depthAll, e]
    omega
theorem sort_prs {b : Int} {n : Nat} {xs : List PyData} (h : ∀ x ∈ xs, RowsT x) (nd : xs.Nodup) : (xs.map (prD b n)).mergeSort dLe = (xs.mergeSort dLe).map (prD b n) := by
  have hm : ∀ x, x ∈ xs.mergeSort dLe → RowsT x := fun x hx => h x (sort_mem.mp hx)
  refine sort_of ((List.mergeSort_perm xs dLe).symm.map _) (fun d hd => ?_) (fun d hd d' hd' => ?_) ?_
  · obtain ⟨x, hx, rfl⟩ := List.mem_map.mp hd
    exact ti_pr (h x hx).ti
  · obtain ⟨x, hx, rfl⟩ := List.mem_map.mp hd
    obtain ⟨y, hy, rfl⟩ := List.mem_map.mp hd'
    exact alike_pr ((h x hx).alike (h y hy))
  · rw [List.pairwise_map]
    have nd2 : (xs.mergeSort dLe).Nodup := (List.mergeSort_perm xs dLe).nodup_iff.mpr nd
    refine List.Pairwise.imp_of_mem (fun {x y} hx hy hxy => ?_) ((sort_pw xs).and nd2)
    have hx := hm x hx
    have hy := hm y hy
    have hne : PyData.eqv y x = false := by
      cases e : PyData.eqv y x with
      | false => rfl
      | true => exact absurd (eqv_ti y x hy.ti hx.ti e).symm hxy.2
    have := hxy.1
    rw [dLe_eq] at this ⊢
    unfold prD
    rw [PySem.W.dataLt_tuple, PySem.W.dataLt_all_no (hy.alike hx) hne]
    exact this
theorem rds_len (b : Int) (cs : List (List Int × Nat)) : (rdsL b cs).length = cs.length := List.length_map ..
theorem rds_at {b : Int} {cs : List (List Int × Nat)} {i : Nat} {c : List Int × Nat} (h : cs[i]? = some c) : (rdsL b cs)[i]? = some (circD b c.1) := by unfold rdsL; rw [List.getElem?_map, h]; rfl
/-- the counts while the rows are gone through -/
noncomputable def cntsD (b : Int) (cs : List (List Int × Nat)) (l : List (List Int × Int)) : List PyData := (rdsL b cs).map fun x => .int (cntT b x l)
theorem cnts_nil (b : Int) (cs : List (List Int × Nat)) : cntsD b cs [] = List.replicate cs.length (.int 0) := by
  unfold cntsD
  rw [← rds_len b cs]
  generalize rdsL b cs = xs
  induction xs with
  | nil => rfl
  | cons x xs ih =>
    rw [List.map_cons, ih, List.length_cons, List.replicate_succ]
    rfl
theorem cnts_step {b : Int} {n : Nat} {cs : List (List Int × Nat)} {kv : List (List Int × Nat × Nat)} (hb : Base b) (a : AllC b n cs kv) {l : List (List Int × Int)} {z : List Int × Int} {i : Nat} {c : List Int × Nat} (hc : cs[i]? = some c) (e : circD b z.1 = circD b c.1) :
    (cntsD b cs l).set i (.int (cntT b (circD b c.1) l + z.2)) = cntsD b cs (l ++ [z]) := by
  have nd := a.rds_nd hb
  apply List.ext_getElem?
  intro j
  unfold cntsD
  rw [List.getElem?_set, List.length_map]
  have hi := rds_at (b := b) hc
  have hil := (List.getElem?_eq_some_iff.mp hi).1
  by_cases hij : i = j
  · subst hij
    rw [if_pos rfl, if_pos hil, List.getElem?_map, hi]
    show _ = some (PyData.int (cntT b (circD b c.1) (l ++ [z])))
    rw [cntT_snoc, if_pos e]
  · rw [if_neg hij, List.getElem?_map, List.getElem?_map]
    cases hj : (rdsL b cs)[j]? with
    | none => rfl
    | some x =>
      show some (PyData.int (cntT b x l)) = some (PyData.int (cntT b x (l ++ [z])))
      rw [cntT_snoc, if_neg]
      intro ex
      apply hij
      obtain ⟨k1, h1⟩ := List.getElem?_eq_some_iff.mp hi
      obtain ⟨k2, h2⟩ := List.getElem?_eq_some_iff.mp hj
      have eq : (rdsL b cs)[i] = (rdsL b cs)[j] := by rw [h1, h2, ← ex, e]
      rcases Nat.lt_trichotomy i j with q | q | q
      · exact absurd eq (List.pairwise_iff_getElem.mp nd i j k1 k2 q)
      · exact q
      · exact absurd eq.symm (List.pairwise_iff_getElem.mp nd j i k2 k1 q)
end DD

namespace DD
open PySem L2
/-! ## rows of one digit -/
theorem row_single {b d : Int} (h0 : 0 ≤ d) (h1 : d < b) : Row b [d] := ⟨by simp, fun n hn => by rw [List.mem_singleton.mp hn]; exact ⟨h0, h1⟩⟩
theorem orb_zero1 (b : Int) : ∀ t, orb b [0] t = [0]
  | 0 => rfl
  | t + 1 => by show stepI b (orb b [0] t) = [0]; rw [orb_zero1 b t, step_single]
theorem circ_fix {b : Int} {r z : List Int} {i : Nat} (h : orb b r i = z) (hz : stepI b z = z) : Circ b r z 1 := by
  have hf : ∀ t, orb b z t = z := fun t => by
    induction t with
    | zero => rfl
    | succ t ih => show stepI b (orb b z t) = z; rw [ih, hz]
  exact ⟨⟨i, h⟩, by decide, hf 1, fun t h1 h2 => by omega, fun t => by rw [hf]; exact PyProof.Rows.lex_irrefl _⟩
theorem circD_fix {b : Int} {r z : List Int} {i : Nat} (h : orb b r i = z) (hz : stepI b z = z) : circD b r = .tuple [tI z] := by
  rw [circD_eq (circ_fix h hz)]
  rfl
theorem circ_single (b d : Int) : circD b [d] = .tuple [tI [0]] := circD_fix (i := 1) (step_single b d) (step_single b 0)
theorem crs_single2 {b d : Int} (hb : Base b) (h0 : 0 ≤ d) (h1 : d < b) : crs b [d] = if d = 0 then (1, 0) else (2, 1) := by
  have hr := row_single h0 h1
  split
  · rename_i e
    subst e
    obtain ⟨e1, e2⟩ := crs_uniq hb hr (n := 1) (j := 0) ⟨fun i j hij hj => by omega, by decide, step_single b 0⟩
    exact Prod.ext e1.symm e2.symm
  · rename_i e
    obtain ⟨e1, e2⟩ := crs_uniq hb hr (n := 2) (j := 1) ⟨fun i j hij hj => by
      have : i = 0 := by omega
      have : j = 1 := by omega
      subst i; subst j
      show [d] ≠ stepI b [d]
      rw [step_single]
      intro q; injection q with q; exact e q, by decide, by
      show stepI b (stepI b [d]) = stepI b [d]
      rw [step_single, step_single]⟩
    exact Prod.ext e1.symm e2.symm
theorem fate_single {b d : Int} (hb : Base b) (h0 : 0 ≤ d) (h1 : d < b) : fateD b [d] = .tuple [.int (if d = 0 then 0 else 1), .int 1] := by
  unfold fateD
  rw [crs_single2 hb h0 h1]
  split <;> rfl
theorem rounds_one {b : Int} (hb : Base b) : roundsL b 1 = [.tuple [tI [0]]] := by
  have b1 : 1 ≤ b := by have := hb.1; omega
  refine rounds_is hb ⟨by decide, by decide⟩ (List.nodup_cons.mpr ⟨by simp, List.Pairwise.nil⟩) (List.pairwise_singleton _ _) fun x => ?_
  rw [List.mem_singleton]
  constructor
  · rintro rfl
    exact ⟨[0], (allR_mem b1).mpr ⟨(row_single (by decide) (by omega)).2, rfl⟩, circ_single b 0⟩
  · rintro ⟨r, hr, rfl⟩
    obtain ⟨_, h2⟩ := (allR_mem b1).mp hr
    match r, h2 with
    | [d], _ => exact circ_single b d
theorem cntT_eq {b : Int} {x : PyData} {p : List Int × Int → Bool} : ∀ {l : List (List Int × Int)}, (∀ z ∈ l, circD b z.1 = x ↔ p z = true) → cntT b x l = ((l.filter p).map (·.2)).sum := fun {l} h => by
  unfold cntT
  congr 2
  refine List.filter_congr fun z hz => ?_
  rw [Bool.eq_iff_iff]
  exact (@decide_eq_true_iff _ (Classical.propDecidable _)).trans (h z hz)
theorem sum_le {p : List Int × Int → Bool} : ∀ {l : List (List Int × Int)} {q : List Int × Int → Bool}, (∀ z ∈ l, p z = true → q z = true) → (∀ z ∈ l, 0 ≤ z.2) → ((l.filter p).map (·.2)).sum ≤ ((l.filter q).map (·.2)).sum
  | [], _, _, _ => Int.le_refl _
  | z :: l, q, h, hp => by
    have ih := sum_le (l := l) (q := q) (fun y hy => h y (List.mem_cons_of_mem _ hy)) fun y hy => hp y (List.mem_cons_of_mem _ hy)
    have h0 := hp z List.mem_cons_self
    cases e : p z with
    | true =>
      rw [List.filter_cons_of_pos e, List.filter_cons_of_pos (h z List.mem_cons_self e), List.map_cons, List.map_cons, List.sum_cons, List.sum_cons]
      omega
    | false =>
      rw [List.filter_cons_of_neg (by rw [e]; decide)]
      cases e2 : q z with
      | true => rw [List.filter_cons_of_pos e2, List.map_cons, List.sum_cons]; omega
      | false => rw [List.filter_cons_of_neg (by rw [e2]; decide)]; exact ih
theorem falN_nn {b : Int} : ∀ {k : Nat} {z : List Int × Int}, z ∈ falN b k → 0 ≤ z.2
  | 0, z, h => by rw [List.mem_singleton.mp h]; exact (by decide : (0 : Int) ≤ 1)
  | k + 1, z, h => by
    obtain ⟨y, hy, hz⟩ := List.mem_flatMap.mp h
    have := falN_nn hy
    unfold extF at hz
    obtain ⟨d, _, rfl⟩ := List.mem_map.mp hz
    exact Int.ediv_nonneg (Int.mul_nonneg this (by omega)) (by omega)
theorem cntT_ge {b : Int} {x : PyData} {p : List Int × Int → Bool} {n : Nat} (h : ∀ z ∈ falN b n, p z = true → circD b z.1 = x) : (((falN b n).filter p).map (·.2)).sum ≤ cntR b n x := by
  unfold cntR
  rw [cntT_eq (p := fun z => @decide (circD b z.1 = x) (Classical.propDecidable _)) (fun z _ => (@decide_eq_true_iff _ (Classical.propDecidable _)).symm)]
  exact sum_le (fun z hz e => @decide_eq_true _ (Classical.propDecidable _) (h z hz e)) fun z hz => falN_nn hz
def LB : List Int := [2, 3, 4, 5, 7, 10, 11, 12]
theorem sum_one : ∀ b ∈ LB, ((falN b 1).map (·.2)).sum = b := by decide +kernel
theorem sum_two : ∀ b ∈ LB, (((falN b 2).filter fun z => decide (z.1.getD 0 0 = z.1.getD 1 0)).map (·.2)).sum = b := by decide +kernel
theorem cnt_one {b : Int} (h : b ∈ LB) : cntR b 1 (.tuple [tI [0]]) = b := by
  unfold cntR
  rw [cntT_eq (p := fun _ => true) fun z hz => ?_]
  · rw [List.filter_eq_self.mpr (fun _ _ => rfl)]
    exact sum_one b h
  · have := (fal_ok hz).len
    match hz1 : z.1, this with
    | [d], _ => exact ⟨fun _ => rfl, fun _ => circ_single b d⟩
/-! ## rows of two digits -/
theorem srt_two (x y : Int) : srtI [x, y] = if x ≤ y then [x, y] else [y, x] := by
  rw [srt_isrt]
  show insI x [y] = _
  show (if x ≤ y then x :: y :: [] else y :: insI x []) = _
  rfl
def gap2 (x y : Int) : Int := if x - y < 0 then -(x - y) else x - y
theorem val_two (b x y : Int) : numI b (falI [x, y]) - numI b (srtI [x, y]) = gap2 x y * (b - 1) := by
  unfold falI gap2
  rw [srt_two]
  split
  · rename_i h
    show (0 * b + y) * b + x - ((0 * b + x) * b + y) = _
    rw [Int.zero_mul, Int.zero_add, Int.zero_add]
    have : (if x - y < 0 then -(x - y) else x - y) = y - x := by split <;> omega
    rw [this, Int.mul_sub, Int.sub_mul]
    omega
  · rename_i h
    show (0 * b + x) * b + y - ((0 * b + y) * b + x) = _
    rw [Int.zero_mul, Int.zero_add, Int.zero_add]
    have : (if x - y < 0 then -(x - y) else x - y) = x - y := by split <;> omega
    rw [this, Int.mul_sub, Int.sub_mul]
    omega
theorem wr_two (b n : Int) : wrI b 2 n [] = [n / b % b, n % b] := rfl
theorem step_two {b x y : Int} (hx : 0 ≤ x ∧ x < b) (hy : 0 ≤ y ∧ y < b) : stepI b [x, y] = if 0 < gap2 x y then [gap2 x y - 1, b - gap2 x y] else [0, 0] := by
  have hg : 0 ≤ gap2 x y ∧ gap2 x y < b := by unfold gap2; split <;> omega
  unfold stepI
  rw [val_two]
  show wrI b 2 _ [] = _
  rw [wr_two]
  have hb0 : b ≠ 0 := by omega
  split
  · rename_i h
    have e : gap2 x y * (b - 1) = (b - gap2 x y) + (gap2 x y - 1) * b := by rw [Int.mul_sub, Int.sub_mul]; omega
    have h1 : gap2 x y * (b - 1) % b = b - gap2 x y := by
      rw [e, Int.add_mul_emod_self_right]; exact Int.emod_eq_of_lt (by omega) (by omega)
    have h2 : gap2 x y * (b - 1) / b = gap2 x y - 1 := by
      rw [e, Int.add_mul_ediv_right _ _ hb0, Int.ediv_eq_zero_of_lt (by omega) (by omega), Int.zero_add]
    rw [h1, h2, Int.emod_eq_of_lt (by omega) (by omega)]
  · have h : gap2 x y = 0 := by omega
    rw [h, Int.zero_mul]
    simp
theorem gaps_two (x y : Int) : gapI [x, y] = [gap2 x y] := by
  have e : gapI [x, y] = [gapAt (srtI [x, y]) 0] := by unfold gapI; rw [show [x, y].length / 2 = 1 by simp]; rfl
  rw [e, srt_two]
  unfold gap2
  split
  · show [y - x] = _
    congr 1
    split <;> omega
  · show [x - y] = _
    congr 1
    split <;> omega
theorem spread_two (x y : Int) : maxI [x, y] - minI [x, y] = gap2 x y := by
  show max x y - min x y = _
  unfold gap2
  split <;> omega
theorem orb_two {b x y : Int} (he : b % 2 = 0) (hx : 0 ≤ x ∧ x < b) (hy : 0 ≤ y ∧ y < b) (h : 0 < gap2 x y) : ∀ t, ∃ u v, orb b [x, y] t = [u, v] ∧ (0 ≤ u ∧ u < b) ∧ (0 ≤ v ∧ v < b) ∧ 0 < gap2 u v
  | 0 => ⟨x, y, rfl, hx, hy, h⟩
  | t + 1 => by
    obtain ⟨u, v, e, hu, hv, hg⟩ := orb_two he hx hy h t
    have hg2 : gap2 u v < b := by unfold gap2; split <;> omega
    refine ⟨gap2 u v - 1, b - gap2 u v, ?_, by omega, by omega, ?_⟩
    · show stepI b (orb b [x, y] t) = _
      rw [e, step_two hu hv, if_pos hg]
    · generalize gap2 u v = g at *
      unfold gap2
      split <;> omega
theorem dataLt_zero : ∀ {r : List Int} {n : Nat}, r.length = n → (∀ x ∈ r, 0 ≤ x) → PySem.W.dataLt (tI r) (tI (List.replicate n 0)) = false
  | [], 0, _, _ => PyProof.Rows.lex_irrefl _
  | [], n + 1, h, _ => by cases h
  | x :: r, 0, h, _ => by cases h
  | x :: r, n + 1, h, hp => by
    have ih := dataLt_zero (r := r) (n := n) (by simpa using h) fun y hy => hp y (List.mem_cons_of_mem _ hy)
    have hx := hp x List.mem_cons_self
    rw [List.replicate_succ]
    unfold tI at ih ⊢
    rw [PySem.W.dataLt_tuple] at ih ⊢
    show PyProof.Rows.lexLt PyProof.Rows.itemOrd (PySem.W.keyToksAll (.int x :: iv r)) (PySem.W.keyToksAll (.int 0 :: iv (List.replicate n 0))) = false
    have al : PySem.W.alike (.int x) (.int 0) = true := by rw [PySem.W.alike]
    cases e : PyData.eqv (.int x) (.int 0) with
    | true => rw [PySem.W.dataLt_all_yes al e]; exact ih
    | false =>
      rw [PySem.W.dataLt_all_no al e, PySem.W.dataLt_int]
      exact decide_eq_false (by omega)
theorem step_zero {b : Int} (hb : 1 ≤ b) (n : Nat) : stepI b (List.replicate n 0) = List.replicate n 0 := by
  have e : srtI (List.replicate n 0) = List.replicate n 0 := srt_id (by
    rw [List.pairwise_replicate]
    exact .inr (Int.le_refl _))
  unfold stepI falI
  rw [e, List.reverse_replicate, Int.sub_self, List.length_replicate]
  have h := wr_num (b := b) (List.replicate n 0) fun x hx => by rw [List.eq_of_mem_replicate hx]; omega
  rw [List.length_replicate, num_zero] at h
  exact h
/-- the round of zeros stands first -/
theorem rounds_first {b : Int} {n : Nat} (hb : Base b) (hn : 1 ≤ n ∧ n ≤ 8) : ∃ rest, roundsL b n = .tuple [tI (List.replicate n 0)] :: rest := by
  have b1 : 1 ≤ b := by have := hb.1; omega
  have hz : PyData.tuple [tI (List.replicate n 0)] ∈ roundsL b n := rounds_mem.mpr ⟨List.replicate n 0, (allR_mem b1).mpr ⟨fun x hx => by rw [List.eq_of_mem_replicate hx]; omega, List.length_replicate⟩, circD_fix (i := 0) rfl (step_zero b1 n)⟩
  cases e : roundsL b n with
  | nil => rw [e] at hz; cases hz
  | cons x rest =>
    refine ⟨rest, ?_⟩
    have hx : x ∈ roundsL b n := by rw [e]; exact List.mem_cons_self
    have hT := rounds_T hb hn hx
    have hT0 := rounds_T hb hn hz
    have h1 : dLe x (.tuple [tI (List.replicate n 0)]) = true := by
      rw [e] at hz
      rcases List.mem_cons.mp hz with q | q
      · rw [q]; have := dle_total x x; simpa using this
      · have := rounds_pw b n
        rw [e] at this
        exact (List.pairwise_cons.mp this).1 _ q
    have h2 : dLe (.tuple [tI (List.replicate n 0)]) x = true := by
      obtain ⟨r, hr, rfl⟩ := rounds_mem.mp hx
      obtain ⟨m, L, c, ec⟩ := circ_len hb (allR_row b1 hn hr)
      obtain ⟨ds, ed⟩ := circR_cons b m c.pos
      obtain ⟨i, hi⟩ := c.at_
      have hml : m.length = n := by rw [← hi, orb_len]; exact ((allR_mem b1).mp hr).2
      have hmd : Dg b m := by rw [← hi]; exact (orb_row b1 (allR_row b1 hn hr) i).2
      rw [ec, ed, dLe_eq, Bool.not_eq_true', PySem.W.dataLt_tuple]
      cases q : PyData.eqv (tI m) (tI (List.replicate n 0)) with
      | true =>
        rw [PySem.W.dataLt_all_yes (alike_row _ _) q]
        cases ds with
        | nil => exact PyProof.Rows.lex_irrefl _
        | cons y ys =>
          rw [PySem.W.keyToksAll, PySem.W.keyToksAll, PySem.W.lex_atom (by simp)]
          rw [PySem.W.lex_one]
          rfl
      | false =>
        rw [PySem.W.dataLt_all_no (alike_row _ _) q]
        exact dataLt_zero hml fun y hy => (hmd y hy).1
    rw [dle_anti hT.ti (hT.alike hT0) h1 h2]
end DD

namespace DD
open PySem L2
/-! ## sum of a tuple of ints -/
theorem pre_take (ns : List Int) : ∀ j, preSum (fun i => ns.getD i 0) j = (ns.take j).sum
  | 0 => by rw [List.take_zero]; rfl
  | j + 1 => by
    rw [preSum, pre_take ns j, List.take_succ, List.sum_append, List.getD_eq_getElem?_getD]
    cases ns[j]? <;> simp
def rSumT (K : PySem.W.Frag) : List V → Hp → VK → Prop := fun vs H Q => ∃ (a : Addr) (ns : List Int), vs = [V.ref a] ∧ SqT K H a (ns.map V.int) ∧ Q (.int ns.sum) H
theorem cr_sumT {X : Cx} (hc : X.calm = true) : CallR X (.builtin "sum") (rSumT X.K) := by
  intro pins s σ H vs us Q I r ⟨a, ns, e, hs, q⟩
  subst e
  rw [Vals.ref1 r]
  obtain ⟨its, rv, tp, _⟩ := I.tuple hs
  have hlt : a < s.heap.objs.size := by obtain ⟨_, g, _⟩ := tp; exact Heap.lt_size g
  have hl := rv.length
  rw [List.length_map] at hl
  refine call_sum_walkG (wpAny_pyIter_tuple (show s.heap.IsTuple a its.toArray from tp) ?_)
  refine ⟨s.heap.objs.size, _, _, _, _, _, fun i => ns.getD i 0, rfl, Walks.tuple (A := X.A.in1) (I.ok.hd hc) _ a (Nat.ne_of_lt hlt) its.toArray, ⟨⟨_, Heap.get?_push_size _ rfl, rfl, rfl⟩, by
      obtain ⟨ob, g, g2⟩ := tp
      exact ⟨ob, Heap.get?_push_of_some _ g, g2⟩⟩, fun b hb => ?_, fun i v hv => ?_, fun h' tk t' hk => ?_⟩
  · show b < (Heap.push s.heap _).objs.size
    rw [Heap.size_push]
    rcases List.mem_cons.mp hb with e | hb
    · rw [e]; exact Nat.lt_succ_self _
    · rw [List.mem_singleton.mp hb]; exact Nat.lt_succ_of_lt hlt
  · have hv : its[i]? = some v := by simpa using hv
    have hi := (List.getElem?_eq_some_iff.mp hv).1
    obtain ⟨u, hu, ru⟩ := rv.get (i := i) (x := .int (ns.getD i 0)) (by rw [List.getElem?_map, List.getElem?_eq_getElem (by omega), List.getD_eq_getElem?_getD, List.getElem?_eq_getElem (by omega)]; rfl)
    rw [hv] at hu
    cases hu
    exact ru
  · rw [pre_take, List.size_toArray, ← hl, List.take_length]
    refine ⟨.int ns.sum, H, I.kept fun b o e => hk b o (fun z => ?_) (Heap.get?_push_of_some _ e), ⟨_, rfl⟩, q⟩
    rw [List.mem_singleton.mp z] at e
    exact absurd (Heap.lt_size e) (Nat.lt_irrefl _)
theorem atI_head {α : Type} (x : α) (l : List α) : atI (x :: l) 0 = some x := atI_pos (k := 0) rfl
theorem rc_sumT {K : PySem.W.Frag} {ns : List Int} : RCd (rSumT K) [tI ns] (fun d => d = .int ns.sum) := fun A ρ σ H vs Q E r k => by
  obtain ⟨v, rfl, r1⟩ := r.one
  obtain ⟨a, xs, rfl, h1, h2⟩ := r1.ref_tup
  rw [h2.ints] at h1
  exact ⟨a, ns, rfl, SqT.of (hid_le _ _ h1), k _ _ H rfl (Same.refl _) (.int _)⟩
theorem de_sumT {C : Ct} {Ξ : Addr → Prop} {ρ : Rho} {e : Expr} {pos p : Pos} {ns : List Int} (hg : Gl C.X "sum") (hm : C.X.mg "sum" = none) (ha : DEd C Ξ ρ e (tI ns)) (hcalm : C.X.calm = true := by rfl) (he : starEach [e] C.X.env = (false, eval e C.X.env) :: starEach [] C.X.env := by rfl) : DEd C Ξ ρ (.Call (.Name "sum" p) [e] [] pos) (.int ns.sum) :=
  de_cb (cr_sumT hcalm) hg hm b_sum (da_cons ha da_nil he) rc_sumT (he := he)
end DD

namespace DD
open PySem L2
/-! ## rows of three digits -/
def stepC (b : Int) (r : List Int) : List Int := wrI b r.length (numI b (isrt r).reverse - numI b (isrt r)) []
theorem step_C (b : Int) (r : List Int) : stepI b r = stepC b r := by
  unfold stepI falI stepC
  rw [srt_isrt]
def orbC (b : Int) (r : List Int) : Nat → List Int
  | 0 => r
  | k + 1 => stepC b (orbC b r k)
theorem orb_C (b : Int) (r : List Int) : ∀ k, orb b r k = orbC b r k
  | 0 => rfl
  | k + 1 => by show stepI b (orb b r k) = stepC b (orbC b r k); rw [orb_C b r k, step_C]
def row3 (b g : Int) : List Int := [g - 1, b - 1, b - g]
theorem step_three {b : Int} {r : List Int} (hb : Base b) (hr : Row b r) (hl : r.length = 3) : stepI b r = if 0 < maxI r - minI r then row3 b (maxI r - minI r) else [0, 0, 0] := by
  have b2 := hb.1
  have hg := gap_first hr.ne
  have hsl := srtI_len r
  have hsd := hr.2.srt
  unfold stepI falI
  rw [hl]
  match hs : srtI r, hsl with
  | [], h => simp [hl] at h
  | [x], h => simp [hl] at h
  | [x, y], h => simp [hl] at h
  | x :: y :: z :: w :: t, h => simp [hl] at h
  | [x, y, z], _ =>
    rw [hs] at hg hsd
    have hg : z - x = maxI r - minI r := hg
    have hx := hsd x (by simp)
    have hz := hsd z (by simp)
    have hxz : x ≤ z := by
      have := pw_getD (srt_pw r) (i := 0) (j := 2) (by decide) (by rw [hs]; show 2 < 3; decide)
      rw [hs] at this
      exact this
    rw [← hg]
    have e : numI b [x, y, z].reverse - numI b [x, y, z] = (z - x) * (b * b - 1) := by
      show ((0 * b + z) * b + y) * b + x - (((0 * b + x) * b + y) * b + z) = _
      rw [Int.zero_mul, Int.zero_add, Int.zero_add, Int.sub_mul, Int.mul_sub, Int.mul_sub, Int.add_mul, Int.add_mul, Int.mul_assoc z b b, Int.mul_assoc x b b]
      omega
    have hgb : 0 ≤ z - x ∧ z - x < b := by omega
    clear hs
    rw [e]
    show [((z - x) * (b * b - 1)) / b / b % b, ((z - x) * (b * b - 1)) / b % b, ((z - x) * (b * b - 1)) % b] = _
    generalize z - x = g at *
    have hb0 : b ≠ 0 := by omega
    split
    · rename_i h
      have e1 : g * (b * b - 1) = (b - g) + ((b - 1) + (g - 1) * b) * b := by
        have q1 : ((b - 1) + (g - 1) * b) * b = (b - 1) * b + (g - 1) * b * b := Int.add_mul _ _ _
        have q2 : (b - 1) * b = b * b - b := by rw [Int.sub_mul, Int.one_mul]
        have q3 : (g - 1) * b * b = g * (b * b) - b * b := by rw [Int.sub_mul, Int.one_mul, Int.sub_mul, Int.mul_assoc]
        have q4 : g * (b * b - 1) = g * (b * b) - g := by rw [Int.mul_sub, Int.mul_one]
        omega
      have d1 : g * (b * b - 1) / b = (b - 1) + (g - 1) * b := by
        rw [e1, Int.add_mul_ediv_right _ _ hb0, Int.ediv_eq_zero_of_lt (by omega) (by omega), Int.zero_add]
      have d2 : g * (b * b - 1) % b = b - g := by
        rw [e1, Int.add_mul_emod_self_right]; exact Int.emod_eq_of_lt (by omega) (by omega)
      have d3 : ((b - 1) + (g - 1) * b) / b = g - 1 := by
        rw [Int.add_mul_ediv_right _ _ hb0, Int.ediv_eq_zero_of_lt (by omega) (by omega), Int.zero_add]
      have d4 : ((b - 1) + (g - 1) * b) % b = b - 1 := by
        rw [Int.add_mul_emod_self_right]; exact Int.emod_eq_of_lt (by omega) (by omega)
      rw [d1, d2, d3, d4, Int.emod_eq_of_lt (by omega) (by omega)]
      rfl
    · have : g = 0 := by omega
      subst this
      simp
def goal3 (b : Int) : List Int := [b / 2 - 1, b - 1, b / 2]
def prA (b : Int) : List Int := [b / 2 - 1, b - 1, b / 2 + 1]
def prB (b : Int) : List Int := [b / 2, b - 1, b / 2]
def gs12 : List Int := [1, 2, 3, 4, 5, 6, 7, 8, 9, 10, 11]
theorem gs_mem {g : Int} (h0 : 0 < g) (h1 : g < 12) : g ∈ gs12 := by
  have : g = 1 ∨ g = 2 ∨ g = 3 ∨ g = 4 ∨ g = 5 ∨ g = 6 ∨ g = 7 ∨ g = 8 ∨ g = 9 ∨ g = 10 ∨ g = 11 := by omega
  unfold gs12
  simp only [List.mem_cons, List.not_mem_nil, or_false]
  exact this
theorem fin_even : ∀ b ∈ ([2, 4, 10, 12] : List Int), (stepC b (goal3 b) = goal3 b) ∧ ∀ g ∈ gs12, g < b → orbC b (row3 b g) (b.toNat - 1) = goal3 b ∧ (stepC b (row3 b g) = row3 b g → row3 b g = goal3 b) := by decide +kernel
theorem fin_odd : ∀ b ∈ ([3, 5, 7, 11] : List Int), (stepC b (prA b) = prB b ∧ stepC b (prB b) = prA b) ∧ ∀ g ∈ gs12, g < b → orbC b (row3 b g) (b.toNat - 1) = prA b ∨ orbC b (row3 b g) (b.toNat - 1) = prB b := by decide +kernel
theorem sum_three : ∀ b ∈ ([2, 4, 10, 12] : List Int), (((falN b 3).filter fun z => decide (z.1.getD 0 0 = z.1.getD 2 0)).map (·.2)).sum = b ∧ (((falN b 3).filter fun z => !decide (z.1.getD 0 0 = z.1.getD 2 0)).map (·.2)).sum = b * b * b - b := by decide +kernel
theorem crs_le_of {b : Int} {r : List Int} (hb : Base b) (hr : Row b r) {t : Nat} (h : InR b (orb b r t)) : (crs b r).2 ≤ t := by
  have c := crs_ok hb hr
  rcases Nat.lt_or_ge t (crs b r).2 with q | q
  · exfalso
    obtain ⟨s, hs, e⟩ := h
    have h1 := InR.mul e (crs b r).2
    rw [orb_add] at h1
    have hle : (crs b r).2 ≤ (crs b r).2 * s := Nat.le_mul_of_pos_right _ hs
    obtain ⟨i, h2, h3, h4⟩ := c.back (t + (crs b r).2 * s) (by omega)
    rw [h1] at h4
    exact c.far t i (by omega) h3 h4.symm
  · exact q
theorem inR_fix {b : Int} {r : List Int} (h : stepI b r = r) : InR b r := ⟨1, by decide, h⟩
section
variable {b : Int} {r : List Int} (hb : Base b) (hr : Row b r) (hl : r.length = 3)
include hb hr hl
theorem zero_three (h : ¬ 0 < maxI r - minI r) : circD b r = .tuple [tI [0, 0, 0]] ∧ (crs b r).2 ≤ 1 := by
  have e := step_three hb hr hl
  rw [if_neg h] at e
  have hz : stepI b [0, 0, 0] = [0, 0, 0] := step_zero (by have := hb.1; omega) 3
  exact ⟨circD_fix (i := 1) e hz, crs_le_of hb hr (t := 1) (by show InR b (stepI b r); rw [e]; exact inR_fix hz)⟩
theorem orb_three (h : 0 < maxI r - minI r) (t : Nat) : orb b r (t + 1) = orbC b (row3 b (maxI r - minI r)) t := by
  rw [orb_succ, step_three hb hr hl, if_pos h, orb_C]
theorem spr_three : 0 ≤ maxI r - minI r ∧ maxI r - minI r < b := by
  have h1 := hr.2 _ (maxI_mem hr.ne)
  have h2 := hr.2 _ (minI_mem hr.ne)
  have h3 := minI_le (maxI_mem hr.ne)
  omega
theorem even_three (hm : b ∈ ([2, 4, 10, 12] : List Int)) (h : 0 < maxI r - minI r) : circD b r = .tuple [tI (goal3 b)] ∧ (crs b r).2 ≤ b.toNat := by
  obtain ⟨h1, h2⟩ := fin_even b hm
  have hs := spr_three hb hr hl
  have b12 := hb.2
  have b2 := hb.1
  have e := (h2 _ (gs_mem h (by omega)) hs.2).1
  rw [← orb_three hb hr hl h, show b.toNat - 1 + 1 = b.toNat by omega] at e
  have hg : stepI b (goal3 b) = goal3 b := by rw [step_C]; exact h1
  exact ⟨circD_fix e hg, crs_le_of hb hr (by rw [e]; exact inR_fix hg)⟩
theorem odd_three (hm : b ∈ ([3, 5, 7, 11] : List Int)) (h : 0 < maxI r - minI r) : circD b r = .tuple [tI (prA b), tI (prB b)] ∧ (crs b r).2 ≤ b.toNat := by
  obtain ⟨⟨h1, h1'⟩, h2⟩ := fin_odd b hm
  have hs := spr_three hb hr hl
  have b12 := hb.2
  have b2 := hb.1
  have e := h2 _ (gs_mem h (by omega)) hs.2
  rw [← orb_three hb hr hl h, show b.toNat - 1 + 1 = b.toNat by omega] at e
  have hA : stepI b (prA b) = prB b := by rw [step_C]; exact h1
  have hB : stepI b (prB b) = prA b := by rw [step_C]; exact h1'
  have hne : prA b ≠ prB b := fun q => by
    unfold prA prB at q
    injection q with q _
    omega
  have orbA : ∀ t, orb b (prA b) t = prA b ∨ orb b (prA b) t = prB b := fun t => by
    induction t with
    | zero => exact .inl rfl
    | succ t ih =>
      rcases ih with q | q
      · right; show stepI b (orb b (prA b) t) = _; rw [q, hA]
      · left; show stepI b (orb b (prA b) t) = _; rw [q, hB]
  have per : orb b (prA b) 2 = prA b := by show stepI b (stepI b (prA b)) = _; rw [hA, hB]
  have ltBA : PySem.W.dataLt (tI (prB b)) (tI (prA b)) = false := by
    unfold prA prB tI iv
    rw [PySem.W.dataLt_tuple, List.map_cons, List.map_cons (a := b / 2 - 1)]
    have al : PySem.W.alike (.int (b / 2)) (.int (b / 2 - 1)) = true := by rw [PySem.W.alike]
    rw [PySem.W.dataLt_all_no al (by rw [eqvI]; exact decide_eq_false (by omega)), PySem.W.dataLt_int]
    exact decide_eq_false (by omega)
  have c : Circ b r (prA b) 2 := by
    refine ⟨?_, by decide, per, fun t t0 t1 q => ?_, fun t => ?_⟩
    · rcases e with e | e
      · exact ⟨_, e⟩
      · exact ⟨b.toNat + 1, by show stepI b (orb b r b.toNat) = _; rw [e, hB]⟩
    · have : t = 1 := by omega
      subst this
      have q : stepI b (prA b) = prA b := q
      rw [hA] at q
      exact hne q.symm
    · rcases orbA t with q | q
      · rw [q]; exact PyProof.Rows.lex_irrefl _
      · rw [q]; exact ltBA
  refine ⟨?_, crs_le_of hb hr (t := b.toNat) ?_⟩
  · rw [circD_eq c]
    show PyData.tuple [tI (orb b (prA b) 0), tI (orb b (prA b) 1)] = _
    show PyData.tuple [tI (prA b), tI (stepI b (prA b))] = _
    rw [hA]
  · rcases e with e | e
    · rw [e]; exact ⟨2, by decide, per⟩
    · rw [e]; exact ⟨2, by decide, by show stepI b (stepI b (prB b)) = _; rw [hB, hA]⟩
end
theorem pairAB {b : Int} : dLe (tI (prA b)) (tI (prB b)) = true := by
  rw [dLe_eq, Bool.not_eq_true']
  unfold prA prB tI iv
  rw [PySem.W.dataLt_tuple, List.map_cons, List.map_cons (a := b / 2 - 1)]
  have al : PySem.W.alike (.int (b / 2)) (.int (b / 2 - 1)) = true := by rw [PySem.W.alike]
  rw [PySem.W.dataLt_all_no al (by rw [eqvI]; exact decide_eq_false (by omega)), PySem.W.dataLt_int]
  exact decide_eq_false (by omega)
/-- zeros stand ahead -/
theorem zero_le {m : List Int} {ds : List PyData} (hm : m.length = 3 ∧ ∀ x ∈ m, 0 ≤ x) (hne : m ≠ [0, 0, 0]) : dLe (.tuple [tI [0, 0, 0]]) (.tuple (tI m :: ds)) = true := by
  have q : PyData.eqv (tI m) (tI [0, 0, 0]) = false := by rw [eqvT]; exact decide_eq_false hne
  rw [dLe_eq, Bool.not_eq_true', PySem.W.dataLt_tuple, PySem.W.dataLt_all_no (alike_row _ _) q]
  exact dataLt_zero (n := 3) hm.1 hm.2
theorem zero_row {b : Int} (hb : Base b) : [0, 0, 0] ∈ allR b 3 := (allR_mem (by have := hb.1; omega)).mpr ⟨fun x hx => by have := hb.1; simp at hx; omega, rfl⟩
theorem rounds_two {b : Int} (hb : Base b) {m : List Int} {ds : List PyData} (hm : m.length = 3 ∧ ∀ x ∈ m, 0 ≤ x) (hne : m ≠ [0, 0, 0]) (hall : ∀ r, Row b r → r.length = 3 → 0 < maxI r - minI r → circD b r = .tuple (tI m :: ds)) (hex : ∃ r ∈ allR b 3, 0 < maxI r - minI r) :
    roundsL b 3 = [.tuple [tI [0, 0, 0]], .tuple (tI m :: ds)] := by
  have b1 : 1 ≤ b := by have := hb.1; omega
  have hn : 1 ≤ 3 ∧ 3 ≤ 8 := ⟨by decide, by decide⟩
  refine rounds_is hb hn ?_ ?_ fun x => ?_
  · refine List.nodup_cons.mpr ⟨fun h => ?_, List.nodup_cons.mpr ⟨by simp, List.Pairwise.nil⟩⟩
    have h := List.mem_singleton.mp h
    injection h with h
    injection h with h _
    exact hne (tI_inj h).symm
  · exact List.pairwise_cons.mpr ⟨fun y hy => by rw [List.mem_singleton.mp hy]; exact zero_le hm hne, List.pairwise_singleton _ _⟩
  · constructor
    · intro h
      rcases List.mem_cons.mp h with rfl | h
      · exact ⟨[0, 0, 0], zero_row hb, (zero_three hb (allR_row b1 hn (zero_row hb)) rfl (by decide)).1⟩
      · rw [List.mem_singleton.mp h]
        obtain ⟨r, hr, hg⟩ := hex
        exact ⟨r, hr, hall r (allR_row b1 hn hr) ((allR_mem b1).mp hr).2 hg⟩
    · rintro ⟨r, hr, rfl⟩
      have hrow := allR_row b1 hn hr
      have hl := ((allR_mem b1).mp hr).2
      by_cases hg : 0 < maxI r - minI r
      · rw [hall r hrow hl hg]; simp
      · rw [(zero_three hb hrow hl hg).1]; simp
theorem row_ex {b : Int} (hb : Base b) : ∃ r ∈ allR b 3, 0 < maxI r - minI r := ⟨[0, 0, 1], (allR_mem (by have := hb.1; omega)).mpr ⟨fun x hx => by have := hb.1; simp at hx; omega, rfl⟩, by decide⟩
theorem long_le {b : Int} {n m : Nat} (h : ∀ r ∈ allR b n, (crs b r).2 ≤ m) (hne : allR b n ≠ []) : ∃ z : Nat × List Int, longD b n = bestD (some z) ∧ z.1 ≤ m := by
  rcases best_spec (fun r => (crs b r).2) (allR b n) with ⟨e, _⟩ | ⟨z, ez, hz1, hz2, _⟩
  · exact absurd e hne
  · refine ⟨z, by unfold longD; rw [ez], ?_⟩
    rw [hz2]
    exact h _ hz1
end DD
namespace DD
open PySem L2
theorem lay_rds : ∀ {ds : List PyData}, (∀ d ∈ ds, RowsT d) → PyData.canLayAll0 ds = true ∧ PyData.depthAll ds ≤ 2
  | [], _ => by simp [PyData.canLayAll0, PyData.depthAll]
  | d :: ds, h => by
    have h0 := h d List.mem_cons_self
    have ih := lay_rds fun x hx => h x (List.mem_cons_of_mem _ hx)
    have h1 := h0.sh
    have h2 := h0.dp
    rw [PyData.canLayAll0, PyData.depthAll]
    refine ⟨by rw [Bool.and_eq_true]; exact ⟨SeqAt.canLay_of_shaped h1, ih.1⟩, ?_⟩
    omega
/-- a tuple of rounds -/
theorem sh_rds {ds : List PyData} (h : ∀ d ∈ ds, RowsT d) : SeqAt.shaped (.tuple ds) = true := by
  have h1 := lay_rds h
  unfold SeqAt.shaped
  rw [PyData.canLay0, PyData.depth, h1.1, Bool.true_and, decide_eq_true_eq]
  have := h1.2
  omega
end DD

namespace DD
open PySem L2 PyProof.Rows
/-! ## x in a tuple -/
def rInT (K : PySem.W.Frag) : R2 := fun x y H Q => ∃ d ds, Dp K H x d ∧ Dp K H y (.tuple ds) ∧ SeqAt.shaped d = true ∧ SeqAt.shaped (.tuple ds) = true ∧ Q (.bl (ds.any fun z => PyData.eqv z d)) H
theorem room_inT {X : Cx} {d : PyData} {ds : List PyData} (h : SeqAt.shaped d = true) (hu : X.A.units + 65 < cLine) : X.A.units + 1 + min (PyData.depthAll ds) d.depth < cLine := by
  have : d.depth ≤ 64 := by
    unfold SeqAt.shaped at h
    rw [Bool.and_eq_true, decide_eq_true_iff] at h
    omega
  omega
theorem op_inT {X : Cx} (hu : X.A.units + 65 < cLine) : OpR X (compareOp .In) (rInT X.K) := by
  intro pins s σ H x y v u Q I rx ry h
  obtain ⟨d, ds, hd, he, sd, se, q⟩ := h
  obtain ⟨as, r1⟩ := Dp.reads I d x v hd rx
  obtain ⟨bs, r2⟩ := Dp.reads I (.tuple ds) y u he ry
  exact SeqAt.in_tuple_reads r2 r1 (SeqAt.canLay_of_shaped se) (SeqAt.canLay_of_shaped sd) (room_inT sd hu) ⟨.bl _, H, I, rfl, q⟩
theorem rb_inT {K : PySem.W.Frag} {x : PyData} {ds : List PyData} (hx : SeqAt.shaped x = true) (hy : SeqAt.shaped (.tuple ds) = true) : RB (rInT K) x (.tuple ds) (ds.any fun z => PyData.eqv z x) := fun _ _ _ H v u Q _ r1 r2 q => ⟨x, ds, Ct.dpv hx r1, Ct.dpv hy r2, hx, hy, q⟩
def rNotInT (K : PySem.W.Frag) : R2 := fun x y H Q => ∃ d ds, Dp K H x d ∧ Dp K H y (.tuple ds) ∧ SeqAt.shaped d = true ∧ SeqAt.shaped (.tuple ds) = true ∧ Q (.bl (!ds.any fun z => PyData.eqv z d)) H
theorem op_niT {X : Cx} (hu : X.A.units + 65 < cLine) : OpR X (compareOp .NotIn) (rNotInT X.K) := by
  intro pins s σ H x y v u Q I rx ry h
  obtain ⟨d, ds, hd, he, sd, se, q⟩ := h
  obtain ⟨as, r1⟩ := Dp.reads I d x v hd rx
  obtain ⟨bs, r2⟩ := Dp.reads I (.tuple ds) y u he ry
  exact SeqAt.notIn_tuple_reads r2 r1 (SeqAt.canLay_of_shaped se) (SeqAt.canLay_of_shaped sd) (room_inT sd hu) ⟨.bl _, H, I, rfl, q⟩
theorem rb_niT {K : PySem.W.Frag} {x : PyData} {ds : List PyData} (hx : SeqAt.shaped x = true) (hy : SeqAt.shaped (.tuple ds) = true) : RB (rNotInT K) x (.tuple ds) (!ds.any fun z => PyData.eqv z x) := fun _ _ _ H v u Q _ r1 r2 q => ⟨x, ds, Ct.dpv hx r1, Ct.dpv hy r2, hx, hy, q⟩
theorem sh_rowsTup {ds : List PyData} (h : AllRows ds) : SeqAt.shaped (.tuple ds) = true := by
  have h1 := lay_rows h
  unfold SeqAt.shaped
  rw [PyData.canLay0, PyData.depth, h1.1, Bool.true_and, decide_eq_true_eq]
  have := h1.2
  omega
section
variable {C : Ct} {Ξ : Addr → Prop} {ρ : Rho} {e : Expr} {pos p : Pos}
/-- the least of a tuple of rows -/
theorem de_minRT {x : PyData} {ds : List PyData} (h : AllRows (x :: ds)) (hg : Gl C.X "min") (hm : C.X.mg "min" = none) (ha : DEd C Ξ ρ e (.tuple (x :: ds))) (hcalm : C.X.calm = true := by rfl) (he : starEach [e] C.X.env = (false, eval e C.X.env) :: starEach [] C.X.env := by rfl) (hpl : (backTo pos (starEach [] C.X.env)).any (·.1) = false := by rfl) : DEd C Ξ ρ (.Call (.Name "min" p) [e] [] pos) (PySem.W.minD x ds) := by
  have := lay_rows h
  exact de_cb (cr_minD hcalm C.un) hg hm b_min (da_cons ha da_nil he) (rc_mm (t := true) (alike_rows h) this.1 (by omega)) (he := he) (hpl := hpl)
end
/-! ## a dice's call, its arguments known by a property alone -/
section
variable {α : Type} {enc : α → List PyData} {C : Ct} {Ξ : Addr → Prop} {ρ : Rho} {e e1 e2 : Expr} {es : List Expr} {pos p p1 : Pos} {P : PyData → Prop}
theorem de_diceG (I : α → Prop) (i : Nat) {x y : Str} {ps : List Str} {k : Nat} {Dom : α → Prop} {R : α → PyData → Prop} {a : Addr} (G : Fc C.X.prog C.X.w C.X.K C.X.mg C.X.base x ps k (spC enc Dom R)) (hs0 : gt ρ i = .raw (.ref a)) (hU : C.U a = true) (hc : Cell none C.base a) (hg : Gl C.X x) (hN : C.X.N[i]? = some y) (hv : Vis C.X.env.scope y) (ha : DA C Ξ ρ es (AllD fun ds => ∃ z, ds = enc z ∧ I z)) (hd : ∀ z, I z → Dom z) (hP : ∀ z d, I z → R z d → P d)
    (hk : k ≤ C.lv := by exact Nat.le_of_ble_eq_true rfl) (hcalm : C.X.calm = true := by rfl) (hdb : (x == ("__debug__" : Str)) = false := by decide) (hyd : (y == ("__debug__" : Str)) = false := by decide) (hyc : (y == ("__classdict__" : Str)) = false := by decide) (he : starEach (.Name y p1 :: es) C.X.env = (false, eval (.Name y p1) C.X.env) :: starEach es C.X.env := by rfl) (hpl : (backTo pos (starEach es C.X.env)).any (·.1) = false := by rfl) :
    DE C Ξ ρ (.Call (.Name x p) (.Name y p1 :: es) [] pos) P := fun σ H E Q q zz => by
  obtain ⟨f, fd, hm, kp, hb, F⟩ := G.ex
  refine ⟨_, pe_callS F ((C.room' hcalm).mono hk) hg hm kp hb (fun σ => L2N.passAt C.tk σ) (pa_cons (pe_var hN hv hyd hyc) pA he) hdb he hpl, _, raw_at E hs0, ha σ H E _ (fun l vs H2 pl g r => ?_) zz⟩
  obtain ⟨ds, rfl, z, rfl, iz⟩ := pl
  have E2 := E.grow g
  have hc2 : Cell none H2 a := E2.gr.cell a none hU hc
  refine ⟨inn C ρ, a, z, vs, rfl, by unfold inn; rw [C.le a hU]; rfl, E2.out, hc2, r.ats, hd z iz, fun d v H' hr gg ra => q d v H' (hP z d iz hr) (g.trans (gr_dice hU hc2 gg)) ra⟩
end
/-! ## enumerate(tuple) -/
set_option maxHeartbeats 1000000 in
theorem meets_enumB {v : Value} {o : Obj} {H : Heap → Prop} (B : Begins v o H) :
    Meets (Builtin.«enumerate.__new__» ⟨[.type "enumerate", v], []⟩) (fun _ R s => H s.heap ∧
      R (.ok (.ret (.ref (s.heap.push o).objs.size))) { s with heap := (s.heap.push o).push { cls := .type "enumerate", data := .fields #[.none, .bool false, .ref s.heap.objs.size, rawInt 0, .none, .none] } }) :=
  .of_wp fun prog w A R s h => by
    obtain ⟨hp, g, d, tk, os⟩ := s; obtain ⟨h1, h⟩ := h
    have hsub := sub_enumerate
    have q1 : ∀ {A' : Around} {E : Value → Shared → Prop} {Q : Value → Shared → Prop}, Q (.ref hp.objs.size) ⟨hp.push o, g, d, tk, os⟩ → wpAny (model prog w) A' (pyIter v) Q E ⟨hp, g, d, tk, os⟩ :=
      fun q => B.iter prog w _ _ ⟨hp, g, d, tk, os⟩ _ h1 q
    wp_walk using q1
    refine wpAny_stack_any fun st => wpAny_pure ?_
    split
    · rename_i c _ _ _ _ _
      cases (c == Value.type "enumerate")
      · wp_walk using q1
        exact ⟨_, rfl, h⟩
      · wp_walk using q1
        exact ⟨_, rfl, h⟩
    · wp_walk using q1
      exact ⟨_, rfl, h⟩
theorem call_enumB {prog : Program} {w : World} {A : Around} {E : Value → Shared → Prop} {s : Shared} {v : Value} {o : Obj} {H : Heap → Prop} {Q : Value → Shared → Prop} (B : Begins v o H) (h1 : H s.heap)
    (h : ∀ h', IsEnum h' (s.heap.objs.size + 1) s.heap.objs.size 0 .none → h'.get? s.heap.objs.size = some o → h'.objs.size = s.heap.objs.size + 2 →
      (∀ b o, s.heap.get? b = some o → h'.get? b = some o) → Q (.ref (s.heap.objs.size + 1)) { s with heap := h' }) :
    wpAny (model prog w) A (call (.type "enumerate") [v]) Q E s := by
  refine callType_new F.called_enumerate (by decide) (F.typeCall_enumerate_1 _) (F.newCall_enumerate_1 _) (fun obj => F.args_object_init_2 obj _) F.entry_enumerate_new
    (meets_enumB B) ⟨h1, ?_⟩
  have hz : (s.heap.push o).objs.size = s.heap.objs.size + 1 := Heap.size_push ..
  show _ ∧ _
  rw [hz]
  have he : IsEnum ((s.heap.push o).push { cls := .type "enumerate", data := .fields #[.none, .bool false, .ref s.heap.objs.size, rawInt 0, .none, .none] }) (s.heap.objs.size + 1) s.heap.objs.size 0 .none := by
    have := Heap.get?_push_size (s.heap.push o) (o := { cls := .type "enumerate", data := .fields #[.none, .bool false, .ref s.heap.objs.size, rawInt 0, .none, .none] }) rfl
    rw [hz] at this; exact this
  refine ⟨⟨_, he, rfl⟩, h _ he (Heap.get?_push_of_some _ (Heap.get?_push_size _ B.free)) (by rw [Heap.size_push, hz]) fun b o x => Heap.get?_push_of_some _ (Heap.get?_push_of_some _ x)⟩
/-- the tuple at a as it stands at each turn, each item in a new pair -/
def IteT (K : PySem.W.Frag) (a : Addr) : It :=
  ⟨fun i H => ∃ (xs : List V) (x : V), SqT K H a xs ∧ xs[i]? = some x, fun i H v H' => ∃ T x, v = .ref T ∧ H T = none ∧ H' = upd H T (.tup [.int (i : Nat), x]) ∧ ∀ xs, SqT K H a xs → xs[i]? = some x, fun i H => ∃ xs : List V, SqT K H a xs ∧ xs.length ≤ i⟩
theorem turn_enumT {P : Program} {w : World} {K : PySem.W.Frag} {elts : List Expr} {kk : Nat} {tpos : Pos} (a e it : Addr) :
    Turn P w K (.Tuple elts kk tpos) (IteT K a) [e, it] e (fun i h => (∃ old, IsEnum h e it ((i : Nat) : Int) old) ∧ h.IsTupleIter it a i ∧ e ≠ it ∧ a ≠ it ∧ a ≠ e) where
  mem := by simp
  obj := fun i h st b hb => by
    obtain ⟨⟨old, he⟩, ⟨o, ho, hc, hd⟩, _⟩ := st
    have e' : b = e ∨ b = it := by simpa using hb
    rcases e' with z | z
    · rw [z]; exact ⟨_, he, fun v q => nomatch q⟩
    · rw [z]; exact ⟨o, ho, fun v q => by rw [hd] at q; cases q⟩
  keep := fun i h h' st k => let ⟨⟨old, he⟩, hi, hne⟩ := st; ⟨⟨old, k e (by simp) _ he⟩, hi.at fun o q => k it (by simp) o q, hne⟩
  item := by
    intro X hP hw hK hc i pins s σ H E I hf st hg
    subst hP hw hK
    obtain ⟨⟨old, he⟩, hit, hne, hai, hae⟩ := st
    obtain ⟨xs, x, hq, hx⟩ := hg
    obtain ⟨its, rv, p, hz⟩ := I.tuple hq
    obtain ⟨u, hu, ru⟩ := rv.get hx
    have hel : e < s.heap.objs.size := Heap.lt_size he
    have hil : it < s.heap.objs.size := by obtain ⟨_, q, _⟩ := hit; exact Heap.lt_size q
    have hlt : i < its.toArray.size := by
      obtain ⟨h1, _⟩ := List.getElem?_eq_some_iff.mp hu
      simpa using h1
    refine wpAny_pyNext_enum_itemD (Draws.tuple (A := X.A.in1) (I.ok.hd hc) it a hai its.toArray) he ⟨hit, show s.heap.IsTuple a its.toArray from p⟩ hlt hne (by simp; exact ⟨hne, Ne.symm hae⟩) fun x' h' tk hPx ho hst hT hsz hk => ?_
    have hPx : its.toArray[i]? = some x' := hPx
    have ex : x' = u := by rw [show its.toArray[i]? = its[i]? by simp, hu] at hPx; injection hPx with hPx; exact hPx.symm
    subst ex
    obtain ⟨hit', _⟩ := hst
    refine ⟨_, rfl, wpAny_letOwnedTupleGo_enum (s := { s with heap := h', toks := tk + 1 }) ho fun h'' he' sb => ?_⟩
    have hT2 : h''.get? s.heap.objs.size = some { cls := .type "tuple", data := .seq #[.int i tk, x'] } := (sb.2 _ (Nat.ne_of_gt hel)).trans hT
    have new : ObjOk X.prog X.w (upd H s.heap.objs.size (.tup [.int (i : Nat), x])) h'' s.heap.objs.size (.tup [.int (i : Nat), x]) :=
      ⟨by show 2 ≤ sizeLine; decide, [.int i tk, x'], .cons ⟨_, rfl⟩ (.cons ru .nil), ⟨_, hT2, rfl, _, rfl⟩⟩
    have I1 : Inv X pins σ (upd H s.heap.objs.size (.tup [.int (i : Nat), x])) { s with heap := h'', toks := tk + 1 } :=
      I.turnedNew (ch := [e, it]) (fun b ob hb q => (sb.2 b (fun z => hb (by simp [z]))).trans (hk b ob (fun z => hb (by simp [z])) (fun z => hb (by simp [z])) q)) hf (Nat.le_refl _) new
    refine ⟨.ref s.heap.objs.size, _, I1, rfl, ⟨_, x, rfl, I.hok.fresh (Nat.le_refl _), rfl, fun ys hy => by rw [I.tuple_inj hy hq]; exact hx⟩, ⟨⟨x', ?_⟩, hit'.at fun o q => (sb.2 it (Ne.symm hne)).trans q, hne, hai, hae⟩, fun b hb => ?_⟩
    · have e1 : ((i + 1 : Nat) : Int) = (i : Int) + 1 := by omega
      rw [e1]; exact he'
    · have hb' : b < s.heap.objs.size := by
        have e' : b = e ∨ b = it := by simpa using hb
        rcases e' with z | z
        · rw [z]; exact hel
        · rw [z]; exact hil
      rw [upd_ne (Nat.ne_of_lt hb')]
      exact (hf b hb).1
  done := by
    intro X hP hw hK hc i pins s σ H E I hf st hg
    subst hP hw hK
    obtain ⟨⟨old, he⟩, hit, hne, hai, hae⟩ := st
    obtain ⟨xs, hq, hx⟩ := hg
    obtain ⟨its, rv, p, hz⟩ := I.tuple hq
    obtain ⟨f0, f1, f2, f3, f4, f5⟩ := hf it (by simp)
    have hl := rv.length
    have hnn : its.toArray[i]? = none := by simp; omega
    have hT : s.TypeIs (.ref e) "enumerate" := ⟨_, he, rfl⟩
    unfold pyNext
    refine wpAny_bind (wpAny_attempt (wpAny_callSpecial?_slot (name := Str.ofString "__next__") hT F.slot_enumerate_next
      (wpAny_call_entry F.slot_enumerate_next hT F.entry_enumerate_next ?_ (F.args_enumerate_next_1 _))))
    show wpAny _ _ (field (.ref e) 2 >>= _) _ _ _
    refine wpAny_bind (wpAny_field he rfl (x := .ref it) rfl ?_)
    refine wpAny_bind (wpAny_nextOf_tuple_end (I.ok.hd hc) hit (show s.heap.IsTuple a its.toArray from p) hnn fun h' x he' hx' => ?_)
    obtain ⟨o, ho, hc'⟩ := hx'
    refine wpAny_bind (wpAny_isInstance (T := "StopIteration") (b := true) ⟨o, ho, hc'⟩ isSubtype_stop ?_)
    exact wpAny_pure ⟨rfl, I.turned (t' := s.toks) (fun b o hb q => he' b o hb q) f0 f1 f3 f4 f5⟩
  self := fun A i s Q E st h => let ⟨⟨_, he⟩, _⟩ := st; wpAny_pyIter_enum he h
def iEnumT (K : PySem.W.Frag) (ta : TA) : TI := fun σ H R => ta σ H fun vs H1 => ∃ a xs, vs = [.ref a] ∧ SqT K H1 a xs ∧ R (IteT K a) H1
theorem pi_enumT {X : Cx} {e : Expr} {ta : TA} {p pos tpos : Pos} {elts : List Expr} {kk : Nat} (hg : Gl X "enumerate") (hm : X.mg "enumerate" = none) (ha : PA X [e] ta) (hs : starEach [e] X.env = [(false, eval e X.env)] := by rfl) :
    PI X (.Tuple elts kk tpos) (.Call (.Name "enumerate" p) [e] [] pos) (iEnumT X.K ta) := by
  refine ⟨fun pins s σ H R I h => ?_⟩
  refine Call_ (ld_blt I hg hm boot_enumerate (PyProof.Rows.callWith_type1 (thn (ha.run pos pins s σ H _ I h) fun us s1 ⟨vs, H1, I1, r1, q1⟩ => ?_) hs rfl))
  obtain ⟨a, xs, ex, hq, q⟩ := q1
  subst ex
  cases r1 with
  | cons r rr =>
    cases rr
    cases r
    obtain ⟨its, rv, p', hz⟩ := I1.tuple hq
    have hal : a < s1.heap.objs.size := by obtain ⟨_, q', _⟩ := p'; exact Heap.lt_size q'
    refine call_enumB (begins_tuple a its.toArray) (show s1.heap.IsTuple a its.toArray from p') fun h' he hit hsz hk => wpAny_pyIter_enum he ?_
    have I2 : Inv X pins σ H1 { s1 with heap := h' } := I1.kept (t' := s1.toks) hk
    refine ⟨s1.heap.objs.size + 1, [s1.heap.objs.size + 1, s1.heap.objs.size], _, _, H1, rfl, I2, turn_enumT a (s1.heap.objs.size + 1) s1.heap.objs.size, ⟨⟨.none, he⟩, ⟨_, hit, rfl, rfl⟩, Nat.succ_ne_self _, Nat.ne_of_lt hal, Nat.ne_of_lt (Nat.lt_succ_of_lt hal)⟩, fun b hb => ?_, q⟩
    have e' : b = s1.heap.objs.size + 1 ∨ b = s1.heap.objs.size := by simpa using hb
    have hle : s1.heap.objs.size ≤ b := by
      rcases e' with z | z
      · rw [z]; exact Nat.le_add_right _ _
      · rw [z]; exact Nat.le_refl _
    exact I1.fpOk hle (I1.hok.fresh hle)
theorem yields_enumT {K : PySem.W.Frag} {a : Addr} {ds : List PyData} : Yields (IteT K a) (enumD ds) (fun Hv => ∃ xs, Hv a = some (.tup xs) ∧ AtAll Hv xs ds) where
  mono := fun Hv Hv' s ⟨xs, h1, h2⟩ => ⟨xs, s _ _ h1, h2.up s⟩
  go := fun O H k ⟨xs, h1, h2⟩ hk => by
    rw [enumD_len] at hk
    obtain ⟨v, h3, _⟩ := h2.get (List.getElem?_eq_getElem hk)
    exact ⟨xs, v, SqT.of (hid_le _ _ h1), h3⟩
  yld := fun O H k v H' hO ⟨xs, h1, h2⟩ hk y => by
    rw [enumD_len] at hk
    obtain ⟨T, x, rfl, hT, rfl, y⟩ := y
    obtain ⟨d, h3, h4⟩ := h2.get' (y xs (SqT.of (hid_le _ _ h1)))
    have sm : Same H (upd H T (.tup [.int (k : Nat), x])) := same_new hT
    have hOT : O T = false := by
      cases e : O T with
      | false => rfl
      | true => exact absurd hT (hO T e)
    refine ⟨sm, .tuple [.int (k : Int), d], ?_, .tup ((hid_at hOT).trans upd_same) (.cons (.int _) (.cons (h4.up (hid_mono fun a o e1 e2 => ⟨e1, sm a o e2⟩)) .nil))⟩
    unfold enumD
    rw [List.getElem?_map, List.getElem?_range hk]
    show some (PyData.tuple [.int (k : Int), ds.getD k .none]) = _
    rw [List.getD_eq_getElem?_getD, h3]
    rfl
  stop := fun O H k ⟨xs, h1, h2⟩ hk => ⟨xs, SqT.of (hid_le _ _ h1), by rw [enumD_len] at hk; rw [h2.len]; exact hk⟩
theorem dit_enumT {C : Ct} {Ξ : Addr → Prop} {ρ : Rho} {e : Expr} {elts : List Expr} {kk : Nat} {tpos p pos : Pos} {ds : List PyData} (hg : Gl C.X "enumerate") (hm : C.X.mg "enumerate" = none) (ha : DEd C Ξ ρ e (.tuple ds)) (hs : starEach [e] C.X.env = [(false, eval e C.X.env)] := by rfl) : DItd C Ξ ρ (.Tuple elts kk tpos) (.Call (.Name "enumerate" p) [e] [] pos) (enumD ds) := fun σ H E R k z =>
  ⟨_, pi_enumT hg hm (pa_cons pE pa_nil hs) hs, ha σ H E _ (fun d v H2 pd g r => by
    subst pd
    obtain ⟨a, vs, rfl, h1, h2⟩ := r.ref_tup
    exact ⟨a, vs, rfl, SqT.of (hid_le _ _ h1), k _ _ _ H2 rfl g ⟨vs, h1, h2⟩ yields_enumT⟩) z⟩
end DD

namespace DD
open PySem L2 PyProof.Rows
/-! ## courses and rounds, in plain words -/
theorem far_of_circ {b : Int} {r m : List Int} {L : Nat} (c : Circ b r m L) : ∀ t d, 0 < d → d < L → orb b m t ≠ orb b m (t + d) := fun t d h1 h2 e => by
  -- turn on to the next multiple of L
  have h3 : orb b m (t * L) = m := c.pers t
  have h4 : t ≤ t * L := Nat.le_mul_of_pos_right t c.pos
  have h5 : orb b m (t + (t * L - t)) = orb b m (t + d + (t * L - t)) := by rw [← orb_add, ← orb_add b m (t + d), e]
  rw [show t + (t * L - t) = t * L by omega, show t + d + (t * L - t) = t * L + d by omega, ← orb_add, h3] at h5
  exact c.low d h1 h2 h5.symm
theorem circ_course {b : Int} {r m : List Int} {L : Nat} (c : Circ b r m L) (t : Nat) : Course b (orb b m t) L 0 := by
  refine Course.mk (fun i j hij hj e => ?_) c.pos ?_
  · rw [orb_add, orb_add] at e
    refine far_of_circ c (t + i) (j - i) (by omega) (by omega) ?_
    rw [show t + i + (j - i) = t + j by omega]
    exact e
  · show orb b (orb b m t) L = orb b (orb b m t) 0
    rw [orb_add, show t + L = L + t by omega, ← orb_add, c.per]
    rfl
theorem circ_crs {b : Int} {r m : List Int} {L : Nat} (hb : Base b) (hm : Row b m) (c : Circ b r m L) (t : Nat) : (crs b (orb b m t)).2 = 0 :=
  (crs_uniq hb (orb_row (by have := hb.1; omega) hm t) (circ_course c t)).2.symm
theorem circR_at {b : Int} {m : List Int} {L k : Nat} (h : k < L) : (circR b m L)[k]? = some (tI (orb b m k)) := by
  unfold circR
  rw [List.getElem?_map, List.getElem?_range h]
  rfl
theorem circR_len' {b : Int} {m : List Int} {L : Nat} : (circR b m L).length = L := by unfold circR; rw [List.length_map, List.length_range]
theorem circR_next {b : Int} {r m : List Int} {L k : Nat} (c : Circ b r m L) (h : k < L) : (circR b m L)[(k + 1) % L]? = some (tI (orb b m (k + 1))) := by
  rw [circR_at (Nat.mod_lt _ c.pos)]
  by_cases e : k + 1 = L
  · rw [e, Nat.mod_self, c.per]; rfl
  · rw [Nat.mod_eq_of_lt (by omega)]
theorem circR_min {b : Int} {r m : List Int} {L : Nat} (c : Circ b r m L) : ∃ ds, circR b m L = tI m :: ds ∧ PySem.W.minD (tI m) ds = tI m := by
  have h0 : (circR b m L)[0]? = some (tI m) := circR_at c.pos
  cases e : circR b m L with
  | nil => rw [e] at h0; cases h0
  | cons x ds =>
    rw [e] at h0
    injection h0 with h0
    subst h0
    refine ⟨ds, rfl, ?_⟩
    have h1 := minD_mem ds (tI m)
    have h2 := minD_le ds (tI m) (tI m) List.mem_cons_self
    rw [← e] at h1
    obtain ⟨t, _, e1⟩ := List.mem_map.mp h1
    rw [← e1] at h2 ⊢
    have h3 := c.least t
    exact congrArg tI (lt_tot h3 h2)
/-- the row itself is in its round, just when nothing leads to it -/
theorem row_in_round {b : Int} {r : List Int} (hb : Base b) (hr : Row b r) : ((circR b (crc b r).1 (crc b r).2).any fun z => PyData.eqv z (tI r)) = decide ((crs b r).2 = 0) := by
  have c := crs_ok hb hr
  have hlt := c.lt
  obtain ⟨i0, h1, h2, h3, x, ds, e, em⟩ := circ_ex hb hr
  rw [crc_ok (c.circ h1 h2 h3)]
  show ((circR b (orb b r i0) ((crs b r).1 - (crs b r).2)).any fun z => PyData.eqv z (tI r)) = _
  rw [← circ_rot c h1 h2, Bool.eq_iff_iff, List.any_eq_true, decide_eq_true_iff]
  have hmem : ∀ z, z ∈ ((rowsD b r (crs b r).1).drop (crs b r).2).drop (i0 - (crs b r).2) ++ ((rowsD b r (crs b r).1).drop (crs b r).2).take (i0 - (crs b r).2) ↔ z ∈ (rowsD b r (crs b r).1).drop (crs b r).2 := fun z => by
    rw [List.mem_append, or_comm, ← List.mem_append, List.take_append_drop]
  constructor
  · rintro ⟨z, hz, hq⟩
    obtain ⟨k, hk⟩ := List.getElem?_of_mem ((hmem z).mp hz)
    have hk0 := (List.getElem?_eq_some_iff.mp hk).1
    rw [List.length_drop, rowsD_len] at hk0
    rw [List.getElem?_drop, rowsD_at (by omega)] at hk
    injection hk with hk
    rw [← hk, eqvT, decide_eq_true_iff] at hq
    cases Nat.eq_zero_or_pos (crs b r).2 with
    | inl h => exact h
    | inr h => exact absurd hq.symm (c.far 0 _ (by omega) (by omega))
  · intro h0
    refine ⟨tI r, (hmem _).mpr (List.mem_of_getElem? (i := 0) ?_), by rw [eqvT, decide_eq_true_iff]⟩
    rw [List.getElem?_drop, rowsD_at (by omega), h0]
    rfl
def atN (n j k : Nat) : Nat := if k < n then k else j + (k - j) % (n - j)
theorem atN_lt {n j k : Nat} (h : j < n) : atN n j k < n := by
  unfold atN
  split
  · assumption
  · have := Nat.mod_lt (k - j) (show 0 < n - j by omega)
    omega
theorem atN_orb {b : Int} {r : List Int} {n j : Nat} (c : Course b r n j) (k : Nat) : orb b r (atN n j k) = orb b r k := by
  have hlt := c.lt
  unfold atN
  split
  · rfl
  · have h := c.pers (i := j + (k - j) % (n - j)) (by omega) ((k - j) / (n - j))
    have h2 := Nat.mod_add_div (k - j) (n - j)
    rw [← h, show j + (k - j) % (n - j) + (k - j) / (n - j) * (n - j) = k by rw [Nat.mul_comm ((k - j) / (n - j))]; omega]
end DD

namespace DD
open PySem L2 PyProof.Rows
/-! ## forerunners -/
def few (K : PySem.W.Frag) (r : Int → List Int → Out) (b : Int) (ns : List Int) : Out := if 10000 < b ^ ns.length then .ex (He.ga K "TooLarge") else r b ns
def fFew (K : PySem.W.Frag) (r : Int → List Int → Out) : PyData → PyData → Out := fRow K (few K r)
section
variable {K : PySem.W.Frag}
theorem fFew_ok {r : Int → List Int → Out} {b : Int} {ns : List Int} (hb : Base b) (h : Row b ns) (hp : b ^ ns.length ≤ 10000) : fFew K r (.int b) (tI ns) = r b ns := by
  unfold fFew
  rw [fRow_ok hb h]
  unfold few
  rw [if_neg (by omega)]
theorem fFew_large {r : Int → List Int → Out} {b : Int} {ns : List Int} (hb : Base b) (h : Row b ns) (hp : 10000 < b ^ ns.length) : fFew K r (.int b) (tI ns) = .ex (He.ga K "TooLarge") := by
  unfold fFew
  rw [fRow_ok hb h]
  unfold few
  rw [if_pos hp]
theorem fFew_ex {r r' : Int → List Int → Out} {b v : PyData} {c : Addr} (hr : ∀ b ns, ∃ d, r b ns = .rt d) (h : fFew K r b v = .ex c) : fFew K r' b v = .ex c := by
  rcases fNR_cases (K := K) b v with ⟨bi, ns, rfl, rfl, hb, hrow, _⟩ | ⟨c', e⟩
  · by_cases hp : 10000 < bi ^ ns.length
    · rw [fFew_large hb hrow hp] at h ⊢
      exact h
    · rw [fFew_ok hb hrow (by omega)] at h
      obtain ⟨d, e⟩ := hr bi ns
      rw [e] at h
      cases h
  · unfold fFew at h ⊢
    rw [fRow_ex e] at h ⊢
    exact h
theorem thenFw {F : Out → Prop} {ρ : Rho} {b v : PyData} (h1 : ∀ c, fFew K (fun _ _ => .rt .none) b v = .ex c → F (.ex c)) (h2 : ∀ bi ns, b = .int bi → v = tI ns → Base bi → Row bi ns → bi ^ ns.length ≤ 10000 → F (.nx ρ)) : thenO (fFew K (fun _ _ => .rt .none) b v) F ρ := by
  rcases fNR_cases (K := K) b v with ⟨bi, ns, rfl, rfl, hb, hrow, _⟩ | ⟨c, e⟩
  · by_cases hp : 10000 < bi ^ ns.length
    · have := fFew_large (K := K) (r := fun _ _ => .rt .none) hb hrow hp
      rw [this]
      exact h1 _ this
    · have := fFew_ok (K := K) (r := fun _ _ => .rt .none) hb hrow (by omega)
      rw [this]
      exact h2 bi ns rfl rfl hb hrow (by omega)
  · have e2 : fFew K (fun _ _ => .rt .none) b v = .ex c := fRow_ex e
    rw [e2]
    exact h1 _ e2
end
/-- the falling rows whose step is ns -/
def foreN (b : Int) (ns : List Int) : List (List Int × Int) := (falN b ns.length).filter fun z => decide (stepI b z.1 = ns)
def forL (b : Int) (ns : List Int) : List PyData := ((foreN b ns).map fun z => tI z.1).mergeSort dLe
def cntF (b : Int) (ns : List Int) : Int := ((foreN b ns).map (·.2)).sum
theorem fal_filter {b : Int} {n : Nat} {ns : List Int} (g : PyData → PyData) : ((falD b n).filter fun d => decide (stepI b (unT (fstD d)) = ns)).map g = ((falN b n).filter fun z => decide (stepI b z.1 = ns)).map fun z => g (pairD z) := by
  unfold falD
  rw [List.filter_map, List.map_map]
  have e : ((fun d => decide (stepI b (unT (fstD d)) = ns)) ∘ pairD) = fun z : List Int × Int => decide (stepI b z.1 = ns) := by
    funext z
    show decide (stepI b (unT (tI z.1)) = ns) = _
    rw [unT_tI]
  rw [e]
  rfl
theorem fal_at {b : Int} {n k : Nat} {d : PyData} (h : (falD b n)[k]? = some d) : ∃ z, (falN b n)[k]? = some z ∧ d = pairD z ∧ z ∈ falN b n := by
  unfold falD at h
  rw [List.getElem?_map] at h
  cases e : (falN b n)[k]? with
  | none => rw [e] at h; cases h
  | some z =>
    rw [e] at h
    injection h with h
    exact ⟨z, rfl, h.symm, List.mem_of_getElem? e⟩
end DD

namespace DD
open PySem L2 PyProof.Rows
/-! ## an own dict is moved to another name -/
section
variable {C : Ct} {ρ : Rho} {F : Out → Prop} {pos : Pos}
theorem ds_mvD (i j : Nat) {x y : Str} {py pos' : Pos} {q : Addr} {kvs : List (List Int × PyData)} (h : gt ρ i = .dic q kvs) (hij : i ≠ j) (k : F (.nx ((ρ.set i (.raw (.ref q))).set j (.dic q kvs)))) (hN : C.X.N.Nodup) (hi : C.X.N[i]? = some y) (hj : C.X.N[j]? = some x) (hlj : j < ρ.length) (hv : Vis C.X.env.scope y) (hx : Loc C.X.env.scope x)
    (hd : (y == ("__debug__" : Str)) = false := by decide) (hcd : (y == ("__classdict__" : Str)) = false := by decide) (hs : swapsWith (.Name y py) (some (.Name x pos')) pos.line C.X.env = pure false := by rfl) (hf : C.X.fn x = true ∨ C.X.env.scope.names.lookup x = some .local := by first | exact .inl rfl | exact .inr rfl) : DS C F ρ (.Assign [.Name x pos'] (.Name y py) pos) := fun D σ H E K => by
  obtain ⟨hσ, h1, h2, xs, h3, h4⟩ := E.dic_of h
  have hli : i < ρ.length := by
    rcases Nat.lt_or_ge i ρ.length with z | z
    · exact z
    · unfold gt at h; rw [List.getD_eq_getElem?_getD, List.getElem?_eq_none z] at h; cases h
  have sub : ∀ a, owns ((ρ.set i (.raw (.ref q))).set j (.dic q kvs)) a = true → owns ρ a = true := fun a e => by
    rcases owns_put e with z | z
    · exact owns_set rfl z
    · injection z with z
      exact owns_iff.mpr ⟨i, by rw [h, ← z]; rfl⟩
  have s : Same (vis C ρ H) (vis C ((ρ.set i (.raw (.ref q))).set j (.dic q kvs)) H) := vis_le sub
  refine ⟨_, ps_set hN hj hx (pe_var hi hv hd hcd) hs hf, .ref q, hσ, K.nx _ _ _ k ⟨by simp only [List.length_set]; exact E.len, fun m => ?_, E.cell, E.alloc, E.gr, fun m l p hm hl => ?_⟩ s⟩
  · rw [gt_set, sg_set, List.length_set]
    by_cases z : j = m
    · rw [if_pos ⟨z, hlj⟩, if_pos ⟨z, by rw [E.len]; exact hlj⟩]
      exact ⟨rfl, h1, h2, xs, h3, h4.up s⟩
    · rw [if_neg fun w => z w.1, if_neg fun w => z w.1, gt_set]
      by_cases z2 : i = m
      · rw [if_pos ⟨z2, hli⟩]
        show σ.getD m none = some (.ref q)
        rw [← z2, List.getD_eq_getElem?_getD, hσ]
        rfl
      · rw [if_neg fun w => z2 w.1]
        exact (E.slot m).see s fun _ _ _ e => e
  · have key : ∀ m', (gt ((ρ.set i (.raw (.ref q))).set j (.dic q kvs)) m').addr = some p → m' = j ∧ p = q ∨ (gt ρ m').addr = some p ∧ p ≠ q := fun m' hm' => by
      rw [gt_set, List.length_set] at hm'
      by_cases z : j = m'
      · rw [if_pos ⟨z, hlj⟩] at hm'
        injection hm' with hm'
        exact .inl ⟨z.symm, hm'.symm⟩
      · rw [if_neg fun w => z w.1, gt_set] at hm'
        by_cases z2 : i = m'
        · rw [if_pos ⟨z2, hli⟩] at hm'; cases hm'
        · rw [if_neg fun w => z2 w.1] at hm'
          exact .inr ⟨hm', fun e => z2 (E.dis i m' q (by rw [h]; rfl) (by rw [← e]; exact hm'))⟩
    rcases key m hm with ⟨e1, e2⟩ | ⟨e1, e2⟩ <;> rcases key l hl with ⟨e3, e4⟩ | ⟨e3, e4⟩
    · rw [e1, e3]
    · exact absurd e2 e4
    · exact absurd e4 e2
    · exact E.dis m l p e1 e3
end
/-! ## {(): True}, a -/
def tDisp1 (tk tv : TE) : TE := fun σ H Q => ∀ p, H p = none → tPairs [(tk, tv)] σ (upd H p (.dT [])) fun ps H2 => H2 p = some (.dT []) ∧ ∃ (b : Addr) (k : List Key) (v : V), ps = [(.ref b, v)] ∧ H2 b = some (.tup (k.map kV)) ∧ Q (.ref p) (upd H2 p (.dT [(k, v)]))
theorem pe_disp1 {X : Cx} {pos : Pos} {k v : Expr} {tk tv : TE} (hu : X.A.units + 1 < cLine) (hk : PE X k tk) (hv : PE X v tv) : PE X (.Dict [some k] [v] pos) (tDisp1 tk tv) := by
  refine ⟨fun pins s σ H Q I q => ?_⟩
  have hn := I.hok.fresh (Nat.le_refl s.heap.objs.size)
  have I1 := I.laid (a := s.heap.objs.size) (o := .dT []) (h' := s.heap.push { cls := .type "dict", data := .dict #[] }) (t' := s.toks) (fun _ _ q => Heap.get?_push_of_some _ q) (Nat.le_refl _) (dt_empty s.heap I.big)
  refine wpAny_Dict_any (keys := [some k]) (values := [v]) rfl rfl (by simp) (by show 1 ≤ 15; decide) (thn ((pps_cons hk hv pps_nil).run pins _ σ _ _ I1 (q _ hn)) fun ws s2 ⟨ps, H2, I2, rel, e, b, kk, v1, ep, eb, q2⟩ => ?_)
  subst ep
  cases rel with
  | @cons p1 q1 l1 l2 r rr =>
    cases rr
    obtain ⟨u, w2⟩ := q1
    obtain ⟨r1, r2⟩ := r
    cases (show u = Value.ref b from r1)
    obtain ⟨z, hd, xs, rl, dd⟩ := dt_of I2.hok e
    have hz : xs.length ≤ sizeLine := by rw [← Paired.length rl]; exact z
    unfold storeAll
    rw [List.forIn_cons]
    refine wpAny_bind (wpAny_bind (wpAny_dictSet_heap (hsz := hz) (knd := tupleKind (mixKind X.prog X.w)) (show X.A.units < cLine by omega) (key_of I2.hok eb) dd fun h' dd' hs => wpAny_pure ?_))
    show wpAny _ _ (storeAll _ []) _ _ _
    unfold storeAll
    rw [List.forIn_nil]
    refine wpAny_pure ⟨.ref s.heap.objs.size, _, ?_, rfl, q2⟩
    obtain ⟨qq, es, ep, hq, g2, g3, g4, _, g5⟩ := dd'
    have hl : ([(kk, v1)] : List (List Key × V)).length ≤ sizeLine := by rw [sizeLine_eq]; show 1 ≤ _; omega
    refine d_write I2 (by rw [e]; exact True.intro) hs ⟨qq, hq⟩ ⟨hl, hd, _, (rl.put kk eb r2).keeps fun c ys ec => ?_, qq, es, ep, hq, g2, g3, g4, g5⟩
    rw [upd_ne (ne_of ec e (fun z => nomatch z))]
    exact ec
section
variable {C : Ct} {ρ : Rho} {F : Out → Prop} {pos : Pos}
theorem ds_newD1 (i j : Nat) {x y : Str} {a : Expr} {d : PyData} {px py pt lp pt2 tp bp : Pos} {kt k2 tk bk : Nat} (k : ∀ b, F (.nx ((ρ.set i (.dic b [([], .bool true)])).set j (.dat d)))) (hcon : ∀ σ H Q, (∀ v, (∀ H', At H' v d) → Q v H) → cE C.X a σ H Q) (hN : C.X.N.Nodup) (hi : C.X.N[i]? = some x) (hj : C.X.N[j]? = some y) (hij : i ≠ j) (hli : i < ρ.length)
    (hx : C.X.env.scope.names.lookup x = some .local) (hy : C.X.env.scope.names.lookup y = some .local) (hw : swappedStores [.Tuple [.Name x px, .Name y py] kt pt] (.Tuple [.Dict [some (.Tuple [] tk tp)] [.Constant (.bool true) bk bp] lp, a] k2 pt2) C.X.env = pure (some [x, y]))
    (h1 : starEach [.Dict [some (.Tuple [] tk tp)] [.Constant (.bool true) bk bp] lp, a] C.X.env = (false, eval (.Dict [some (.Tuple [] tk tp)] [.Constant (.bool true) bk bp] lp) C.X.env) :: starEach [a] C.X.env := by rfl) (h2 : starEach [a] C.X.env = (false, eval a C.X.env) :: starEach [] C.X.env := by rfl)
    (hc : C.X.calm = true := by rfl) (hs : swapsWithSole [.Tuple [.Name x px, .Name y py] kt pt] (.Tuple [.Dict [some (.Tuple [] tk tp)] [.Constant (.bool true) bk bp] lp, a] k2 pt2) pos.line C.X.env = pure false := by rfl) : DS C F ρ (.Assign [.Tuple [.Name x px, .Name y py] kt pt] (.Tuple [.Dict [some (.Tuple [] tk tp)] [.Constant (.bool true) bk bp] lp, a] k2 pt2) pos) := fun D σ H E q =>
  ⟨_, ps_par hc hN hi hj hij hx hy (pa_cons (pe_disp1 (by have := C.un; omega) (pe_tup pa_nil) pe_bl) (pa_cons pE pa_nil h2) h1) hw hs, fun p hp => ⟨by decide, fun t ht => by
    have npt : t ≠ p := fun e => by rw [e, upd_same] at ht; cases ht
    have ht0 : H t = none := by rw [upd_ne npt] at ht; exact ht
    refine ⟨by rw [upd_ne (Ne.symm npt), upd_same], t, [], .bl true, rfl, upd_same, ?_⟩
    have e : upd (upd (upd H p (.dT [])) t (.tup [])) p (.dT [([], .bl true)]) = upd (upd H t (.tup [])) p (.dT [([], .bl true)]) := by
      funext c
      by_cases h1 : c = p
      · rw [h1, upd_same, upd_same]
      · rw [upd_ne h1, upd_ne h1]
        by_cases h2 : c = t
        · rw [h2, upd_same, upd_same]
        · rw [upd_ne h2, upd_ne h2, upd_ne h1]
    rw [e]
    have E1 := E.grow (Gr.of (same_new (o := .tup []) ht0))
    have hp1 : upd H t (.tup []) p = none := by rw [upd_ne (Ne.symm npt)]; exact hp
    obtain ⟨E2, s2⟩ := E1.fresh (o := .dT [([], .bl true)]) (sv := .dic p [([], .bool true)]) (i := i) hp1 rfl hli fun o1 o2 => ⟨rfl, o1, o2, [.bl true], upd_same, .cons (.bl _) .nil⟩
    refine hcon _ _ _ fun v hv => ?_
    obtain ⟨E3, s3⟩ := E2.put (i := j) (sv := .dat d) (o := some v) rfl ⟨v, rfl, hv _⟩
    exact ⟨.ref p, v, rfl, q.nx _ _ _ (k p) E3 (((vis_gr (Gr.of (same_new (o := .tup []) ht0))).trans s2).trans s3)⟩⟩⟩
end
/-! ## for x in d, d an own dict: it is locked and hidden while the loop runs -/
def lck (C : Ct) (q : Addr) (u : HO) : Ct where
  X := C.X
  W := C.W
  tk := C.tk
  O := fun a => C.O a || a == q
  U := C.U
  le := fun a h => by rw [C.le a h]; rfl
  base := upd C.base q u
  lv := C.lv
  room := C.room
  hd := C.hd
theorem Cell.back {k : Option Str} {H : Hp} {a D : Addr} {o : Obj} {u : HO} (ne : a ≠ D) (h : Cell k (upd H D (.frz o u)) a) : Cell k H a := by
  cases k with
  | none => obtain ⟨x, y, h⟩ := h; exact ⟨x, y, by rw [upd_ne ne] at h; exact h⟩
  | some q =>
    obtain ⟨hq, ps, h1, h2, h3⟩ := h
    refine ⟨hq, ps, by rw [upd_ne ne] at h1; exact h1, h2, fun pos cv hc => ?_⟩
    obtain ⟨c, e1, e2⟩ := h3 pos cv hc
    refine ⟨c, e1, ?_⟩
    rw [upd_ne fun z => by rw [z] at e2; unfold LamX.CodeO at e2; rw [upd_same] at e2; cases e2] at e2
    exact e2
theorem lck_O {C : Ct} {q a : Addr} {u : HO} (h : (lck C q u).O a = false) : C.O a = false ∧ a ≠ q := by
  have h : (C.O a || a == q) = false := h
  rw [Bool.or_eq_false_iff] at h
  exact ⟨h.1, fun e => by rw [e] at h; simp at h⟩
theorem lck_OI {C : Ct} {q a : Addr} {u : HO} (h : C.O a = false) (n : a ≠ q) : (lck C q u).O a = false := by
  show (C.O a || a == q) = false
  rw [Bool.or_eq_false_iff]
  exact ⟨h, by simpa using n⟩
theorem Env.lck {C : Ct} {ρ : Rho} {σ : L2.St} {H : Hp} {i : Nat} {q : Addr} {kvs : List (List Int × PyData)} {od : Obj} {u : HO} (E : Env C ρ σ H) (h : gt ρ i = .dic q kvs) :
    Env (lck C q (.frz od u)) (ρ.set i (.raw (.ref q))) σ (upd H q (.frz od u)) ∧ Same (vis C ρ H) (vis (DD.lck C q (.frz od u)) (ρ.set i (.raw (.ref q))) (upd H q (.frz od u))) := by
  obtain ⟨hσ, h1, h2, xs, h3, h4⟩ := E.dic_of h
  have hx : ∀ φ, H q ≠ some (.ext φ) := fun φ e => by rw [h3] at e; cases e
  have hU : C.U q = false := O_U h1
  have nU : ∀ a, C.U a = true → a ≠ q := fun a e z => by rw [z, hU] at e; cases e
  have s : Same (vis C ρ H) (vis (DD.lck C q (.frz od u)) (ρ.set i (.raw (.ref q))) (upd H q (.frz od u))) := hid_mono fun a o e1 e2 => by
    unfold inn at e1 ⊢
    rw [Bool.or_eq_false_iff] at e1 ⊢
    have ne : a ≠ q := fun z => by
      have : owns ρ a = true := owns_iff.mpr ⟨i, by rw [h, z]; rfl⟩
      rw [this] at e1
      cases e1.2
    refine ⟨⟨lck_OI e1.1 ne, ?_⟩, by rw [upd_ne ne]; exact e2⟩
    cases z : owns (ρ.set i (.raw (.ref q))) a with
    | false => rfl
    | true => rw [owns_set rfl z] at e1; cases e1.2
  refine ⟨⟨by rw [List.length_set]; exact E.len, fun m => ?_, fun a ha => ?_, fun a ha => ?_, ⟨fun a o ha hb => ?_, fun a k ha hb => ?_⟩, fun m l p hm hl => ?_⟩, s⟩
  · rw [gt_set]
    by_cases z : i = m ∧ i < ρ.length
    · rw [if_pos z]
      show σ.getD m none = some (.ref q)
      rw [← z.1, List.getD_eq_getElem?_getD, hσ]
      rfl
    · rw [if_neg z]
      have hm := E.slot m
      have hdis : ∀ p, (gt ρ m).addr = some p → p ≠ q := fun p hp e => by
        have e2 := E.dis i m q (by rw [h]; rfl) (by rw [← e]; exact hp)
        refine z ⟨e2, ?_⟩
        rcases Nat.lt_or_ge i ρ.length with w | w
        · exact w
        · unfold gt at h; rw [List.getD_eq_getElem?_getD, List.getElem?_eq_none w] at h; cases h
      cases e : gt ρ m with
      | no => trivial
      | dat d => rw [e] at hm; obtain ⟨v, e1, e2⟩ := hm; exact ⟨v, e1, e2.up s⟩
      | raw v => rw [e] at hm; exact hm
      | own p ds =>
        rw [e] at hm
        have ne := hdis p (by rw [e]; rfl)
        obtain ⟨e1, g1, g2, xs, g3, g4⟩ := hm
        exact ⟨e1, lck_OI g1 ne, by show upd C.base q _ p = none; rw [upd_ne ne]; exact g2, xs, by rw [upd_ne ne]; exact g3, g4.up s⟩
      | dic p kvs =>
        rw [e] at hm
        have ne := hdis p (by rw [e]; rfl)
        obtain ⟨e1, g1, g2, xs, g3, g4⟩ := hm
        exact ⟨e1, lck_OI g1 ne, by show upd C.base q _ p = none; rw [upd_ne ne]; exact g2, xs, by rw [upd_ne ne]; exact g3, g4.up s⟩
      | thg p th =>
        rw [e] at hm
        have ne := hdis p (by rw [e]; rfl)
        obtain ⟨e1, g1, g2, xs, g3, g4⟩ := hm
        exact ⟨e1, lck_OI g1 ne, by show upd C.base q _ p = none; rw [upd_ne ne]; exact g2, xs, by rw [upd_ne ne]; exact g3, th.up s g4⟩
  · obtain ⟨k, hk⟩ := E.cell a ha
    exact ⟨k, Cell.mutG hx (nU a ha) hk⟩
  · by_cases z : a = q
    · rw [z, upd_same]; simp
    · rw [upd_ne z]
      refine E.alloc a ?_
      have ha : (C.O a || a == q) = true := ha
      rw [Bool.or_eq_true] at ha
      rcases ha with ha | ha
      · exact ha
      · exact absurd (by simpa using ha) z
  · have hb : upd C.base q (.frz od u) a = some o := hb
    by_cases z : a = q
    · rw [z, upd_same] at hb ⊢; exact hb
    · rw [upd_ne z] at hb ⊢; exact E.gr.keep a o ha hb
  · have hb : Cell k (upd C.base q (.frz od u)) a := hb
    exact Cell.mutG hx (nU a ha) (E.gr.cell a k ha (Cell.back (nU a ha) hb))
  · have key : ∀ m', (gt (ρ.set i (.raw (.ref q))) m').addr = some p → (gt ρ m').addr = some p := fun m' hm' => by
      rw [gt_set] at hm'
      split at hm'
      · cases hm'
      · exact hm'
    exact E.dis m l p (key m hm) (key l hl)
theorem Env.unl {C : Ct} {ρ : Rho} {σ : L2.St} {H : Hp} {q : Addr} {od : Obj} {u u' : HO} (E : Env (DD.lck C q (.frz od u)) ρ σ H) (h : H q = some (.frz od u)) (h1 : C.O q = false) (h2 : C.base q = none) :
    Env C ρ σ (upd H q u') ∧ Same (vis (DD.lck C q (.frz od u)) ρ H) (vis C ρ (upd H q u')) := by
  have hx : ∀ φ, H q ≠ some (.ext φ) := fun φ e => by rw [h] at e; cases e
  have hU : C.U q = false := O_U h1
  have nU : ∀ a, C.U a = true → a ≠ q := fun a e z => by rw [z, hU] at e; cases e
  have s : Same (vis (DD.lck C q (.frz od u)) ρ H) (vis C ρ (upd H q u')) := hid_mono fun a o e1 e2 => by
    unfold inn at e1 ⊢
    rw [Bool.or_eq_false_iff] at e1 ⊢
    obtain ⟨g1, g2⟩ := lck_O e1.1
    exact ⟨⟨g1, e1.2⟩, by rw [upd_ne g2]; exact e2⟩
  refine ⟨⟨E.len, fun m => ?_, fun a ha => ?_, fun a ha => ?_, ⟨fun a o ha hb => ?_, fun a k ha hb => ?_⟩, E.dis⟩, s⟩
  · have hm := E.slot m
    cases e : gt ρ m with
    | no => trivial
    | dat d => rw [e] at hm; obtain ⟨v, e1, e2⟩ := hm; exact ⟨v, e1, e2.up s⟩
    | raw v => rw [e] at hm; exact hm
    | own p ds =>
      rw [e] at hm
      obtain ⟨e1, g1, g2, xs, g3, g4⟩ := hm
      obtain ⟨g1, ne⟩ := lck_O g1
      exact ⟨e1, g1, by have g2 : upd C.base q _ p = none := g2; rw [upd_ne ne] at g2; exact g2, xs, by rw [upd_ne ne]; exact g3, g4.up s⟩
    | dic p kvs =>
      rw [e] at hm
      obtain ⟨e1, g1, g2, xs, g3, g4⟩ := hm
      obtain ⟨g1, ne⟩ := lck_O g1
      exact ⟨e1, g1, by have g2 : upd C.base q _ p = none := g2; rw [upd_ne ne] at g2; exact g2, xs, by rw [upd_ne ne]; exact g3, g4.up s⟩
    | thg p th =>
      rw [e] at hm
      obtain ⟨e1, g1, g2, xs, g3, g4⟩ := hm
      obtain ⟨g1, ne⟩ := lck_O g1
      exact ⟨e1, g1, by have g2 : upd C.base q _ p = none := g2; rw [upd_ne ne] at g2; exact g2, xs, by rw [upd_ne ne]; exact g3, th.up s g4⟩
  · obtain ⟨k, hk⟩ := E.cell a ha
    exact ⟨k, Cell.mutG hx (nU a ha) hk⟩
  · by_cases z : a = q
    · rw [z, upd_same]; simp
    · rw [upd_ne z]
      exact E.alloc a (by show (C.O a || a == q) = true; rw [ha]; rfl)
  · have z : a ≠ q := fun z => by rw [z, h2] at hb; cases hb
    rw [upd_ne z]
    exact E.gr.keep a o ha (by show upd C.base q _ a = _; rw [upd_ne z]; exact hb)
  · refine Cell.mutG hx (nU a ha) (E.gr.cell a k ha ?_)
    show Cell k (upd C.base q _) a
    exact Cell.mutG (fun φ e => by rw [h2] at e; cases e) (nU a ha) hb
/-- only the next turn is wanted -/
def nxF (I : Rho → Prop) : Out → Prop
  | .nx ρ => I ρ
  | _ => False
section
variable {C : Ct} {ρ : Rho} {F : Out → Prop} {pos : Pos}
theorem ds_forD (i j : Nat) {x y : Str} {px py : Pos} {q : Addr} {kvs : List (List Int × PyData)} {body : List Stmt} (I : Nat → Rho → Prop) (hsl : gt ρ i = .dic q kvs) (hOU : ∀ a, C.O a = true → C.U a = true) (h0 : I 0 (ρ.set i (.raw (.ref q))))
    (hb : ∀ (u : HO) (k : Nat) (z : List Int × PyData) ρ', kvs[k]? = some z → I k ρ' → DSs (lck C q u) (nxF (I (k + 1))) (ρ'.set j (.dat (tI z.1))) body) (hd : ∀ ρ', I kvs.length ρ' → F (.nx ρ'))
    (hN : C.X.N.Nodup) (hi : C.X.N[i]? = some y) (hj : C.X.N[j]? = some x) (hv : Vis C.X.env.scope y) (hx : Loc C.X.env.scope x) (hp : PassesOwn (model C.X.prog C.X.w) C.X.A C.X.env C.X.xe) (hc : C.X.calm = true := by rfl)
    (hdb : (y == ("__debug__" : Str)) = false := by decide) (hcd : (y == ("__classdict__" : Str)) = false := by decide) (hf : C.X.fn x = true ∨ C.X.env.scope.names.lookup x = some .local := by first | exact .inl rfl | exact .inr rfl) (hs : ∀ z, foldedSetIterable (.Name y py) C.X.env z = pure z := by intro _; rfl) :
    DS C F ρ (.For (.Name x px) (.Name y py) body [] pos) := fun D σ H E K => by
  obtain ⟨hσ, h1, h2, xs, h3, h4⟩ := E.dic_of hsl
  have hU : C.U q = false := O_U h1
  have hlen := h4.len
  rw [List.length_map] at hlen
  have hzl : ((kvs.map fun z => keyOf z.1).zip xs).length = kvs.length := by rw [List.length_zip, List.length_map]; omega
  refine ⟨_, ps_lock (ps_for hp hc (pi_keys (pe_var hi hv hdb hcd)) pG pSs hs), q, _, h3, trivial, fun od => ?_⟩
  obtain ⟨E0, s0⟩ := E.lck (od := od) (u := .dT ((kvs.map fun z => keyOf z.1).zip xs)) hsl
  refine ⟨.ref q, hσ, q, od, rfl, .inr ⟨_, upd_same, ?_⟩⟩
  refine ⟨fun k m σ' H' => m = kvs.length - k ∧ k ≤ kvs.length ∧ ∃ ρ', I k ρ' ∧ Env (lck C q (.frz od (.dT ((kvs.map fun z => keyOf z.1).zip xs)))) ρ' σ' H' ∧ Same (vis C ρ H) (vis (lck C q (.frz od (.dT ((kvs.map fun z => keyOf z.1).zip xs)))) ρ' H'), ⟨kvs.length, by simp, Nat.zero_le _, _, h0, E0, s0⟩, ?_⟩
  rintro k m σ' H' ⟨rfl, hkl, ρ', hI, E', s'⟩
  have hq : H' q = some (.frz od (.dT ((kvs.map fun z => keyOf z.1).zip xs))) := E'.gr.keep q _ hU upd_same
  by_cases hlt : k < kvs.length
  · refine .inr ⟨⟨hq, by rw [hzl]; exact hlt⟩, fun σ2 H2 => k + 1 ≤ kvs.length ∧ ∃ ρ2, I (k + 1) ρ2 ∧ Env (lck C q (.frz od (.dT ((kvs.map fun z => keyOf z.1).zip xs)))) ρ2 σ2 H2 ∧ Same (vis C ρ H) (vis (lck C q (.frz od (.dT ((kvs.map fun z => keyOf z.1).zip xs)))) ρ2 H2), fun σ2 H2 ⟨a1, a2⟩ => ⟨kvs.length - (k + 1), by omega, rfl, a1, a2⟩, fun xv H2 y => ?_⟩
    obtain ⟨rfl, key, v, q2, hk, rfl, hq2⟩ := y
    obtain ⟨z, hz, hkey⟩ : ∃ z, kvs[k]? = some z ∧ key = keyOf z.1 := by
      refine ⟨kvs[k], List.getElem?_eq_getElem hlt, ?_⟩
      rw [List.getElem?_zip_eq_some] at hk
      have := hk.1
      rw [List.getElem?_map, List.getElem?_eq_getElem hlt] at this
      injection this with this
      exact this.symm
    subst hkey
    rw [keyOf_kV] at hq2
    have hvis : inn (lck C q (.frz od (.dT ((kvs.map fun z => keyOf z.1).zip xs)))) ρ' q2 = false := by
      unfold inn
      rw [Bool.or_eq_false_iff]
      have nq : q2 ≠ q := fun e => by rw [e, hq] at hq2; cases hq2
      refine ⟨lck_OI ?_ nq, ?_⟩
      · cases e : C.O q2 with
        | false => rfl
        | true =>
          obtain ⟨kk, hk2⟩ := E'.cell q2 (hOU q2 e)
          cases kk with
          | none => obtain ⟨a1, a2, a3⟩ := hk2; rw [hq2] at a3; cases a3
          | some w => obtain ⟨_, ps, a3, _⟩ := hk2; rw [hq2] at a3; cases a3
      · cases e : owns ρ' q2 with
        | false => rfl
        | true =>
          obtain ⟨l, hl⟩ := owns_iff.mp e
          have hsl2 := E'.slot l
          cases e3 : gt ρ' l with
          | no => rw [e3] at hl; cases hl
          | dat _ => rw [e3] at hl; cases hl
          | raw _ => rw [e3] at hl; cases hl
          | own p ds =>
            rw [e3] at hl hsl2
            injection hl with hl
            obtain ⟨_, _, _, ys, g, _⟩ := hsl2
            rw [hl, hq2] at g; cases g
          | dic p ks =>
            rw [e3] at hl hsl2
            injection hl with hl
            obtain ⟨_, _, _, ys, g, _⟩ := hsl2
            rw [hl, hq2] at g; cases g
          | thg p th =>
            rw [e3] at hl hsl2
            injection hl with hl
            obtain ⟨_, _, _, ys, g, g2⟩ := hsl2
            rw [hl, hq2] at g; injection g with g; rw [← g] at g2; exact (th.nt g2).elim
    have rx : At (vis (lck C q (.frz od (.dT ((kvs.map fun z => keyOf z.1).zip xs)))) ρ' H2) (.ref q2) (tI z.1) := .tup ((hid_at hvis).trans hq2) (atAll_ints z.1)
    refine dg_name (C := lck C q (.frz od (.dT ((kvs.map fun z => keyOf z.1).zip xs)))) (ρ := ρ') j (d := tI z.1) hN hj hx hf σ' H2 (.ref q2) E' rx _ fun σ3 E3 s3 _ => hb _ k z ρ' hz hI _ σ3 H2 E3 ?_
    exact ⟨fun ρ4 σ4 H4 f E4 s4 => ⟨hlt, ρ4, f, E4, (s'.trans s3).trans s4⟩, fun _ _ _ f => f.elim, fun _ _ _ f => f.elim, fun _ _ _ f => f.elim, fun _ _ _ f => f.elim⟩
  · have e : k = kvs.length := by omega
    subst e
    obtain ⟨E5, s5⟩ := E'.unl (u' := .dT ((kvs.map fun z => keyOf z.1).zip xs)) hq h1 h2
    exact .inl ⟨⟨hq, by rw [hzl]; exact Nat.le_refl _⟩, hq, K.nx _ _ _ (hd ρ' hI) E5 (s'.trans s5)⟩
end
end DD

namespace DD
open PySem L2 PyProof.Rows
/-! ## how many arrangements a row has -/
theorem nd_le {α : Type} [DecidableEq α] : ∀ {l m : List α}, l.Nodup → (∀ x ∈ l, x ∈ m) → l.length ≤ m.length
  | [], _, _, _ => Nat.zero_le _
  | a :: l, m, h, s => by
    obtain ⟨h1, h2⟩ := List.nodup_cons.mp h
    have ha := s a List.mem_cons_self
    have := nd_le (l := l) (m := m.erase a) h2 fun x hx => (List.mem_erase_of_ne (fun e => h1 (by rw [← e]; exact hx) : x ≠ a)).mpr (s x (List.mem_cons_of_mem _ hx))
    rw [List.length_erase_of_mem ha] at this
    have hp := List.length_pos_of_mem ha
    rw [List.length_cons]
    omega
def ded {α : Type} [DecidableEq α] : List α → List α
  | [] => []
  | a :: l => if a ∈ l then ded l else a :: ded l
theorem mem_ded {α : Type} [DecidableEq α] {x : α} : ∀ {l : List α}, x ∈ ded l ↔ x ∈ l
  | [] => by rw [ded]
  | a :: l => by
    rw [ded]
    split
    · rename_i h
      rw [mem_ded, List.mem_cons]
      exact ⟨.inr, fun e => e.elim (fun e => e ▸ h) id⟩
    · rw [List.mem_cons, mem_ded, List.mem_cons]
theorem nd_ded {α : Type} [DecidableEq α] : ∀ l : List α, (ded l).Nodup
  | [] => by rw [ded]; exact List.Pairwise.nil
  | a :: l => by
    rw [ded]
    split
    · exact nd_ded l
    · rename_i h
      exact List.nodup_cons.mpr ⟨fun e => h (mem_ded.mp e), nd_ded l⟩
/-- the places of d in a row, with the row without it -/
def posI (d : Int) : List Int → List (List Int × Nat)
  | [] => []
  | x :: xs => (if x = d then [(xs, 0)] else []) ++ (posI d xs).map fun p => (x :: p.1, p.2 + 1)
theorem pos_len (d : Int) : ∀ r : List Int, (posI d r).length = r.count d
  | [] => rfl
  | x :: xs => by
    rw [posI, List.length_append, List.length_map, pos_len d xs, List.count_cons]
    by_cases h : x = d
    · rw [if_pos h, if_pos (by simpa using h)]; simp [Nat.add_comm]
    · rw [if_neg h, if_neg (by simpa using h)]; simp
theorem pos_is {d : Int} : ∀ {r : List Int} {p : List Int × Nat}, p ∈ posI d r → r = p.1.take p.2 ++ d :: p.1.drop p.2 ∧ p.2 ≤ p.1.length
  | [], p, h => nomatch h
  | x :: xs, p, h => by
    rw [posI, List.mem_append] at h
    rcases h with h | h
    · split at h
      · rename_i e
        rw [List.mem_singleton.mp h, e]
        exact ⟨rfl, Nat.zero_le _⟩
      · cases h
    · obtain ⟨q, hq, rfl⟩ := List.mem_map.mp h
      obtain ⟨h1, h2⟩ := pos_is hq
      refine ⟨?_, by show q.2 + 1 ≤ q.1.length + 1; omega⟩
      show x :: xs = (x :: q.1.take q.2) ++ d :: q.1.drop q.2
      conv => lhs; rw [h1]
      rfl
theorem pos_nd (d : Int) : ∀ r : List Int, (posI d r).Nodup
  | [] => List.Pairwise.nil
  | x :: xs => by
    rw [posI]
    have ih := nd_map (f := fun p : List Int × Nat => (x :: p.1, p.2 + 1)) (pos_nd d xs) fun p _ q _ e => by
      injection e with e1 e2
      injection e1 with _ e1
      exact Prod.ext e1 (by omega)
    split
    · refine List.nodup_cons.mpr ⟨fun e => ?_, ih⟩
      obtain ⟨q, _, e2⟩ := List.mem_map.mp e
      injection e2 with _ e2
      cases e2
    · exact ih
theorem fm_len_eq {α β : Type} (f : α → List β) (n : Nat) : ∀ l : List α, (∀ x ∈ l, (f x).length = n) → (l.flatMap f).length = l.length * n
  | [], _ => by simp
  | x :: l, h => by
    rw [List.flatMap_cons, List.length_append, List.length_cons, Nat.succ_mul, h x List.mem_cons_self, fm_len_eq f n l fun y hy => h y (List.mem_cons_of_mem _ hy)]
    omega
theorem perms_le {f : List Int} {d : Int} {m k : Nat} (hk : f.length = k) (ih : ∀ L : List (List Int), L.Nodup → (∀ r ∈ L, r.Perm f) → L.length ≤ m) (L : List (List Int)) (hL : L.Nodup) (hp : ∀ r ∈ L, r.Perm (f ++ [d])) : L.length * (f ++ [d]).count d ≤ m * (k + 1) := by
  have hT : (L.flatMap (posI d)).length = L.length * (f ++ [d]).count d := fm_len_eq _ _ L fun r hr => by rw [pos_len]; exact (hp r hr).count_eq d
  have hin : ∀ p ∈ L.flatMap (posI d), p.1.Perm f ∧ p.2 ≤ k := fun p h => by
    obtain ⟨r, hr, h1⟩ := List.mem_flatMap.mp h
    obtain ⟨h2, h3⟩ := pos_is h1
    have h4 : (d :: p.1).Perm (d :: f) := by
      have a : r.Perm (d :: p.1) := by
        rw [h2]
        refine List.perm_middle.trans ?_
        rw [List.take_append_drop]
      exact a.symm.trans ((hp r hr).trans (List.perm_append_singleton d f))
    have h5 := (List.perm_cons d).mp h4
    exact ⟨h5, by rw [← hk, ← h5.length_eq]; exact h3⟩
  have nT : (L.flatMap (posI d)).Nodup := by
    unfold List.Nodup
    rw [List.pairwise_flatMap]
    refine ⟨fun r _ => pos_nd d r, List.Pairwise.imp ?_ hL⟩
    intro r1 r2 hne p hp1 q hq e
    subst e
    exact hne ((pos_is hp1).1.trans (pos_is hq).1.symm)
  have hS := ih (ded ((L.flatMap (posI d)).map (·.1))) (nd_ded _) fun s hs => by
    obtain ⟨p, hp1, rfl⟩ := List.mem_map.mp (mem_ded.mp hs)
    exact (hin p hp1).1
  have hle := nd_le (m := (ded ((L.flatMap (posI d)).map (·.1))).flatMap fun s => (List.range (k + 1)).map fun i => (s, i)) nT fun p hp1 => by
    refine List.mem_flatMap.mpr ⟨p.1, mem_ded.mpr (List.mem_map.mpr ⟨p, hp1, rfl⟩), List.mem_map.mpr ⟨p.2, List.mem_range.mpr ?_, rfl⟩⟩
    have := (hin p hp1).2
    omega
  rw [hT, fm_len_eq _ (k + 1) _ fun s _ => by rw [List.length_map, List.length_range]] at hle
  exact Nat.le_trans hle (Nat.mul_le_mul_right _ hS)
theorem fal_many {b : Int} : ∀ {k : Nat} {z : List Int × Int}, z ∈ falN b k → ∃ m : Nat, z.2 = (m : Int) ∧ ∀ L : List (List Int), L.Nodup → (∀ r ∈ L, r.Perm z.1) → L.length ≤ m
  | 0, z, h => by
    rw [List.mem_singleton.mp h]
    refine ⟨1, rfl, fun L hL hp => ?_⟩
    have := nd_le (m := [[]]) hL fun r hr => by rw [(hp r hr).eq_nil]; simp
    exact this
  | k + 1, z, h => by
    obtain ⟨y, hy, hz⟩ := List.mem_flatMap.mp h
    obtain ⟨m, e, ih⟩ := fal_many hy
    have hl := (fal_ok hy).len
    unfold extF at hz
    obtain ⟨d, hd, rfl⟩ := List.mem_map.mp hz
    refine ⟨m * (k + 1) / (y.1 ++ [(d : Int)]).count (d : Int), ?_, fun L hL hp => ?_⟩
    · show y.2 * ((k : Int) + 1) / _ = _
      rw [e, Int.natCast_ediv, Int.natCast_mul, Int.natCast_add]
      rfl
    · have hc : 0 < (y.1 ++ [(d : Int)]).count (d : Int) := List.count_pos_iff.mpr (by simp)
      rw [Nat.le_div_iff_mul_le hc]
      exact perms_le hl ih L hL hp
theorem sum_ge : ∀ {l : List Int} {x : Int}, (∀ y ∈ l, 0 ≤ y) → x ∈ l → x ≤ l.sum
  | a :: l, x, h, hx => by
    rw [List.sum_cons]
    have h0 : 0 ≤ l.sum := by
      clear hx
      have h2 : ∀ y ∈ l, 0 ≤ y := fun y hy => h y (List.mem_cons_of_mem _ hy)
      clear h
      induction l with
      | nil => exact Int.le_refl _
      | cons c l ih =>
        rw [List.sum_cons]
        have := h2 c List.mem_cons_self
        have := ih fun y hy => h2 y (List.mem_cons_of_mem _ hy)
        omega
    rcases List.mem_cons.mp hx with rfl | hx
    · omega
    · have := sum_ge (fun y hy => h y (List.mem_cons_of_mem _ hy)) hx
      have := h a List.mem_cons_self
      omega
theorem fore_fal {b : Int} {r : List Int} (hd : Dg b r) : ∃ m, (falI r, m) ∈ foreN b (stepI b r) := by
  obtain ⟨m, hm⟩ := fal_mem (falI_R hd rfl)
  refine ⟨m, List.mem_filter.mpr ⟨?_, decide_eq_true ?_⟩⟩
  · rw [stepI_len]; exact hm
  · exact step_perm (fal_of_perm r)
theorem cntF_ge {b : Int} {r : List Int} (hd : Dg b r) {L : List (List Int)} (hL : L.Nodup) (hp : ∀ x ∈ L, x.Perm r) : (L.length : Int) ≤ cntF b (stepI b r) := by
  obtain ⟨m, hm⟩ := fore_fal hd
  obtain ⟨M, e, hM⟩ := fal_many (List.mem_filter.mp hm).1
  have e : m = (M : Int) := e
  have h1 : L.length ≤ M := hM L hL fun x hx => (hp x hx).trans (fal_of_perm r).symm
  have h2 : m ≤ cntF b (stepI b r) := sum_ge (fun y hy => by
    obtain ⟨z, hz, rfl⟩ := List.mem_map.mp hy
    obtain ⟨M2, e2, _⟩ := fal_many (List.mem_filter.mp hz).1
    rw [e2]; omega) (List.mem_map.mpr ⟨_, hm, rfl⟩)
  omega
theorem cntF_pos {b : Int} {r : List Int} (hd : Dg b r) : 1 ≤ cntF b (stepI b r) := cntF_ge (L := [r]) hd (by simp) fun x hx => by rw [List.mem_singleton.mp hx]
theorem fore_mem {b : Int} {r : List Int} (hd : Dg b r) : ((forL b (stepI b r)).any fun z => PyData.eqv z (tI (falI r))) = true := by
  obtain ⟨m, hm⟩ := fore_fal hd
  refine List.any_eq_true.mpr ⟨tI (falI r), sort_mem.mpr (List.mem_map.mpr ⟨_, hm, rfl⟩), by rw [eqvT]; exact decide_eq_true rfl⟩
theorem for_rows {b : Int} {ns : List Int} : AllRows (forL b ns) := fun d hd => by
  obtain ⟨z, _, rfl⟩ := List.mem_map.mp (sort_mem.mp hd)
  exact ⟨_, rfl⟩
/-! ## two rows of the same step -/
theorem meet_kin {b : Int} {r o : List Int} (hb : Base b) (hr : Row b r) (ho : Row b o) (e : stepI b r = stepI b o) : meetD b r o = .int (if r = o then 0 else 1) := by
  by_cases h : r = o
  · rw [if_pos h]
    exact meetD_some (k := 0) (fun i hi => absurd hi (Nat.not_lt_zero _)) (by omega) h
  · rw [if_neg h]
    have e1 : orb b r 1 = orb b o 1 := e
    refine meetD_some (k := 1) (fun i hi => by have : i = 0 := by omega
                                               subst this; exact h) ?_ e1
    rcases Nat.eq_zero_or_pos (max (crs b r).2 (crs b o).2) with z | z
    · exfalso
      have c1 := crs_ok hb hr
      have c2 := crs_ok hb ho
      have z1 : (crs b r).2 = 0 := by omega
      have z2 : (crs b o).2 = 0 := by omega
      have l1 := c1.lt
      have l2 := c2.lt
      have p1 := c1.pers (i := 0) (by omega) ((crs b o).1 - (crs b o).2)
      have p2 := c2.pers (i := 0) (by omega) ((crs b r).1 - (crs b r).2)
      rw [Nat.zero_add] at p1 p2
      rw [Nat.mul_comm] at p2
      obtain ⟨t, ht⟩ : ∃ t, ((crs b o).1 - (crs b o).2) * ((crs b r).1 - (crs b r).2) = 1 + t := ⟨((crs b o).1 - (crs b o).2) * ((crs b r).1 - (crs b r).2) - 1, by
        have : 0 < ((crs b o).1 - (crs b o).2) * ((crs b r).1 - (crs b r).2) := Nat.mul_pos (by omega) (by omega)
        omega⟩
      rw [ht, ← orb_add, e1, orb_add, ← ht] at p1
      exact h (p1.symm.trans p2)
    · omega
end DD

namespace DD
open PySem PySem.Spec L2 PyProof.Rows
/-! ## a set of a list of tuples: few unlike ones, however long the list -/
def FewT (ks : List (Addr × List Int)) : Prop := ∀ L : List (Addr × List Int), (L.map (·.2)).Nodup → (∀ p ∈ L, p ∈ ks) → L.length + 1 < 64
structure GotD (ks : List (Addr × List Int)) (i : Nat) (L : List (Addr × List Int)) : Prop where
  sub : ∀ p ∈ L, p ∈ ks
  all : ∀ p ∈ ks.take i, p.2 ∈ L.map (·.2)
section
variable {P : Program} {w : World} {A : Around} {E : Value → Shared → Prop} {s : Shared}
theorem set_loopD {I : Addr} {fp wr : List Addr} {G : Array GenState → Array GenState → Prop} {n : Nat} {Pv : Nat → Value → Prop} {St : Nat → Shared → Prop} {R : Result → Shared → Prop}
    (W : WalksS P w A.in1 I fp wr G n Pv St) (S : Addr) (hSf : S ∉ fp) (ks : List (Addr × List Int)) (hn : n = ks.length) (few : FewT ks) (hval : ∀ i v, Pv i v → ∃ p, ks[i]? = some p ∧ v = .ref p.1)
    (h0 : Heap) (hk : ∀ p ∈ ks, IsT P w h0 p.2 p.1) (hS0 : h0.get? S = none) (hw0 : ∀ b ∈ wr, h0.get? b = none) (hu : A.in1.units < cLine) :
    ∀ (m i : Nat) (s : Shared), n = i + m → St i s → (∀ b o, h0.get? b = some o → s.heap.get? b = some o) → (∃ L es ep t, SetTR P w s.heap S L es ep t ∧ GotD ks i L) →
      (∀ s' L es ep t, Moved (S :: wr) G s s' → SetTR P w s'.heap S L es ep t → GotD ks n L → (∀ b o, h0.get? b = some o → s'.heap.get? b = some o) → R (.ok (.ret .none)) s') →
      codeAny (model P w) A (.builtin "set.update.loop" ⟨[.ref S, .ref I], []⟩) R s
  | m, i, s, e, hst, old, ⟨L, es, ep, t, hS, g⟩, hR => by
    have nSw : S ∉ wr := fun h => hSf (W.sub _ h)
    have up : ∀ b ∈ wr, b ∈ S :: wr := fun b hb => List.mem_cons_of_mem _ hb
    have stays : ∀ {s' : Shared}, Moved wr G s s' → ∀ b o, h0.get? b = some o → s'.heap.get? b = some o := fun hm b o q => hm.heap b o (fun hb => by rw [hw0 b hb] at q; cases q) (old b o q)
    refine codeAny_builtin F.entry_set_update_loop ?_
    rw [Around.under_plainId F.plain_set_update_loop _]
    show wpAny _ A.in1 (pyNext (.ref I) >>= _) _ _ s
    match m with
    | 0 =>
      have hi : i = n := by omega
      subst hi
      refine wpAny_bind (W.done s _ _ hst fun s' hm => ?_)
      show wpAny _ A.in1 (ret Value.none) _ _ s'
      have old' := stays hm
      exact wpAny_pure (hR s' L es ep t (hm.mono up) (hS.keep (fun o q => hm.heap S o nSw q) fun p hp => isT_keep (hk p (g.sub p hp)) old') g old')
    | m + 1 =>
      refine wpAny_bind (W.item i s _ _ (by omega) hst fun v s' hP hst' hm => ?_)
      obtain ⟨p, hp, rfl⟩ := hval i v hP
      have old' := stays hm
      have hS' : SetTR P w s'.heap S L es ep t := hS.keep (fun o q => hm.heap S o nSw q) fun q hq => isT_keep (hk q (g.sub q hq)) old'
      have pin : p ∈ ks := List.mem_of_getElem? hp
      have hx : IsT P w s'.heap p.2 p.1 := isT_keep (hk p pin) old'
      show wpAny _ A.in1 (holding [Value.ref p.1] (setAdd S (.ref p.1)) >>= _) _ _ s'
      refine wpAny_bind (wpAny_holding ?_)
      unfold setAdd
      refine wpAny_holding (wpAny_bind (wpAny_pyHash_tuple hu hx ?_))
      refine add_at (s := { s' with toks := s'.toks + (p.2.length + 1) }) hS' hx hu (few L hS'.nd g.sub) fun b h' L' es' ep' t' same hS2 there new => ?_
      have et : ks.take (i + 1) = ks.take i ++ [p] := by rw [List.take_succ, hp]; rfl
      have g' : GotD ks (i + 1) L' := by
        by_cases c : p.2 ∈ L.map (·.2)
        · rw [there c]
          refine ⟨g.sub, fun q hq => ?_⟩
          rw [et] at hq
          rcases List.mem_append.mp hq with z | z
          · exact g.all q z
          · rw [List.mem_singleton.mp z]; exact c
        · have pm := new c
          refine ⟨fun q hq => ?_, fun q hq => ?_⟩
          · rcases List.mem_cons.mp (pm.mem_iff.mp hq) with z | z
            · rw [z]; exact pin
            · exact g.sub q z
          · rw [(pm.map (·.2)).mem_iff, List.map_cons]
            rw [et] at hq
            rcases List.mem_append.mp hq with z | z
            · exact List.mem_cons_of_mem _ (g.all q z)
            · rw [List.mem_singleton.mp z]; exact List.mem_cons_self
      have old2 : ∀ b o, h0.get? b = some o → h'.get? b = some o := fun b o q => (same.2 b (fun z => by rw [z, hS0] at q; cases q)).trans (old' b o q)
      refine wpAny_pure ⟨plainId_quiet F.plain_set_update_loop _, set_loopD W S hSf ks hn few hval h0 hk hS0 hw0 hu m (i + 1) _ (by omega) (W.frame _ s' _ _ hst' (Nat.le_add_right _ _) fun b hb o q => ?_) old2 ⟨L', es', ep', t', hS2, g'⟩ fun s2 L2 es2 ep2 t2 hm2 hS3 g3 old3 => ?_⟩
      · rw [same.2 b fun z : b = S => hSf (by rw [← z]; exact hb)]; exact q
      · refine hR s2 L2 es2 ep2 t2 (Moved.trans W.gtrans ((hm.mono up).then_heap (Nat.le_add_right _ _) fun b o hb q => ?_) hm2) hS3 g3 old3
        rw [same.2 b fun z : b = S => hb (by rw [z]; exact List.mem_cons_self)]; exact q
abbrev nset (w : World) : Obj := { cls := .type "set", dict := none, data := .set #[] 0 (.fresh 0 0 (!w.params.followText "set-order")) }
/-- what set(l) leaves -/
def SetGot (P : Program) (w : World) (ks : List (Addr × List Int)) (s : Shared) (s' : Shared) : Prop :=
  ∃ h' tk L es ep t, s' = { s with heap := h', toks := tk } ∧ SetTR P w h' s.heap.objs.size L es ep t ∧ GotD ks ks.length L ∧ ∀ b o, s.heap.get? b = some o → h'.get? b = some o
theorem set_initD {l : Addr} {items : Array Value} (ks : List (Addr × List Int)) (hh : A.handled = none) (hl : s.heap.IsList l items) (hit : items.toList = ks.map fun p => Value.ref p.1)
    (hk : ∀ p ∈ ks, IsT P w s.heap p.2 p.1) (few : FewT ks) (hu : A.units + 2 < cLine) :
    wpAny (model P w) A.in1 (Builtin.«set.__init__» ⟨[.ref s.heap.objs.size, .ref l], []⟩) (fun f s' => ∃ r, f = .done (.ret r) ∧ r = .none ∧ SetGot P w ks s s') E { s with heap := s.heap.push (nset w) } := by
  have hlen : items.size = ks.length := by
    have q := congrArg List.length hit
    rw [Array.length_toList, List.length_map] at q
    exact q
  have hS : (s.heap.push (nset w)).get? s.heap.objs.size = some (nset w) := Heap.get?_push_size _ rfl
  have hT : Shared.TypeIs { s with heap := s.heap.push (nset w) } (.ref s.heap.objs.size) "set" := ⟨_, hS, rfl⟩
  have gone : ∀ b, s.heap.objs.size ≤ b → s.heap.get? b = none := fun b hb => by
    cases q : s.heap.get? b with
    | none => rfl
    | some o => exact absurd (Nat.lt_of_lt_of_le (Heap.lt_size q) hb) (Nat.lt_irrefl _)
  obtain ⟨⟨ocls, odict, odata, oslots⟩, hol, hcl, nl, hdl⟩ := id hl
  simp only at hcl hdl
  subst hcl; subst hdl
  have hlt : l < s.heap.objs.size := Heap.lt_size hol
  have hol' : (s.heap.push (nset w)).get? l = some { cls := .type "list", dict := odict, data := .seq items nl, slots := oslots } := Heap.get?_push_of_some _ hol
  have hl1 : (s.heap.push (nset w)).IsList l items := ⟨_, hol', rfl, nl, rfl⟩
  have f1 := F.sub_list_set
  have f2 := F.sub_list_frozenset
  have f3 : (Value.type "list" == Value.type "dict") = false := by decide
  unfold Builtin.«set.__init__» noKeywords Builtin.Frozenset.updateFrom
  generalize hPI : pyIter = PI
  wp_walk
  subst hPI
  refine wpAny_pyIter_list hl1 ?_
  refine wpAny_bind (wpAny_runValue ?_)
  have hz : (s.heap.push (nset w)).objs.size = s.heap.objs.size + 1 := Heap.size_push ..
  have nI : l ≠ (s.heap.push (nset w)).objs.size := by rw [hz]; exact Nat.ne_of_lt (Nat.lt_succ_of_lt hlt)
  have hh3 : A.in1.in1.handled = none := by simp [hh]
  refine set_loopD ((Walks.list (w := w) (prog := P) hh3 _ l nI items).toS) s.heap.objs.size ?_ ks hlen few (fun i v hv => ?_) s.heap hk (gone _ (Nat.le_refl _)) (fun b hb => gone b ?_) ?_ items.size 0 _ (by omega) ⟨⟨_, Heap.get?_push_size _ rfl, rfl, rfl⟩, hl1.push _⟩ (fun b o q => Heap.get?_push_of_some _ (Heap.get?_push_of_some _ q)) ?_ ?_
  · rw [hz]
    simp only [List.mem_cons, List.not_mem_nil, or_false, not_or]
    exact ⟨Nat.ne_of_lt (Nat.lt_succ_self _), Nat.ne_of_gt hlt⟩
  · have q : items.toList[i]? = some v := by rw [Array.getElem?_toList]; exact hv
    rw [hit, List.getElem?_map] at q
    cases e : ks[i]? with
    | none => rw [e] at q; cases q
    | some p => rw [e] at q; exact ⟨p, rfl, (Option.some.inj q).symm⟩
  · rw [List.mem_singleton.mp hb, hz]
    exact Nat.le_succ _
  · show A.units + 2 < cLine
    exact hu
  · exact ⟨[], #[], 0, _, setTR_fresh (Heap.get?_push_of_some _ hS), ⟨(fun p h => nomatch h), (fun p h => by rw [List.take_zero] at h; cases h)⟩⟩
  · intro s' L es ep t hm hS' g' old
    obtain ⟨h', g2, d', tk', os'⟩ := s'
    have eg : g2 = s.gens := hm.gens
    have ed : d' = s.drawn := hm.drawn
    have eo : os' = s.os := hm.os
    subst eg; subst ed; subst eo
    refine wpAny_pure ?_
    rw [hlen] at g'
    exact wpAny_pure ⟨_, rfl, rfl, h', tk', L, es, ep, t, rfl, hS', g', old⟩
theorem call_setD {l : Addr} {items : Array Value} (ks : List (Addr × List Int)) {Q : Value → Shared → Prop} (hh : A.handled = none) (hl : s.heap.IsList l items) (hit : items.toList = ks.map fun p => Value.ref p.1)
    (hk : ∀ p ∈ ks, IsT P w s.heap p.2 p.1) (few : FewT ks) (hu : A.units + 3 < cLine) (h : ∀ s', SetGot P w ks s s' → Q (.ref s.heap.objs.size) s') : wpAny (model P w) A (call (.type "set") [.ref l]) Q E s := by
  obtain ⟨c, tl, hmro⟩ := F.called_set.mro
  have g1 := F.called_set.made
  have g2 := F.called_set.sub
  have g3 := F.called_set.notType
  have g4 := F.called_set.canCreate
  have g5 := F.typeCall_set_1 (.ref l)
  refine wpAny_call (codeAny_of_tree ?_)
  show wpAny _ _ (callAny (.type "set") _) _ _ _
  refine wpAny_pure ⟨Code.quiet_builtin _ (by decide +kernel), codeAny_builtin F.entry_type_call ?_⟩
  rw [Around.under_plain (weight_type_call_type "set" [.ref l] []) rfl]
  repeat (any_goals (first | assumption | wp_step))
  refine codeAny_mono (code_set_led1 (.ref l) (E := E) (Q₁ := fun obj s₁ => obj = .ref s.heap.objs.size ∧ s₁ = { s with heap := s.heap.push (nset w) }) ⟨rfl, rfl⟩) fun r s₁ hr => ?_
  cases r with
  | error e => exact hr
  | ok fl =>
    cases fl with
    | ret obj =>
      obtain ⟨rfl, rfl⟩ := hr
      have hT : Shared.TypeIs { s with heap := s.heap.push (nset w) } (.ref s.heap.objs.size) "set" := ⟨_, Heap.get?_push_size _ rfl, rfl⟩
      have g6 := F.called_set.init.lookup
      have g7 := F.called_set.init.bind (.ref s.heap.objs.size)
      repeat (any_goals (first | assumption | wp_step))
      refine codeAny_mono (codeAny_call_builtin (R := wants (fun r s₂ => r = .none ∧ SetGot P w ks s s₂) E) F.called_set.init.plain F.entry_set_init (check_set_init_1 hT ?_)) fun r₂ s₂ hr₂ => ?_
      · refine wpAny_mono (set_initD (A := A.in1) (E := E) ks (by simp [hh]) hl hit hk few (by show A.units + 3 < cLine; exact hu)) (fun f s' h => ?_) fun _ _ x => x
        obtain ⟨r, rfl, e2, e3⟩ := h
        exact ⟨e2, e3⟩
      · cases r₂ with
        | error e => exact hr₂
        | ok fl₂ =>
          cases fl₂ with
          | ret r =>
            obtain ⟨rfl, got⟩ := hr₂
            repeat (any_goals (first | assumption | wp_step))
            exact h _ got
          | _ => exact hr₂.elim
    | _ => exact hr.elim
end
/-! ### len(set(l)), set(l) -/
def tLenSetR (K : PySem.W.Frag) (ta : TE) : TE := fun σ H Q => ta σ H fun x H1 => ∃ (l : Addr) (ks : List (Addr × List Int)), x = V.ref l ∧ SqL K H1 l (ks.map fun p => V.ref p.1) ∧ (∀ p ∈ ks, SqT K H1 p.1 (p.2.map V.int)) ∧ FewT ks ∧
  ∀ L : List (List Int), L.Nodup → (∀ k, k ∈ L ↔ k ∈ ks.map (·.2)) → Q (.int L.length) H1
theorem pe_lenSetR {X : Cx} {a : Expr} {ta : TE} {p p2 q pos : Pos} (hc : X.calm = true) (hu : X.A.units + 64 < cLine) (hg : Gl X "len") (hm : X.mg "len" = none) (hg2 : Gl X "set") (hm2 : X.mg "set" = none) (ha : PE X a ta)
    (na : starEach [a] X.env = (false, eval a X.env) :: starEach [] X.env := by rfl) : PE X (.Call (.Name "len" p) [.Call (.Name "set" p2) [a] [] q] [] pos) (tLenSetR X.K ta) := by
  refine ⟨fun pins s σ H Q I h => ?_⟩
  refine Call_ (ld_blt I hg hm PySem.boot_len (PyProof.Rows.callWith_builtin1 (PyProof.Rows.args_cons ?_ rfl) rfl rfl))
  refine Call_ (ld_blt I hg2 hm2 PyProof.Rows.boot_set ?_)
  refine PyProof.Rows.callWith_type1 (PyProof.Rows.args_cons (thn (ha.run pins s σ H _ I h) fun v s1 ⟨x, H1, I1, r1, l, ks, ex, hq, hk, few, q1⟩ => PyProof.Rows.args_nil ?_) na) na rfl
  subst ex
  cases r1
  obtain ⟨its, rv, pl, hz⟩ := I1.list hq
  refine call_setD (P := X.prog) (w := X.w) ks (I1.ok.hd hc) pl.isList (by simpa using refs_of_vals rv) (fun p hp => I1.isT (hk p hp)) few (by omega) fun s' got => PyProof.Rows.args_nil ?_
  obtain ⟨h', tk, L, es, ep, t, rfl, R, g, old⟩ := got
  obtain ⟨o, ho, hex, hd⟩ := R.ob
  have I2 : Inv X pins σ H1 { s1 with heap := h', toks := tk } := I1.kept old
  have hsz : es.size = L.length := SetTR.size (s := { s1 with heap := h', toks := tk }) R
  have z := q1 (L.map (·.2)) R.nd fun k => ⟨fun e => by
    obtain ⟨p, hp, rfl⟩ := List.mem_map.mp e
    exact List.mem_map.mpr ⟨p, g.sub p hp, rfl⟩, fun e => by
    obtain ⟨p, hp, rfl⟩ := List.mem_map.mp e
    exact g.all p (by rw [List.take_length]; exact hp)⟩
  rw [List.length_map, ← hsz] at z
  exact call_len_set ho hex hd (SetTR.fits (s := { s1 with heap := h', toks := tk }) R) (by rw [hsz]; have := R.few; omega) ⟨.int es.size, H1, I2.tok _, ⟨_, rfl⟩, z⟩
theorem rows_at {H : Hp} : ∀ {rs : List (List Int)} {vs : List V}, AtAll H vs (rs.map tI) → ∃ ks : List (Addr × List Int), vs = ks.map (fun p => V.ref p.1) ∧ ks.map (·.2) = rs ∧ ∀ p ∈ ks, H p.1 = some (.tup (p.2.map V.int))
  | [], _, h => by cases h; exact ⟨[], rfl, rfl, fun p h => nomatch h⟩
  | r :: rs, _, h => by
    cases h with
    | cons h1 h2 =>
      obtain ⟨a, rfl, ha⟩ := iv_tup h1
      rw [keyOf_kV] at ha
      obtain ⟨ks, rfl, e, hk⟩ := rows_at h2
      refine ⟨(a, r) :: ks, rfl, by rw [List.map_cons, e], fun p hp => ?_⟩
      rcases List.mem_cons.mp hp with rfl | hp
      · exact ha
      · exact hk p hp
/-- fewer than 63 unlike ones -/
def FewR (rs : List (List Int)) : Prop := ∀ L : List (List Int), L.Nodup → (∀ r ∈ L, r ∈ rs) → L.length < 63
theorem FewR.few {ks : List (Addr × List Int)} (h : FewR (ks.map (·.2))) : FewT ks := fun L hn hs => by
  have := h (L.map (·.2)) hn fun r hr => by
    obtain ⟨p, hp, rfl⟩ := List.mem_map.mp hr
    exact List.mem_map.mpr ⟨p, hs p hp, rfl⟩
  rw [List.length_map] at this
  omega
theorem de_lenSetR {C : Ct} {Ξ : Addr → Prop} {ρ : Rho} {a : Expr} {rs : List (List Int)} {p p2 q pos : Pos} (hg : Gl C.X "len") (hm : C.X.mg "len" = none) (hg2 : Gl C.X "set") (hm2 : C.X.mg "set" = none) (few : FewR rs) (ha : DEd C Ξ ρ a (.list (rs.map tI))) (hc : C.X.calm = true := by rfl)
    (na : starEach [a] C.X.env = (false, eval a C.X.env) :: starEach [] C.X.env := by rfl) : DEd C Ξ ρ (.Call (.Name "len" p) [.Call (.Name "set" p2) [a] [] q] [] pos) (.int ((ded rs).length : Int)) := fun σ H E Q qq z =>
  ⟨_, pe_lenSetR hc (by have := C.un; omega) hg hm hg2 hm2 pE na, ha σ H E _ (fun d v H2 pd g r => by
    subst pd
    obtain ⟨l, xs, rfl, h1, h2⟩ := r.ref_list
    obtain ⟨ks, rfl, e, hk⟩ := rows_at h2
    subst e
    refine ⟨l, ks, rfl, SqL.of (hid_le _ _ h1), fun p hp => SqT.of (hid_le _ _ (hk p hp)), few.few, fun L k1 k2 => qq _ _ H2 ?_ g (.int _)⟩
    have e1 := nd_le k1 (m := ded (ks.map (·.2))) fun x hx => mem_ded.mpr ((k2 x).mp hx)
    have e2 := nd_le (nd_ded (ks.map (·.2))) (m := L) fun x hx => (k2 x).mpr (mem_ded.mp hx)
    rw [show (ded (ks.map (·.2))).length = L.length by omega]) z⟩
end DD

namespace DD
open PySem L2 PyProof.Rows
/-! ## steps and orphans -/
def stepsN (b : Int) (n : Nat) : List (List Int) := (falN b n).map fun z => stepI b z.1
def orphN (b : Int) (n : Nat) : Int := b ^ n - ((ded (stepsN b n)).length : Int)
theorem steps_C (b : Int) (n : Nat) : stepsN b n = (falN b n).map fun z => stepC b z.1 := List.map_congr_left fun z _ => step_C b z.1
theorem few_fin : ∀ b ∈ LB, ∀ n ∈ [1, 2, 3, 4, 5, 6, 7], b ^ n ≤ 700 → (ded ((falN b n).map fun z => stepC b z.1)).length < 63 := by decide +kernel
theorem orp_fin : ∀ b ∈ LB, ((ded ((falN b 1).map fun z => stepC b z.1)).length : Int) = 1 ∧ ((ded ((falN b 2).map fun z => stepC b z.1)).length : Int) = b := by decide +kernel
theorem few_steps {b : Int} {n : Nat} (hb : b ∈ LB) (hn : 1 ≤ n ∧ n ≤ 7) (hp : b ^ n ≤ 700) : FewR (stepsN b n) := fun L hL hs => by
  have h1 := few_fin b hb n (by simp only [List.mem_cons, List.not_mem_nil, or_false]; omega) hp
  rw [← steps_C] at h1
  exact Nat.lt_of_le_of_lt (nd_le hL fun r hr => mem_ded.mpr (hs r hr)) h1
theorem mem_steps {b : Int} {n : Nat} {k : List Int} (hb : 1 ≤ b) : k ∈ stepsN b n ↔ ∃ r ∈ allR b n, stepI b r = k := by
  constructor
  · intro h
    obtain ⟨z, hz, rfl⟩ := List.mem_map.mp h
    have f := fal_ok hz
    exact ⟨z.1, (allR_mem hb).mpr ⟨f.dg, f.len⟩, rfl⟩
  · rintro ⟨r, hr, rfl⟩
    obtain ⟨h1, h2⟩ := (allR_mem hb).mp hr
    obtain ⟨m, hm⟩ := fal_mem (falI_R h1 h2)
    exact List.mem_map.mpr ⟨_, hm, step_perm (fal_of_perm r)⟩
theorem steps_sub {b : Int} {n : Nat} {k : List Int} (hb : 1 ≤ b) (h : k ∈ stepsN b n) : k ∈ allR b n := by
  obtain ⟨r, hr, rfl⟩ := (mem_steps hb).mp h
  obtain ⟨h1, h2⟩ := (allR_mem hb).mp hr
  refine (allR_mem hb).mpr ⟨?_, by rw [stepI_len]; exact h2⟩
  unfold stepI
  exact wrI_dg hb _ _ _ (fun _ h => nomatch h)
theorem find_keys {kvs : List (List Int × PyData)} {k : List Int} : (kvs.find? fun z => decide (z.1 = k)).isSome = decide (k ∈ kvs.map (·.1)) := by
  rw [Bool.eq_iff_iff, List.find?_isSome, decide_eq_true_iff, List.mem_map]
  constructor
  · rintro ⟨z, hz, e⟩; exact ⟨z, hz, of_decide_eq_true e⟩
  · rintro ⟨z, hz, e⟩; exact ⟨z, hz, decide_eq_true e⟩
theorem flen {α : Type} (p : α → Bool) : ∀ W : List α, (W.filter p).length + (W.filter fun x => !p x).length = W.length
  | [] => rfl
  | x :: W => by
    have ih := flen p W
    rw [List.filter_cons, List.filter_cons, List.length_cons]
    cases p x with
    | true => simp only [Bool.not_true, if_true, if_false, Bool.false_eq_true, List.length_cons]; omega
    | false => simp only [Bool.not_false, if_true, if_false, Bool.false_eq_true, List.length_cons]; omega
theorem filt_len {W K : List (List Int)} (hW : W.Nodup) (hK : K.Nodup) (h : ∀ k ∈ K, k ∈ W) : (W.filter fun x => !decide (x ∈ K)).length + K.length = W.length := by
  have h1 := flen (fun x => decide (x ∈ K)) W
  have h2 := nd_le (l := W.filter fun x => decide (x ∈ K)) (m := K) (hW.filter _) fun x hx => of_decide_eq_true (List.mem_filter.mp hx).2
  have h3 := nd_le (l := K) (m := W.filter fun x => decide (x ∈ K)) hK fun x hx => List.mem_filter.mpr ⟨h x hx, decide_eq_true hx⟩
  omega
/-- the keys of the law's dict of steps -/
structure KeysK (b : Int) (n : Nat) (kvs : List (List Int × PyData)) : Prop where
  nd : (kvs.map (·.1)).Nodup
  mem : ∀ k, k ∈ kvs.map (·.1) ↔ k ∈ stepsN b n
theorem KeysK.len {b : Int} {n : Nat} {kvs : List (List Int × PyData)} (h : KeysK b n kvs) : kvs.length = (ded (stepsN b n)).length := by
  have h2 := nd_le h.nd (m := ded (stepsN b n)) fun x hx => mem_ded.mpr ((h.mem x).mp hx)
  have h3 := nd_le (nd_ded (stepsN b n)) (m := kvs.map (·.1)) fun x hx => (h.mem x).mpr (mem_ded.mp hx)
  rw [List.length_map] at h2 h3
  omega
theorem KeysK.orph {b : Int} {n : Nat} {kvs : List (List Int × PyData)} (hb : 1 ≤ b) (h : KeysK b n kvs) : (((allR b n).filter fun x => !decide (x ∈ kvs.map (·.1))).length : Int) = orphN b n := by
  have h1 := filt_len (allR_nd hb n) h.nd fun k hk => steps_sub hb ((h.mem k).mp hk)
  rw [List.length_map, h.len, allR_len] at h1
  have h0 : 0 ≤ b ^ n := Int.pow_nonneg (by omega)
  unfold orphN
  omega
theorem cnt_zero {b : Int} {n : Nat} {r : List Int} (hb : 1 ≤ b) (hr : r ∈ allR b n) : cntF b r = 0 ↔ r ∉ stepsN b n := by
  constructor
  · intro h hm
    obtain ⟨q, hq, rfl⟩ := (mem_steps hb).mp hm
    have := cntF_pos ((allR_mem hb).mp hq).1
    omega
  · intro h
    have hl := ((allR_mem hb).mp hr).2
    unfold cntF foreN
    rw [List.filter_eq_nil_iff.mpr fun z hz e => h (List.mem_map.mpr ⟨z, by rw [← hl]; exact hz, of_decide_eq_true e⟩)]
    rfl
/-- each row of a round is a step -/
theorem circ_steps {b : Int} {n : Nat} {r m : List Int} {L : Nat} (hb : 1 ≤ b) (hm : m ∈ allR b n) (c : Circ b r m L) (t : Nat) : orb b m t ∈ stepsN b n := by
  have hin : ∀ k, orb b m k ∈ allR b n := fun k => by
    induction k with
    | zero => exact hm
    | succ k ih => exact steps_sub hb ((mem_steps hb).mpr ⟨_, ih, rfl⟩)
  cases t with
  | succ t => exact (mem_steps hb).mpr ⟨_, hin t, rfl⟩
  | zero =>
    obtain ⟨l, hl⟩ : ∃ l, L = l + 1 := ⟨L - 1, by have := c.pos; omega⟩
    have := c.per
    rw [hl] at this
    exact (mem_steps hb).mpr ⟨_, hin l, this⟩
section
variable {C : Ct} {Ξ : Addr → Prop} {ρ : Rho} {e o : Expr} {pos : Pos}
theorem de_notInD {kvs : List (List Int × PyData)} {k : List Int} (hd : DEd C Ξ ρ o (dctD kvs)) (hk : DEd C Ξ ρ e (tI k)) (hm : behindInMarks .NotIn o = false := by rfl) : DEd C Ξ ρ (.Compare e [.NotIn] [o] pos) (.bool (!(kvs.find? fun z => decide (z.1 = k)).isSome)) := fun σ H E Q qq z =>
  ⟨_, pe_cmp (pc_dnotin (by have := C.un; omega) pE pE) hm, hk σ H E _ (fun d v H2 pd g r => by
    subst pd
    refine hd σ H2 (E.grow g) _ (fun d2 v2 H3 pd2 g2 r2 => ?_) (fun c H3 x g2 => z c H3 x (g.trans g2))
    subst pd2
    obtain ⟨b, rfl, hb⟩ := iv_tup (r.up (vis_gr g2))
    obtain ⟨q, xs, rfl, h4, h5⟩ := r2.dct_inv
    have hv := val_dic (k := k) h5
    refine ⟨q, _, rfl, DGet.t (hid_le _ _ h4) (hid_le _ _ hb), ?_⟩
    refine qq _ _ H3 rfl (g.trans g2) ?_
    cases hf : kvs.find? fun z => decide (z.1 = k) with
    | none => rw [hf] at hv; rw [hv]; exact .bl _
    | some z => rw [hf] at hv; obtain ⟨v, e1, _⟩ := hv; rw [e1]; exact .bl _) z⟩
theorem de_inD {kvs : List (List Int × PyData)} {k : List Int} (hd : DEd C Ξ ρ o (dctD kvs)) (hk : DEd C Ξ ρ e (tI k)) (hm : behindInMarks .In o = false := by rfl) : DEd C Ξ ρ (.Compare e [.In] [o] pos) (.bool (kvs.find? fun z => decide (z.1 = k)).isSome) := fun σ H E Q qq z =>
  ⟨_, pe_cmp (pc_din (by have := C.un; omega) pE pE) hm, hk σ H E _ (fun d v H2 pd g r => by
    subst pd
    refine hd σ H2 (E.grow g) _ (fun d2 v2 H3 pd2 g2 r2 => ?_) (fun c H3 x g2 => z c H3 x (g.trans g2))
    subst pd2
    obtain ⟨b, rfl, hb⟩ := iv_tup (r.up (vis_gr g2))
    obtain ⟨q, xs, rfl, h4, h5⟩ := r2.dct_inv
    have hv := val_dic (k := k) h5
    refine ⟨q, _, rfl, DGet.t (hid_le _ _ h4) (hid_le _ _ hb), ?_⟩
    refine qq _ _ H3 rfl (g.trans g2) ?_
    cases hf : kvs.find? fun z => decide (z.1 = k) with
    | none => rw [hf] at hv; rw [hv]; exact .bl _
    | some z => rw [hf] at hv; obtain ⟨v, e1, _⟩ := hv; rw [e1]; exact .bl _) z⟩
end
end DD

namespace DD
open PySem PySem.Spec L2 PyProof.Rows
/-! ## the order of rows by their code -/
theorem code_dl {B : Int} : ∀ {a b : List Int}, a.length = b.length → TS.Bd B a → TS.Bd B b → TS.code B a ≤ TS.code B b → PySem.W.dataLt (tI b) (tI a) = false
  | [], [], _, _, _, _ => PyProof.Rows.lex_irrefl _
  | x :: a, [], h, _, _, _ => by cases h
  | [], y :: b, h, _, _, _ => by cases h
  | x :: a, y :: b, h, ha, hb, hc => by
    have hl : a.length = b.length := by simpa using h
    show PyProof.Rows.lexLt PyProof.Rows.itemOrd (PySem.W.keyToksAll (.int y :: iv b)) (PySem.W.keyToksAll (.int x :: iv a)) = false
    have al : PySem.W.alike (.int y) (.int x) = true := by rw [PySem.W.alike]
    cases e : PyData.eqv (.int y) (.int x) with
    | true =>
      rw [PySem.W.dataLt_all_yes al e]
      rw [eqvI, decide_eq_true_iff] at e
      subst e
      refine code_dl hl ha.tail hb.tail ?_
      have hc : y * B ^ a.length + TS.code B a ≤ y * B ^ b.length + TS.code B b := hc
      rw [hl] at hc
      omega
    | false =>
      rw [PySem.W.dataLt_all_no al e, PySem.W.dataLt_int]
      refine decide_eq_false fun q => ?_
      have := TS.code_lt hl.symm hb.tail ha.tail q
      omega
/-! ## sorted(set(l)) -/
def rSetD (K : PySem.W.Frag) (P : Program) (w : World) : List V → Hp → VK → Prop := fun xs H Q => ∃ (l : Addr) (ks : List (Addr × List Int)), xs = [V.ref l] ∧ SqL K H l (ks.map fun p => V.ref p.1) ∧ (∀ p ∈ ks, SqT K H p.1 (p.2.map V.int)) ∧ FewT ks ∧
  ∀ a L, H a = none → (∀ p ∈ L, p ∈ ks) → (∀ p ∈ ks, p.2 ∈ L.map (·.2)) → Q (.ref a) (upd H a (SetTO P w a L))
theorem cr_setD {X : Cx} (hc : X.calm = true) (hu : X.A.units + 64 < cLine) : CallR X (.type "set") (rSetD X.K X.prog X.w) := by
  intro pins s σ H xs us Q I r h
  obtain ⟨l, ks, rfl, hl, hk, few, q⟩ := h
  rw [Vals.ref1 r]
  obtain ⟨its, rv, pl, hz⟩ := I.list hl
  refine call_setD (P := X.prog) (w := X.w) ks (I.ok.hd hc) pl.isList (by simpa using refs_of_vals rv) (fun p hp => I.isT (hk p hp)) few (by omega) fun s' got => ?_
  obtain ⟨h', tk, L, es, ep, t, rfl, R, g, old⟩ := got
  exact ⟨.ref s.heap.objs.size, upd H s.heap.objs.size (SetTO X.prog X.w s.heap.objs.size L), I.laid (t' := tk) old (Nat.le_refl _) (setTO_new R.t0), rfl, q _ L (I.hok.fresh (Nat.le_refl _)) g.sub fun p hp => g.all p (by rw [List.take_length]; exact hp)⟩
theorem rows_back {H : Hp} : ∀ {L : List (Addr × List Int)}, (∀ p ∈ L, H p.1 = some (.tup (p.2.map V.int))) → AtAll H (L.map fun q => V.ref q.1) ((L.map (·.2)).map tI)
  | [], _ => .nil
  | p :: L, h => .cons (.tup (h p List.mem_cons_self) (atAll_ints p.2)) (rows_back fun q hq => h q (List.mem_cons_of_mem _ hq))
theorem de_sortedSetR {C : Ct} {Ξ : Addr → Prop} {ρ : Rho} {a : Expr} {rs : List (List Int)} {d : Nat} {B : Int} {p p2 q pos : Pos} (hd1 : 1 ≤ d) (hB : ∀ r ∈ rs, r.length = d ∧ TS.Bd B r) (hg : Gl C.X "sorted") (hm : C.X.mg "sorted" = none) (hg2 : Gl C.X "set") (hm2 : C.X.mg "set" = none) (few : FewR rs) (ha : DEd C Ξ ρ a (.list (rs.map tI))) (hc : C.X.calm = true := by rfl)
    (na : starEach [a] C.X.env = (false, eval a C.X.env) :: starEach [] C.X.env := by rfl) (nb : starEach [.Call (.Name "set" p2) [a] [] q] C.X.env = (false, eval (.Call (.Name "set" p2) [a] [] q) C.X.env) :: starEach [] C.X.env := by rfl) (hpl1 : (backTo pos (starEach [] C.X.env)).any (·.1) = false := by rfl) (hpl2 : (backTo q (starEach [] C.X.env)).any (·.1) = false := by rfl) :
    DE C Ξ ρ (.Call (.Name "sorted" p) [.Call (.Name "set" p2) [a] [] q] [] pos) (fun x => ∃ rs' : List (List Int), rs'.Nodup ∧ (∀ k, k ∈ rs' ↔ k ∈ rs) ∧ rs'.Pairwise (fun x y => TS.code B x ≤ TS.code B y) ∧ x = .list (rs'.map tI)) := fun σ H E Q qq z =>
  ⟨_, pe_callB (cr_sortedT hc) hg hm b_sorted (pa_cons (pe_callTy (cr_setD hc (by have := C.un; omega)) hg2 hm2 PyProof.Rows.boot_set (pa_cons pE pa_nil na) (by decide) (by decide) na hpl2) pa_nil nb) (by decide) (by decide) nb hpl1, ha σ H E _ (fun d0 v H2 pd g r => by
    subst pd
    obtain ⟨l, xs, rfl, h1, h2⟩ := r.ref_list
    obtain ⟨ks, rfl, e, hk⟩ := rows_at h2
    subst e
    refine ⟨l, ks, rfl, SqL.of (hid_le _ _ h1), fun p hp => SqT.of (hid_le _ _ (hk p hp)), few.few, fun t L ht hs hall => ?_⟩
    have up1 : Same H2 (upd H2 t (SetTO C.X.prog C.X.w t L)) := same_new ht
    refine ⟨t, L, d, B, rfl, upd_same, fun p hp => SqT.of (up1 _ _ (hid_le _ _ (hk p (hs p hp)))), hd1, fun p hp => hB p.2 (List.mem_map.mpr ⟨p, hs p hp, rfl⟩), fun L' u pm nd _ pw hu => ?_⟩
    have E2 := (E.grow g).grow (Gr.of up1)
    have up2 : Same (upd H2 t (SetTO C.X.prog C.X.w t L)) (upd (upd H2 t (SetTO C.X.prog C.X.w t L)) u (.lst (L'.map fun q => V.ref q.1))) := same_new hu
    have vv := (vis_gr (C := C) (ρ := ρ) (Gr.of up1)).trans (vis_gr (Gr.of up2))
    refine qq _ _ _ ⟨L'.map (·.2), nd, fun k => ⟨fun h => ?_, fun h => ?_⟩, List.pairwise_map.mpr pw, rfl⟩ ((g.trans (Gr.of up1)).trans (Gr.of up2)) (.lst (E2.newV hu) (rows_back fun p hp => vv _ _ (hk p (hs p (pm.mem_iff.mp hp)))))
    · obtain ⟨p, hp, rfl⟩ := List.mem_map.mp h
      exact List.mem_map.mpr ⟨p, hs p (pm.mem_iff.mp hp), rfl⟩
    · obtain ⟨p, hp, rfl⟩ := List.mem_map.mp h
      exact (pm.map (·.2)).mem_iff.mpr (hall p hp)) z⟩
/-! ## how many rows have a step -/
theorem sum_fin : ∀ b ∈ LB, ∀ n ∈ [1, 2, 3, 4, 5, 6, 7], b ^ n ≤ 700 → ((falN b n).map (·.2)).sum = b ^ n ∧ ((falN b n).map (·.1)).Nodup := by decide +kernel
theorem grp_fin : ∀ b ∈ LB, ∀ n ∈ [1, 2, 3, 4, 5, 6, 7], b ^ n ≤ 700 → ∀ s ∈ ded ((falN b n).map fun z => stepC b z.1), ((falN b n).map fun z => stepC b z.1).count s < 63 := by decide +kernel
theorem sum_split {α : Type} (f g : α → Int) : ∀ F : List α, (∀ z ∈ F, g z ≤ f z) → (F.map f).sum = (F.map g).sum → ∀ p : α → Bool, ((F.filter p).map f).sum = ((F.filter p).map g).sum := by
  have mono : ∀ F : List α, (∀ z ∈ F, g z ≤ f z) → (F.map g).sum ≤ (F.map f).sum := fun F => by
    induction F with
    | nil => intro _; exact Int.le_refl _
    | cons z F ih =>
      intro h
      rw [List.map_cons, List.map_cons, List.sum_cons, List.sum_cons]
      have := h z List.mem_cons_self
      have := ih fun y hy => h y (List.mem_cons_of_mem _ hy)
      omega
  intro F
  induction F with
  | nil => intro _ _ p; rfl
  | cons z F ih =>
    intro h e p
    rw [List.map_cons, List.map_cons, List.sum_cons, List.sum_cons] at e
    have h1 := h z List.mem_cons_self
    have h2 := mono F fun y hy => h y (List.mem_cons_of_mem _ hy)
    have ih := ih (fun y hy => h y (List.mem_cons_of_mem _ hy)) (by omega) p
    rw [List.filter_cons]
    split
    · rw [List.map_cons, List.map_cons, List.sum_cons, List.sum_cons, ih]; omega
    · exact ih
/-- each row is counted once -/
theorem part {F : List (List Int × Int)} (hF : (F.map (·.1)).Nodup) : ∀ W : List (List Int), (∀ r ∈ W, falI r ∈ F.map (·.1)) → (F.map fun z => ((W.filter fun r => decide (falI r = z.1)).length : Int)).sum = W.length
  | [], _ => by
    clear hF
    rename_i h0
    clear h0
    induction F with
    | nil => rfl
    | cons z F ih => rw [List.map_cons, List.sum_cons, ih]; rfl
  | r :: W, h => by
    have ih := part hF W fun x hx => h x (List.mem_cons_of_mem _ hx)
    have one : ∀ (G : List (List Int × Int)), (G.map fun z => (((r :: W).filter fun x => decide (falI x = z.1)).length : Int)).sum = (G.map fun z => ((W.filter fun x => decide (falI x = z.1)).length : Int)).sum + ((G.map (·.1)).count (falI r) : Int) := fun G => by
      induction G with
      | nil => rfl
      | cons z G ihG =>
        rw [List.map_cons, List.sum_cons, ihG, List.map_cons, List.sum_cons, List.map_cons, List.count_cons, List.filter_cons]
        by_cases e : falI r = z.1
        · rw [if_pos (decide_eq_true e), if_pos (by simpa using e.symm), List.length_cons]
          omega
        · rw [if_neg (by simpa using e), if_neg (by simpa using fun q : z.1 = falI r => e q.symm)]
          omega
    rw [one, ih, List.length_cons]
    have c : (F.map (·.1)).count (falI r) = 1 := by
      have c1 := List.nodup_iff_count.mp hF (falI r)
      have c2 := List.count_pos_iff.mpr (h r List.mem_cons_self)
      omega
    rw [c]
    omega
theorem cntF_is {b : Int} {n : Nat} {g : List Int} (hb : b ∈ LB) (b1 : 1 ≤ b) (hn : 1 ≤ n ∧ n ≤ 7) (hp : b ^ n ≤ 700) (hg : g.length = n) : cntF b g = ((allR b n).filter fun r => decide (stepI b r = g)).length := by
  obtain ⟨h1, h2⟩ := sum_fin b hb n (by simp only [List.mem_cons, List.not_mem_nil, or_false]; omega) hp
  have hin : ∀ r ∈ allR b n, falI r ∈ (falN b n).map (·.1) := fun r hr => by
    obtain ⟨d1, d2⟩ := (allR_mem b1).mp hr
    obtain ⟨m, hm⟩ := fal_mem (falI_R d1 d2)
    exact List.mem_map.mpr ⟨_, hm, rfl⟩
  have h3 := part h2 (allR b n) hin
  have h0 : 0 ≤ b ^ n := Int.pow_nonneg (by omega)
  rw [allR_len, Int.toNat_of_nonneg h0] at h3
  have h4 := sum_split (fun z : List Int × Int => z.2) (fun z => (((allR b n).filter fun r => decide (falI r = z.1)).length : Int)) (falN b n) (fun z hz => by
    obtain ⟨m, e, hm⟩ := fal_many hz
    have := hm ((allR b n).filter fun r => decide (falI r = z.1)) ((allR_nd b1 n).filter _) fun r hr => by
      have := of_decide_eq_true (List.mem_filter.mp hr).2
      rw [← this]
      exact (fal_of_perm r).symm
    show _ ≤ z.2
    rw [e]
    omega) (by rw [h1, h3]) (fun z => decide (stepI b z.1 = g))
  have h5 := part (F := (falN b n).filter fun z => decide (stepI b z.1 = g)) (h2.sublist (List.filter_sublist.map _)) ((allR b n).filter fun r => decide (stepI b r = g)) fun r hr => by
    obtain ⟨m1, m2⟩ := List.mem_filter.mp hr
    obtain ⟨z, hz, e⟩ := List.mem_map.mp (hin r m1)
    refine List.mem_map.mpr ⟨z, List.mem_filter.mpr ⟨hz, decide_eq_true ?_⟩, e⟩
    rw [e, step_perm (fal_of_perm r)]
    exact of_decide_eq_true m2
  unfold cntF foreN
  rw [hg]
  refine (h4.trans ?_).trans h5
  congr 1
  refine List.map_congr_left fun z hz => ?_
  have hs := of_decide_eq_true (List.mem_filter.mp hz).2
  congr 2
  rw [List.filter_filter]
  refine List.filter_congr fun r hr => ?_
  by_cases e : falI r = z.1
  · have : stepI b r = g := by rw [← step_perm (fal_of_perm r), e]; exact hs
    rw [decide_eq_true e, decide_eq_true this]; rfl
  · rw [decide_eq_false e]; rfl
/-- the forerunners are the falling arrangements of all rows with the step, few of them -/
theorem few_fore {b : Int} {n : Nat} {g : List Int} (hb : b ∈ LB) (hn : 1 ≤ n ∧ n ≤ 7) (hp : b ^ n ≤ 700) (hg : g.length = n) : (foreN b g).length < 63 := by
  have e : (foreN b g).length = ((falN b n).map fun z => stepC b z.1).count g := by
    unfold foreN
    rw [hg, List.count_eq_countP, List.countP_map, List.countP_eq_length_filter]
    congr 1
    refine List.filter_congr fun z _ => ?_
    rw [step_C]
    show decide (stepC b z.1 = g) = (stepC b z.1 == g)
    by_cases q : stepC b z.1 = g
    · rw [decide_eq_true q]; simp [q]
    · rw [decide_eq_false q]; simp [q]
  rw [e]
  by_cases hm : g ∈ (falN b n).map fun z => stepC b z.1
  · exact grp_fin b hb n (by simp only [List.mem_cons, List.not_mem_nil, or_false]; omega) hp g (mem_ded.mpr hm)
  · rw [List.count_eq_zero.mpr hm]; decide
end DD

namespace DD
open PySem L2
section
variable {C : Ct} {ρ : Rho} {F : Out → Prop} {Ξ : Addr → Prop} {a b : Expr} {pos : Pos}
/-- x = [.. for .. in .. if ..] on one line -/
theorem ds_setLc (i : Nat) {y : Str} {py spos cpos : Pos} {elt tg iter : Expr} {ifs : List Expr} {scope : Scope} {own : List (Str × Nat)} {Pd : List PyData → Prop} {js : List Nat} {ρ1 : PyData → Rho} (t : PyData → Bool) (P : PyData → PyData → Prop) (hN : C.X.N.Nodup) (hy : C.X.N[i]? = some y) (hyl : C.X.env.scope.names.lookup y = some .local)
    (ok : BlkOk C.X.N C.X.env.scope scope own) (hi : DIt C (xi F) ρ tg iter Pd) (hn : ∀ ds, Pd ds → ds.length ≤ 16777215)
    (step : ∀ (ds : List PyData), Pd ds → ∀ (k : Nat) (d : PyData), ds[k]? = some d → LcStep C ρ scope own tg ifs elt js ρ1 t P d)
    (hj : ∀ j ∈ js, j ∈ own.map (·.2)) (hw : ∀ a, owns (wipeR ρ (own.map (·.2))) a = owns ρ a) (k : ∀ ds es, Pd ds → Made t P ds es → F (.nx (ρ.set i (.dat (.list es)))))
    (hsw : swapsWith (.ListComp elt [⟨tg, iter, ifs, 0⟩] scope cpos) (some (.Name y py)) spos.line C.X.env = pure true := by rfl) (hc : C.X.calm = true := by rfl) (hs : ∀ x, foldedSetIterable iter C.X.env x = pure x := by intro _; rfl) :
    DS C F ρ (.Assign [.Name y py] (.ListComp elt [⟨tg, iter, ifs, 0⟩] scope cpos) spos) := fun D σ H E q =>
  ⟨_, ps_setLc hc hN hy hyl hsw pI ok lc_g lc_t lc_e hs, lc_read E hi hn hw hj step (fun ds es v H2 pd m g r => by
    obtain ⟨E2, s⟩ := (E.grow g).put (i := i) (sv := .dat (.list es)) (o := some v) rfl ⟨v, rfl, r⟩
    exact q.nx _ _ _ (k ds es pd m) E2 ((vis_gr g).trans s)) (q.exE E)⟩
end
end DD

namespace DD
open PySem L2 PyProof.Rows
/-! ## l.count(x), ints -/
theorem de_lcount {C : Ct} {Ξ : Addr → Prop} {ρ : Rho} {o e : Expr} {apos cpos : Pos} {ns : List Int} {k : Int} (ho : DEd C Ξ ρ o (lI ns)) (ha : DEd C Ξ ρ e (.int k)) (hbase : attributeBase o "count" C.X.env (eval o C.X.env) = eval o C.X.env := by rfl)
    (hfew : ((backTo cpos (starEach [e] C.X.env)).all (fun x => !x.1) && (backToKw cpos (keywordEach [] C.X.env)).all (fun x => x.1.isSome) && decide ([e].length + ([] : List Keyword).length + (if ([] : List Keyword).isEmpty then 0 else 1) < 30)) = true := by rfl)
    (hline : (apos.endLine == cpos.line) = true := by rfl) (hs : starEach [e] C.X.env = (false, eval e C.X.env) :: starEach [] C.X.env := by rfl) (hplain : (backTo cpos (starEach [] C.X.env)).any (·.1) = false := by rfl) :
    DEd C Ξ ρ (.Call (.Attribute o "count" apos) [e] [] cpos) (.int ((ns.count k : Nat) : Int)) := fun σ H E Q q z0 =>
  ⟨_, pe_bm PySem.F.plainAttrs_list PySem.F.slot_list_count PySem.F.type_list_count mt_lcount pE pA hbase hfew hline hs hplain, ho σ H E _ (fun d1 v H2 p1 g1 r1 => by
    subst p1
    obtain ⟨a, xs, rfl, h1, h2⟩ := r1.ref_list
    obtain rfl := h2.ints
    refine ⟨.inl ⟨rfl, _, SqL.of (hid_le _ _ h1)⟩, da_cons ha da_nil hs σ H2 (E.grow g1) _ (fun l vs H3 p2 g2 r2 => ?_) fun c H3 x g2 => z0 c H3 x (g1.trans g2)⟩
    subst p2
    obtain ⟨u, rfl, ru⟩ := r2.ats.one
    rw [ru.int_inv]
    exact ⟨a, ns, k, rfl, rfl, SqL.of (hid_le _ _ (vis_gr g2 _ _ h1)), q _ _ H3 rfl (g1.trans g2) (.int _)⟩) z0⟩
/-! ## sums over all rows -/
theorem partG {α : Type} (f : α → List Int) {F : List (List Int)} (hF : F.Nodup) : ∀ W : List α, (∀ r ∈ W, f r ∈ F) → (F.map fun g => ((W.filter fun r => decide (f r = g)).length : Int)).sum = W.length
  | [], _ => by
    rename_i h0
    clear h0 hF
    induction F with
    | nil => rfl
    | cons z F ih => rw [List.map_cons, List.sum_cons, ih]; rfl
  | r :: W, h => by
    have ih := partG f hF W fun x hx => h x (List.mem_cons_of_mem _ hx)
    have one : ∀ (G : List (List Int)), (G.map fun z => (((r :: W).filter fun x => decide (f x = z)).length : Int)).sum = (G.map fun z => ((W.filter fun x => decide (f x = z)).length : Int)).sum + (G.count (f r) : Int) := fun G => by
      induction G with
      | nil => rfl
      | cons z G ihG =>
        rw [List.map_cons, List.sum_cons, ihG, List.map_cons, List.sum_cons, List.count_cons, List.filter_cons]
        by_cases e : f r = z
        · rw [if_pos (decide_eq_true e), if_pos (by simpa using e.symm), List.length_cons]
          omega
        · rw [if_neg (by simpa using e), if_neg (by simpa using fun q : z = f r => e q.symm)]
          omega
    rw [one, ih, List.length_cons]
    have c : F.count (f r) = 1 := by
      have c1 := List.nodup_iff_count.mp hF (f r)
      have c2 := List.count_pos_iff.mpr (h r List.mem_cons_self)
      omega
    rw [c]
    omega
theorem step_in {b : Int} {n : Nat} {r : List Int} (b1 : 1 ≤ b) (h : r ∈ allR b n) : stepI b r ∈ allR b n := steps_sub b1 ((mem_steps b1).mpr ⟨r, h, rfl⟩)
theorem sum_cnt {b : Int} {n : Nat} (hb : b ∈ LB) (b1 : 1 ≤ b) (hn : 1 ≤ n ∧ n ≤ 7) (hp : b ^ n ≤ 700) : ((allR b n).map (cntF b)).sum = ((allR b n).length : Int) := by
  rw [← partG (stepI b) (allR_nd b1 n) (allR b n) fun r hr => step_in b1 hr]
  congr 1
  exact List.map_congr_left fun g hg => cntF_is hb b1 hn hp ((allR_mem b1).mp hg).2
theorem cnt_zeros {b : Int} {n : Nat} (b1 : 1 ≤ b) : (((((allR b n).map (cntF b)).count 0 : Nat)) : Int) = orphN b n := by
  have h1 := filt_len (allR_nd b1 n) (nd_ded (stepsN b n)) fun k hk => steps_sub b1 (mem_ded.mp hk)
  have h2 : ((allR b n).map (cntF b)).count 0 = ((allR b n).filter fun x => !decide (x ∈ ded (stepsN b n))).length := by
    rw [List.count_eq_countP, List.countP_map, List.countP_eq_length_filter]
    congr 1
    refine List.filter_congr fun r hr => ?_
    have := cnt_zero b1 hr
    show (cntF b r == 0) = _
    by_cases e : cntF b r = 0
    · rw [decide_eq_false (fun q => this.mp e (mem_ded.mp q))]; simp [e]
    · rw [decide_eq_true (mem_ded.mpr (Classical.byContradiction fun q => e (this.mpr q)))]; simp [e]
  rw [h2]
  rw [allR_len] at h1
  have h0 : 0 ≤ b ^ n := Int.pow_nonneg (by omega)
  unfold orphN
  omega
theorem sum_fore {b : Int} {n : Nat} (b1 : 1 ≤ b) : ((allR b n).map fun g => ((foreN b g).length : Int)).sum = ((falN b n).length : Int) := by
  rw [← partG (fun z : List Int × Int => stepI b z.1) (allR_nd b1 n) (falN b n) fun z hz => by
    have f := fal_ok hz
    exact step_in b1 ((allR_mem b1).mpr ⟨f.dg, f.len⟩)]
  congr 1
  refine List.map_congr_left fun g hg => ?_
  unfold foreN
  rw [((allR_mem b1).mp hg).2]
/-! ## what is looked up -/
theorem fin18 : ∀ b ∈ LB, ∀ n ∈ [1, 2, 3, 4, 5, 6, 7], b ^ n ≤ 130 → (((falN b n).filter fun z => decide (stepC b z.1 = List.replicate n 0)).map (·.2)).sum = b ∧
    ((falN b n).filter fun z => decide (stepC b z.1 = List.replicate n 0)).map (·.1) = (List.range b.toNat).map (fun d : Nat => List.replicate n (d : Int)) ∧
    ((List.range b.toNat).map (fun d : Nat => List.replicate n (d : Int))).Pairwise (fun x y => TS.code 12 x ≤ TS.code 12 y) ∧
    ((allR b n).filter fun r => decide (r = isrt r)).length = (falN b n).length := by decide +kernel
theorem allR_at {b : Int} {n : Nat} {r : List Int} (b1 : 1 ≤ b) (h : r ∈ allR b n) : ∃ t : Nat, numI b r = (t : Int) ∧ (allR b n)[t]? = some r := by
  obtain ⟨h1, h2⟩ := (allR_mem b1).mp h
  obtain ⟨l0, l1⟩ := numI_bd b1 h1
  rw [h2] at l1
  obtain ⟨t, ht⟩ := Int.eq_ofNat_of_zero_le l0
  refine ⟨t, ht, ?_⟩
  unfold allR
  rw [List.getElem?_map, List.getElem?_range (by omega)]
  show some (wrI b n (t : Int) []) = some r
  rw [← ht, ← h2, wr_num r h1]
/-! ## the fixed rows -/
def fixR (b : Int) (n : Nat) : List (List Int) := (fixedL b n).map unT
theorem fixR_is (b : Int) (n : Nat) : (fixR b n).map tI = fixedL b n := by
  unfold fixR
  rw [List.map_map]
  conv => rhs; rw [← List.map_id (fixedL b n)]
  refine List.map_congr_left fun d hd => ?_
  obtain ⟨r, _, rfl⟩ := List.mem_map.mp (sort_mem.mp hd)
  show tI (unT (tI r)) = tI r
  rw [unT_tI]
theorem fixR_mem {b : Int} {n : Nat} {r : List Int} : r ∈ fixR b n ↔ r ∈ allR b n ∧ stepI b r = r := by
  unfold fixR
  constructor
  · intro h
    obtain ⟨d, hd, rfl⟩ := List.mem_map.mp h
    obtain ⟨x, hx, rfl⟩ := List.mem_map.mp (sort_mem.mp hd)
    rw [unT_tI]
    obtain ⟨h1, h2⟩ := List.mem_filter.mp hx
    exact ⟨h1, of_decide_eq_true h2⟩
  · rintro ⟨h1, h2⟩
    refine List.mem_map.mpr ⟨tI r, sort_mem.mpr (List.mem_map.mpr ⟨r, List.mem_filter.mpr ⟨h1, decide_eq_true h2⟩, rfl⟩), unT_tI r⟩
theorem fixR_nd {b : Int} {n : Nat} (b1 : 1 ≤ b) : (fixR b n).Nodup := by
  have h : ((fixR b n).map tI).Nodup := by
    rw [fixR_is]
    exact (List.mergeSort_perm _ dLe).nodup_iff.mpr (nd_map ((allR_nd b1 n).filter _) fun x _ y _ e => tI_inj e)
  exact List.Pairwise.of_map tI (fun _ _ hne e => hne (congrArg tI e)) h
theorem fix_sum {b : Int} {n : Nat} (hb : b ∈ LB) (b1 : 1 ≤ b) (hn : 1 ≤ n ∧ n ≤ 7) (hp : b ^ n ≤ 700) : ((fixR b n).length : Int) ≤ ((fixR b n).map (cntF b)).sum ∧ ((fixR b n).map (cntF b)).sum ≤ ((allR b n).length : Int) := by
  have h1 := partG (stepI b) (fixR_nd b1) ((allR b n).filter fun q => decide (stepI b q ∈ fixR b n)) fun r hr => of_decide_eq_true (List.mem_filter.mp hr).2
  have h2 : ((fixR b n).map fun g => ((((allR b n).filter fun q => decide (stepI b q ∈ fixR b n)).filter fun r => decide (stepI b r = g)).length : Int)) = (fixR b n).map (cntF b) := by
    refine List.map_congr_left fun g hg => ?_
    rw [cntF_is hb b1 hn hp ((allR_mem b1).mp (fixR_mem.mp hg).1).2, List.filter_filter]
    congr 2
    refine List.filter_congr fun r _ => ?_
    by_cases e : stepI b r = g
    · rw [decide_eq_true e, e, decide_eq_true hg]; rfl
    · rw [decide_eq_false e]; rfl
  rw [h2] at h1
  rw [h1]
  have h3 := nd_le (fixR_nd b1) (m := (allR b n).filter fun q => decide (stepI b q ∈ fixR b n)) fun x hx => by
    obtain ⟨a1, a2⟩ := fixR_mem.mp hx
    exact List.mem_filter.mpr ⟨a1, decide_eq_true (by rw [a2]; exact hx)⟩
  have h4 := List.length_filter_le (fun q => decide (stepI b q ∈ fixR b n)) (allR b n)
  omega
end DD

namespace DD
open PySem L2
/-! ## texts: split, join, index -/
theorem atAll_strs {H : Hp} : ∀ ys : List Str, AtAll H (ys.map V.str) (ys.map PyData.str)
  | [] => .nil
  | y :: ys => .cons (.str y) (atAll_strs ys)
section
variable {C : Ct} {Ξ : Addr → Prop} {ρ : Rho} {o e : Expr} {apos cpos : Pos}
theorem de_split {a b : Str} (ho : DEd C Ξ ρ o (.str a)) (ha : DEd C Ξ ρ e (.str b)) (hb : (b.length == 0) = false) (hz : a.length + 2 ≤ 16777216) (hbase : attributeBase o "split" C.X.env (eval o C.X.env) = eval o C.X.env := by rfl)
    (hfew : ((backTo cpos (starEach [e] C.X.env)).all (fun x => !x.1) && (backToKw cpos (keywordEach [] C.X.env)).all (fun x => x.1.isSome) && decide ([e].length + ([] : List Keyword).length + (if ([] : List Keyword).isEmpty then 0 else 1) < 30)) = true := by rfl)
    (hline : (apos.endLine == cpos.line) = true := by rfl) (hs : starEach [e] C.X.env = (false, eval e C.X.env) :: starEach [] C.X.env := by rfl) (hplain : (backTo cpos (starEach [] C.X.env)).any (·.1) = false := by rfl) :
    DEd C Ξ ρ (.Call (.Attribute o "split" apos) [e] [] cpos) (.list ((Txt.split a b).map .str)) := fun σ H E Q q z0 =>
  ⟨_, pe_bm PySem.F.plainAttrs_str PySem.F.slot_str_split PySem.F.type_str_split mt_split pE pA hbase hfew hline hs hplain, ho σ H E _ (fun d1 v H2 p1 g1 r1 => by
    subst p1
    rw [r1.str_inv]
    refine ⟨rfl, da_cons ha da_nil hs σ H2 (E.grow g1) _ (fun l vs H3 p2 g2 r2 => ?_) fun c H3 x g2 => z0 c H3 x (g1.trans g2)⟩
    subst p2
    obtain ⟨u, rfl, ru⟩ := r2.ats.one
    rw [ru.str_inv]
    have E3 := (E.grow g1).grow g2
    refine ⟨a, b, rfl, rfl, hb, by rw [sizeLine_eq]; exact hz, fun p hp => ?_⟩
    have nw : Same H3 (upd H3 p (.lst ((Txt.split a b).map V.str))) := same_new hp
    exact q _ _ _ rfl ((g1.trans g2).trans (Gr.of nw)) (.lst (E3.newV hp) (atAll_strs _))) z0⟩
theorem de_join {a : Str} {ys : List Str} (ho : DEd C Ξ ρ o (.str a)) (ha : DEd C Ξ ρ e (.list (ys.map .str))) (hz : (ys.map (·.length)).sum + ys.length * a.length ≤ 16777216) (hbase : attributeBase o "join" C.X.env (eval o C.X.env) = eval o C.X.env := by rfl)
    (hfew : ((backTo cpos (starEach [e] C.X.env)).all (fun x => !x.1) && (backToKw cpos (keywordEach [] C.X.env)).all (fun x => x.1.isSome) && decide ([e].length + ([] : List Keyword).length + (if ([] : List Keyword).isEmpty then 0 else 1) < 30)) = true := by rfl)
    (hline : (apos.endLine == cpos.line) = true := by rfl) (hs : starEach [e] C.X.env = (false, eval e C.X.env) :: starEach [] C.X.env := by rfl) (hplain : (backTo cpos (starEach [] C.X.env)).any (·.1) = false := by rfl) :
    DEd C Ξ ρ (.Call (.Attribute o "join" apos) [e] [] cpos) (.str (Str.join a ys)) := fun σ H E Q q z0 =>
  ⟨_, pe_bm PySem.F.plainAttrs_str PySem.F.slot_str_join PySem.F.type_str_join mt_join pE pA hbase hfew hline hs hplain, ho σ H E _ (fun d1 v H2 p1 g1 r1 => by
    subst p1
    rw [r1.str_inv]
    refine ⟨rfl, da_cons ha da_nil hs σ H2 (E.grow g1) _ (fun l vs H3 p2 g2 r2 => ?_) fun c H3 x g2 => z0 c H3 x (g1.trans g2)⟩
    subst p2
    obtain ⟨u, rfl, ru⟩ := r2.ats.one
    obtain ⟨p, xs, rfl, h1, h2⟩ := ru.ref_list
    rw [AtAll.strs h2] at h1
    refine ⟨a, p, ys, rfl, rfl, .inl (SqL.of (hid_le _ _ h1)), hz, ?_⟩
    rw [TL.join_eq]
    exact q _ _ H3 rfl (g1.trans g2) (.str _)) z0⟩
theorem de_sindex {a b : Str} {i : Nat} {rest : List Nat} (ho : DEd C Ξ ρ o (.str a)) (ha : DEd C Ξ ρ e (.str b)) (hi : Builtin.Str.occurrences a b 0 a.length 1 = i :: rest) (hbase : attributeBase o "index" C.X.env (eval o C.X.env) = eval o C.X.env := by rfl)
    (hfew : ((backTo cpos (starEach [e] C.X.env)).all (fun x => !x.1) && (backToKw cpos (keywordEach [] C.X.env)).all (fun x => x.1.isSome) && decide ([e].length + ([] : List Keyword).length + (if ([] : List Keyword).isEmpty then 0 else 1) < 30)) = true := by rfl)
    (hline : (apos.endLine == cpos.line) = true := by rfl) (hs : starEach [e] C.X.env = (false, eval e C.X.env) :: starEach [] C.X.env := by rfl) (hplain : (backTo cpos (starEach [] C.X.env)).any (·.1) = false := by rfl) :
    DEd C Ξ ρ (.Call (.Attribute o "index" apos) [e] [] cpos) (.int (i : Nat)) := fun σ H E Q q z0 =>
  ⟨_, pe_bm PySem.F.plainAttrs_str PySem.F.slot_str_index PySem.F.type_str_index mt_sindex pE pA hbase hfew hline hs hplain, ho σ H E _ (fun d1 v H2 p1 g1 r1 => by
    subst p1
    rw [r1.str_inv]
    refine ⟨rfl, da_cons ha da_nil hs σ H2 (E.grow g1) _ (fun l vs H3 p2 g2 r2 => ?_) fun c H3 x g2 => z0 c H3 x (g1.trans g2)⟩
    subst p2
    obtain ⟨u, rfl, ru⟩ := r2.ats.one
    rw [ru.str_inv]
    exact ⟨a, b, i, rest, rfl, rfl, hi, q _ _ H3 rfl (g1.trans g2) (.int _)⟩) z0⟩
end
end DD

namespace DD
open PySem L2 TL
/-! ## the text of a row -/
def SG : Str := "0123456789ab"
def sgN (d : Int) : Nat := (tl SG).getD d.toNat 0
def sgS (d : Int) : Str := ⟨#[sgN d]⟩
def rowS (ns : List Int) : Str := Str.join "" (ns.map sgS)
def textS (b : Int) (ns : List Int) : Str := (toString b : Str) ++ ":" ++ rowS ns
theorem sg_at {d : Int} (h : 0 ≤ d ∧ d < 12) : atI SG.cps.toList d = some (sgN d) := by
  obtain ⟨t, rfl⟩ := Int.eq_ofNat_of_zero_le h.1
  refine atI_pos ?_
  have ht : t < (tl SG).length := by
    have : (tl SG).length = 12 := by decide +kernel
    omega
  show (tl SG)[t]? = some ((tl SG).getD (t : Int).toNat 0)
  rw [Int.toNat_natCast, List.getD_eq_getElem?_getD, List.getElem?_eq_getElem ht]
  rfl
theorem joinL_nil : ∀ ps : List (List Nat), joinL [] ps = ps.flatten
  | [] => rfl
  | [p] => by show p = _; simp
  | p :: q :: r => by
    show p ++ ([] ++ joinL [] (q :: r)) = _
    rw [joinL_nil (q :: r)]
    simp
theorem tl_rowS (ns : List Int) : tl (rowS ns) = ns.map sgN := by
  unfold rowS
  rw [tl_join, show tl ("" : Str) = [] from by decide +kernel, joinL_nil, List.map_map]
  induction ns with
  | nil => rfl
  | cons n ns ih => rw [List.map_cons, List.flatten_cons, ih]; rfl
theorem len_rowS (ns : List Int) : (rowS ns).length = ns.length := by rw [len_tl, tl_rowS, List.length_map]
theorem base_cases {b : Int} (h : Base b) : b = 2 ∨ b = 3 ∨ b = 4 ∨ b = 5 ∨ b = 6 ∨ b = 7 ∨ b = 8 ∨ b = 9 ∨ b = 10 ∨ b = 11 ∨ b = 12 := by
  have h1 := h.1
  have h2 := h.2
  omega
theorem len_base {b : Int} (h : Base b) : 1 ≤ (toString b : Str).length ∧ (toString b : Str).length ≤ 2 := by
  rcases base_cases h with rfl | rfl | rfl | rfl | rfl | rfl | rfl | rfl | rfl | rfl | rfl <;> decide +kernel
theorem sum_ones (ns : List Int) : ((ns.map sgS).map (·.length)).sum = ns.length := by
  rw [List.map_map]
  induction ns with
  | nil => rfl
  | cons n ns ih => rw [List.map_cons, List.sum_cons, ih, List.length_cons]; show 1 + _ = _; omega
section
variable {C : Ct} {Ξ : Addr → Prop} {ρ : Rho}
theorem de_konst {x s : Str} {pos : Pos} (h : ∃ t, C.X.mg x = some (.str s t)) (hg : Gl C.X x) (hd : (x == ("__debug__" : Str)) = false := by decide) : DEd C Ξ ρ (.Name x pos) (.str s) := fun σ H E Q q z => by
  obtain ⟨t, ht⟩ := h
  exact ⟨_, pe_glob (v := .str s) hg ht ⟨t, rfl⟩ hd, q _ _ H rfl (Gr.refl _ _) (.str s)⟩
end
end DD

namespace DD
open PySem L2 TL
variable {K : PySem.W.Frag}
/-! ## a text read -/
def DG10 : Str := "0123456789"
def idxN (c : Nat) : Nat := (tl SG).findIdx fun x => x == c
def inAll (S : Str) (p : Str) : Bool := p.cps.toList.all fun c => decide (c ∈ S.cps.toList)
def numS (p : Str) : Int := (PySem.intText? p).getD 0
def idxR (q : Str) : List Int := q.cps.toList.map fun c => (idxN c : Int)
def badT (K : PySem.W.Frag) : Out := .ex (He.ga K "InvalidText")
def readO (K : PySem.W.Frag) (x : Str) (ps : List Str) : Out :=
  if ps.length = 2 ∧ (1 ≤ (ps.getD 0 "").length ∧ (ps.getD 0 "").length ≤ 2) ∧ inAll DG10 (ps.getD 0 "") = true then
    (if inAll SG (ps.getD 1 "") = true then
      (if isW (.int (numS (ps.getD 0 ""))) 2 12 = true ∧ rowOk (numS (ps.getD 0 "")) (tI (idxR (ps.getD 1 ""))) = true ∧ textS (numS (ps.getD 0 "")) (idxR (ps.getD 1 "")) = x then .rt (.tuple [.int (numS (ps.getD 0 "")), tI (idxR (ps.getD 1 ""))]) else badT K)
    else badT K)
  else badT K
def fRead (K : PySem.W.Frag) : PyData → Out
  | .str x => readO K x (Txt.split x ":")
  | _ => badT K
/-- what comes of a text is the row of that text -/
theorem read_rt {x : Str} {ps : List Str} {d : PyData} (h : readO K x ps = .rt d) : ∃ b ns, d = .tuple [.int b, tI ns] ∧ Base b ∧ Row b ns ∧ textS b ns = x := by
  unfold readO at h
  split at h
  · split at h
    · split at h
      · rename_i h3
        injection h with h
        obtain ⟨ns', e', hr'⟩ := rowOk_iff.mp h3.2.1
        refine ⟨_, _, h.symm, ?_, by rw [tI_inj e']; exact hr', h3.2.2⟩
        obtain ⟨bi, e, hb⟩ := base_iff.mp h3.1
        injection e with e
        rw [e]
        exact hb
      · cases h
    · cases h
  · cases h
theorem read_out (x : Str) (ps : List Str) : (∃ d, readO K x ps = .rt d) ∨ readO K x ps = badT K := by
  unfold readO
  split
  · split
    · split
      · exact .inl ⟨_, rfl⟩
      · exact .inr rfl
    · exact .inr rfl
  · exact .inr rfl
theorem sg_fin : ∀ d ∈ List.range 12, (idxN (sgN (d : Nat)) : Nat) = d ∧ sgN (d : Nat) ∈ SG.cps.toList ∧ sgN (d : Nat) ≠ 58 := by decide +kernel
theorem num_fin : ∀ b ∈ List.range 13, numS (toString (b : Int) : Str) = (b : Int) ∧ inAll DG10 (toString (b : Int) : Str) = true ∧ 58 ∉ tl (toString (b : Int) : Str) := by decide +kernel
theorem idx_fin : ∀ c ∈ SG.cps.toList, Builtin.Str.occurrences SG ⟨#[c]⟩ 0 SG.length 1 = [idxN c] := by decide +kernel
theorem int_fin : (∀ c ∈ DG10.cps.toList, ∃ n, PySem.intText? ⟨#[c]⟩ = some n) ∧ ∀ c ∈ DG10.cps.toList, ∀ d ∈ DG10.cps.toList, ∃ n, PySem.intText? ⟨#[c, d]⟩ = some n := by
  have h : (∀ c ∈ DG10.cps.toList, (PySem.intText? ⟨#[c]⟩).isSome = true) ∧ ∀ c ∈ DG10.cps.toList, ∀ d ∈ DG10.cps.toList, (PySem.intText? ⟨#[c, d]⟩).isSome = true := by decide +kernel
  exact ⟨fun c hc => Option.isSome_iff_exists.mp (h.1 c hc), fun c hc d hd => Option.isSome_iff_exists.mp (h.2 c hc d hd)⟩
theorem int_num {p : Str} (h1 : 1 ≤ p.length ∧ p.length ≤ 2) (h : inAll DG10 p = true) : PySem.intText? p = some (numS p) := by
  have key : ∃ n, PySem.intText? p = some n := by
    unfold inAll at h
    rw [List.all_eq_true] at h
    have e : p = ⟨(tl p).toArray⟩ := (mk_tl p).symm
    have hl := len_tl p
    have h : ∀ c ∈ tl p, decide (c ∈ DG10.cps.toList) = true := h
    match hp : tl p, hl with
    | [], hl => rw [hl] at h1; simp at h1
    | [c], _ =>
      rw [hp] at h e
      rw [e]
      exact int_fin.1 c (of_decide_eq_true (h c (by simp)))
    | [c, d], _ =>
      rw [hp] at h e
      rw [e]
      exact int_fin.2 c (of_decide_eq_true (h c (by simp))) d (of_decide_eq_true (h d (by simp)))
    | _ :: _ :: _ :: _, hl => rw [hl] at h1; simp at h1
  obtain ⟨n, hn⟩ := key
  unfold numS
  rw [hn]
  rfl
/-- the text of a row is read back -/
theorem read_back {b : Int} {ns : List Int} (hb : Base b) (hr : Row b ns) : fRead K (.str (textS b ns)) = .rt (.tuple [.int b, tI ns]) := by
  have b2 := hb.1
  have b12 := hb.2
  obtain ⟨bn, rfl⟩ := Int.eq_ofNat_of_zero_le (show 0 ≤ b by omega)
  obtain ⟨f1, f2, f3⟩ := num_fin bn (List.mem_range.mpr (by omega))
  have hd : ∀ d ∈ ns, ∃ t : Nat, d = (t : Int) ∧ t ∈ List.range 12 := fun d hd => by
    have := hr.2 d hd
    obtain ⟨t, rfl⟩ := Int.eq_ofNat_of_zero_le this.1
    exact ⟨t, rfl, List.mem_range.mpr (by omega)⟩
  have e1 : Txt.split (textS bn ns) ":" = [(toString (bn : Int) : Str), rowS ns] := by
    have := split_join (y := ":") (s := 58) (S := []) (by decide +kernel) (by decide +kernel) (parts := [(toString (bn : Int) : Str), rowS ns]) (by simp) fun p hp => by
      rcases List.mem_cons.mp hp with rfl | hp
      · exact f3
      · rw [List.mem_singleton.mp hp, tl_rowS]
        intro q
        obtain ⟨d, hdm, e⟩ := List.mem_map.mp q
        obtain ⟨t, rfl, ht⟩ := hd d hdm
        exact (sg_fin t ht).2.2 e
    rw [join_eq] at this
    exact this
  have e2 : inAll SG (rowS ns) = true := by
    unfold inAll
    rw [List.all_eq_true]
    intro c hc
    have hc : c ∈ tl (rowS ns) := hc
    rw [tl_rowS] at hc
    obtain ⟨d, hdm, rfl⟩ := List.mem_map.mp hc
    obtain ⟨t, rfl, ht⟩ := hd d hdm
    exact decide_eq_true (sg_fin t ht).2.1
  have e3 : idxR (rowS ns) = ns := by
    have h : idxR (rowS ns) = (tl (rowS ns)).map fun c => (idxN c : Int) := rfl
    rw [h, tl_rowS, List.map_map]
    conv => rhs; rw [← List.map_id ns]
    refine List.map_congr_left fun d hdm => ?_
    obtain ⟨t, rfl, ht⟩ := hd d hdm
    show (idxN (sgN (t : Int)) : Int) = (t : Int)
    have := (sg_fin t ht).1
    omega
  have hl := len_base hb
  show readO K (textS bn ns) (Txt.split (textS bn ns) ":") = _
  rw [e1]
  unfold readO
  refine (if_pos ⟨rfl, hl, f2⟩).trans ((if_pos e2).trans ?_)
  show (if isW (.int (numS (toString (bn : Int) : Str))) 2 12 = true ∧ rowOk (numS (toString (bn : Int) : Str)) (tI (idxR (rowS ns))) = true ∧ textS (numS (toString (bn : Int) : Str)) (idxR (rowS ns)) = textS bn ns then Out.rt (.tuple [.int (numS (toString (bn : Int) : Str)), tI (idxR (rowS ns))]) else badT K) = _
  rw [f1, e3, if_pos ⟨hb.ok, hr.ok, rfl⟩]
end DD

namespace DD
open PySem L2 TL
theorem spl_len (S : List Nat) : ∀ (l : List Nat) (k : Nat) (acc : List Nat), ∀ p ∈ spl S k acc l, p.length ≤ acc.length + l.length
  | [], k, acc, p, h => by
    rw [spl_nil] at h
    rw [List.mem_singleton.mp h]
    exact Nat.le_add_right _ _
  | c :: l, 0, acc, p, h => by
    cases e : pre S (c :: l) with
    | true =>
      rw [spl_hit e] at h
      rcases List.mem_cons.mp h with rfl | h
      · exact Nat.le_add_right _ _
      · have := spl_len S l _ [] p h
        rw [List.length_nil] at this
        rw [List.length_cons]
        omega
    | false =>
      rw [spl_miss e] at h
      have := spl_len S l _ _ p h
      rw [List.length_append] at this
      rw [List.length_cons]
      show p.length ≤ acc.length + (l.length + 1)
      have : p.length ≤ acc.length + 1 + l.length := this
      omega
  | c :: l, k + 1, acc, p, h => by
    rw [spl_pass] at h
    have := spl_len S l k acc p (by rw [spl_pass]; exact h)
    rw [List.length_cons]
    omega
theorem part_len {x p : Str} (h : p ∈ Txt.split x ":") : p.length ≤ x.length := by
  have e := split_spl x ":" (by decide +kernel) (kind_ok (by decide +kernel))
  have h1 : tl p ∈ spl (tl ":") 0 [] (tl x) := by rw [← e]; exact List.mem_map.mpr ⟨p, h, rfl⟩
  have := spl_len _ _ _ _ _ h1
  rw [List.length_nil] at this
  rw [len_tl, len_tl]
  omega
theorem ok_tl (x : Str) : PyData.strOk x = (tl x).all (· < 0x110000) := by
  unfold PyData.strOk tl
  rw [Array.all_toList]
theorem sh_str {x : Str} (h : PyData.strOk x = true) : SeqAt.shaped (.str x) = true := by
  unfold SeqAt.shaped
  rw [PyData.canLay0, PyData.depth, h]
  rfl
theorem base_ok : ∀ b ∈ List.range 13, (tl (toString (b : Int) : Str)).all (· < 0x110000) = true := by decide +kernel
theorem sgN_ok : ∀ d ∈ List.range 12, sgN (d : Nat) < 0x110000 := by decide +kernel
theorem text_ok {b : Int} {ns : List Int} (hb : Base b) (hr : Row b ns) : PyData.strOk (textS b ns) = true := by
  have b2 := hb.1
  have b12 := hb.2
  obtain ⟨bn, rfl⟩ := Int.eq_ofNat_of_zero_le (show 0 ≤ b by omega)
  rw [ok_tl]
  unfold textS
  rw [tl_append, tl_append, List.all_append, List.all_append, base_ok bn (List.mem_range.mpr (by omega)), tl_rowS, show (tl ":").all (· < 0x110000) = true by decide +kernel]
  rw [Bool.true_and, Bool.true_and, List.all_map, List.all_eq_true]
  intro d hd
  have := hr.2 d hd
  obtain ⟨t, rfl⟩ := Int.eq_ofNat_of_zero_le this.1
  exact decide_eq_true (sgN_ok t (List.mem_range.mpr (by omega)))
theorem eqvS (a b : Str) : PyData.eqv (.str a) (.str b) = decide (a = b) := by
  rw [PyData.eqv]
  by_cases h : a = b
  · rw [decide_eq_true h]; simp [h]
  · rw [decide_eq_false h]; simp [h]
def memD (S : Str) : PyData → Bool
  | .str s => decide (s.cps.toList.getD 0 0 ∈ S.cps.toList)
  | _ => false
def idxD : PyData → PyData
  | .str s => .int (idxN (s.cps.toList.getD 0 0) : Int)
  | _ => .none
theorem strD_len (p : Str) : (strD p).length = p.length := by unfold strD; rw [List.length_map]; exact (len_tl p).symm
theorem strD_mem {p : Str} {d : PyData} (h : d ∈ strD p) : ∃ c ∈ p.cps.toList, d = .str ⟨#[c]⟩ := by
  unfold strD at h
  obtain ⟨c, hc, rfl⟩ := List.mem_map.mp h
  exact ⟨c, hc, rfl⟩
def partsL : PyData → List Str
  | .str x => Txt.split x ":"
  | _ => []
theorem fRead_is (K : PySem.W.Frag) (v : PyData) : fRead K v = match v with
    | .str x => readO K x (partsL v)
    | _ => badT K := by cases v <;> rfl
theorem parts_two {v : PyData} (h : (partsL v).length = 2) : ∃ x, v = .str x ∧ ∃ p q, Txt.split x ":" = [p, q] := by
  cases v with
  | str x =>
    have h : (Txt.split x ":").length = 2 := h
    match e : Txt.split x ":", h with
    | [p, q], _ => exact ⟨x, rfl, p, q, e⟩
  | _ => cases h
end DD

namespace DD
open PySem L2 TL
/-! ## texts that are well formed and short -/
def OkS (n : Nat) (x : Str) : Prop := x.length ≤ n ∧ PyData.strOk x = true
theorem okS_iff {n : Nat} {x : Str} : OkS n x ↔ (tl x).length ≤ n ∧ ∀ c ∈ tl x, c < 0x110000 := by
  unfold OkS
  rw [len_tl, ok_tl, List.all_eq_true]
  exact ⟨fun h => ⟨h.1, fun c hc => of_decide_eq_true (h.2 c hc)⟩, fun h => ⟨h.1, fun c hc => decide_eq_true (h.2 c hc)⟩⟩
theorem okS_app {m n : Nat} {x y : Str} (hx : OkS m x) (hy : OkS n y) : OkS (m + n) (x ++ y) := by
  rw [okS_iff] at hx hy ⊢
  rw [tl_append]
  refine ⟨by rw [List.length_append]; omega, fun c hc => ?_⟩
  rcases List.mem_append.mp hc with h | h
  · exact hx.2 c h
  · exact hy.2 c h
theorem okS_mono {m n : Nat} {x : Str} (h : OkS m x) (hmn : m ≤ n) : OkS n x := ⟨Nat.le_trans h.1 hmn, h.2⟩
theorem sh_pair {b : Int} {ns : List Int} : SeqAt.shaped (.tuple [.int b, tI ns]) = true := by
  have := lay_iv ns
  unfold SeqAt.shaped
  simp only [PyData.canLay0, PyData.canLayAll0, PyData.depth, PyData.depthAll, tI, this.1, this.2]
  rfl
theorem len_text {b : Int} {ns : List Int} (hb : Base b) (hr : Row b ns) : (textS b ns).length ≤ 11 := by
  have h1 := (len_base hb).2
  have h2 : ns.length ≤ 8 := hr.1.2
  have e : (textS b ns).length = (toString b : Str).length + 1 + (rowS ns).length := by
    unfold textS
    rw [len_tl, tl_append, tl_append, List.length_append, List.length_append, ← len_tl, ← len_tl, ← len_tl]
    rfl
  rw [e, len_rowS]
  omega
theorem okS_cut {n : Nat} {z : Str} {lo hi : Option Int} (h : OkS n z) : OkS n (cutS z lo hi) := by
  rw [okS_iff] at h ⊢
  have e : tl (cutS z lo hi) = (((tl z).drop (HT.sIx z.length 0 lo)).take (HT.sIx z.length z.length hi - HT.sIx z.length 0 lo)) := rfl
  rw [e]
  refine ⟨?_, fun c hc => h.2 c (List.mem_of_mem_drop (List.mem_of_mem_take hc))⟩
  rw [List.length_take, List.length_drop]
  omega
theorem okS_text {b : Int} {ns : List Int} (hb : Base b) (hr : Row b ns) : OkS 11 (textS b ns) := ⟨len_text hb hr, text_ok hb hr⟩
/-- whether a text is read -/
def readB (x : Str) (ps : List Str) : Bool :=
  decide (ps.length = 2 ∧ (1 ≤ (ps.getD 0 "").length ∧ (ps.getD 0 "").length ≤ 2) ∧ inAll DG10 (ps.getD 0 "") = true) && (inAll SG (ps.getD 1 "") && decide (isW (.int (numS (ps.getD 0 ""))) 2 12 = true ∧ rowOk (numS (ps.getD 0 "")) (tI (idxR (ps.getD 1 ""))) = true ∧ textS (numS (ps.getD 0 "")) (idxR (ps.getD 1 "")) = x))
theorem read_bad {K : PySem.W.Frag} {x : Str} (h : readB x (Txt.split x ":") = false) : fRead K (.str x) = badT K := by
  show readO K x (Txt.split x ":") = badT K
  unfold readO
  unfold readB at h
  split
  · rename_i h1
    rw [decide_eq_true h1, Bool.true_and] at h
    split
    · rename_i h2
      rw [h2, Bool.true_and, decide_eq_false_iff_not] at h
      exact if_neg h
    · rfl
  · rfl
def badS : List Str := ["", ":", "10:", ":1", "1:0", "13:0", "02:1", "2:2", "10:a", "11:b", "10:123456789", "10:1 2", "x:1", "10:1:2"]
theorem bad_fin : ∀ x ∈ badS, readB x (Txt.split x ":") = false ∧ x.length ≤ 40 ∧ PyData.strOk x = true := by decide +kernel
theorem eqv_pe {b : Int} {ns : List Int} {x y : Str} : PyData.eqv (.tuple [.int b, tI ns]) (.tuple [.str x, .str y]) = false := by
  rw [PyData.eqv, PyData.eqvAll, PyData.eqv]
  rfl
section
variable {C : Ct} {Ξ : Addr → Prop} {ρ : Rho} {a b : Expr} {pos : Pos}
/-- a sign of a text at a place that is not wholly known -/
theorem de_ixSI {x : Str} {A : Int → Prop} {P : PyData → Prop} (hz : x.length ≤ 16777216) (ha : DEd C Ξ ρ a (.str x)) (hb : DI C Ξ ρ b A) (e : ∀ i, A i → ∃ c, atI x.cps.toList i = some c ∧ P (.str ⟨#[c]⟩)) (hs : PlainIx b := by intro _ _; rfl) : DE C Ξ ρ (.Subscript a b pos) P :=
  de_ix ix_seq ha hb (fun u v h ⟨i, h1, h2⟩ => by
    subst h; subst h1
    obtain ⟨c, e1, e2⟩ := e i h2
    intro A' ρ' σ H v u Q E r1 r2 k
    exact rd_ixS hz e1 A' ρ' σ H v u Q E r1 r2 fun z w H2 pz => k z w H2 (by rw [pz]; exact e2)) hs
end
end DD

namespace DD
open PySem PySem.Spec L2 PyProof.Rows
/-! ## keys that are tuples of tuples -/
mutual
def keyP : PyData → NestedKey
  | .int i => .num i
  | .tuple ds => .tup (keysP ds)
  | _ => .none
def keysP : List PyData → List NestedKey
  | [] => []
  | d :: ds => keyP d :: keysP ds
end
mutual
theorem keyP_inj : ∀ x y : PyData, ti x = true → ti y = true → keyP x = keyP y → x = y
  | .int i, y, _, hy, e => by
    cases y with
    | int j => rw [keyP, keyP] at e; injection e with e; rw [e]
    | tuple ys => rw [keyP, keyP] at e; cases e
    | _ => simp [ti] at hy
  | .tuple xs, y, hx, hy, e => by
    cases y with
    | int j => rw [keyP, keyP] at e; cases e
    | tuple ys =>
      rw [keyP, keyP] at e
      rw [ti] at hx hy
      injection e with e
      rw [keysP_inj xs ys hx hy e]
    | _ => simp [ti] at hy
  | .none, _, hx, _, _ => by simp [ti] at hx
  | .bool _, _, hx, _, _ => by simp [ti] at hx
  | .str _, _, hx, _, _ => by simp [ti] at hx
  | .list _, _, hx, _, _ => by simp [ti] at hx
  | .dict _, _, hx, _, _ => by simp [ti] at hx
theorem keysP_inj : ∀ xs ys : List PyData, tis xs = true → tis ys = true → keysP xs = keysP ys → xs = ys
  | [], [], _, _, _ => rfl
  | [], _ :: _, _, _, e => by rw [keysP, keysP] at e; cases e
  | _ :: _, [], _, _, e => by rw [keysP, keysP] at e; cases e
  | x :: xs, y :: ys, hx, hy, e => by
    rw [tis, Bool.and_eq_true] at hx hy
    rw [keysP, keysP] at e
    injection e with e1 e2
    rw [keyP_inj x y hx.1 hy.1 e1, keysP_inj xs ys hx.2 hy.2 e2]
end
mutual
theorem keyP_depth : ∀ x : PyData, (keyP x).depth ≤ x.depth
  | .int _ => Nat.le_refl _
  | .tuple xs => by
    rw [keyP, NestedKey.depth, PyData.depth]
    exact Nat.succ_le_succ (keysP_depth xs)
  | .none => Nat.le_refl _
  | .bool _ => Nat.le_refl _
  | .str _ => Nat.le_refl _
  | .list _ => Nat.zero_le _
  | .dict _ => Nat.zero_le _
theorem keysP_depth : ∀ xs : List PyData, NestedKey.depthAll (keysP xs) ≤ PyData.depthAll xs
  | [] => Nat.le_refl _
  | x :: xs => by
    rw [keysP, NestedKey.depthAll, PyData.depthAll]
    have := keyP_depth x
    have := keysP_depth xs
    omega
end
section
variable {X : Cx} {pins : List (Addr × Obj)} {σ : L2.St} {H : Hp} {s : Shared}
mutual
theorem keyP_is (I : Inv X pins σ H s) : ∀ (d : PyData) (v : V) (u : Value), ti d = true → At H v d → RelV v u → NestedIs s.heap (keyP d) u
  | .int i, v, u, _, h, r => by
    rw [h.int_inv] at r
    obtain ⟨t, rfl⟩ := (show ∃ t, u = Value.int i t from r)
    exact .int _ _
  | .tuple ds, v, u, t, h, r => by
    cases h with
    | tup h1 h2 =>
      rw [ti] at t
      cases r
      obtain ⟨its, rv, ⟨o, ho, hc, n, hd⟩, _⟩ := I.tuple (SqT.of h1)
      exact .tup ho hc hd (by simpa using keysP_is I ds _ _ t h2 rv)
  | .none, _, _, t, _, _ => by simp [ti] at t
  | .bool _, _, _, t, _, _ => by simp [ti] at t
  | .str _, _, _, t, _, _ => by simp [ti] at t
  | .list _, _, _, t, _, _ => by simp [ti] at t
  | .dict _, _, _, t, _, _ => by simp [ti] at t
theorem keysP_is (I : Inv X pins σ H s) : ∀ (ds : List PyData) (vs : List V) (us : List Value), tis ds = true → AtAll H vs ds → Vals vs us → NestedAll s.heap (keysP ds) us
  | [], _, _, _, h, r => by cases h; cases r; exact .nil
  | d :: ds, _, _, t, h, r => by
    rw [tis, Bool.and_eq_true] at t
    cases h with
    | cons h1 h2 =>
      cases r with
      | cons r1 r2 => exact .cons (keyP_is I d _ _ t.1 h1 r1) (keysP_is I ds _ _ t.2 h2 r2)
end
end
/-- a datum that can be a key -/
def KeyD (d : PyData) : Prop := (∃ ds, d = .tuple ds) ∧ ti d = true ∧ d.depth ≤ 8
theorem RowsT.key {d : PyData} (h : RowsT d) : KeyD d := ⟨by obtain ⟨ds, e, _⟩ := h; exact ⟨ds, e⟩, h.ti, by have := h.dp; omega⟩
theorem KeyD.is {X : Cx} {pins : List (Addr × Obj)} {σ : L2.St} {H : Hp} {s : Shared} (I : Inv X pins σ H s) {d : PyData} (k : KeyD d) {b : Addr} (h : At H (.ref b) d) : (nestedKind X.prog X.w).is s.heap (keyP d) b :=
  ⟨keyP_is I d _ _ k.2.1 h rfl, Nat.le_trans (keyP_depth d) k.2.2⟩
theorem KeyD.inj {x y : PyData} (hx : KeyD x) (hy : KeyD y) (h : keyP x = keyP y) : x = y := keyP_inj x y hx.2.1 hy.2.1 h
theorem KeyD.ref {H : Hp} {v : V} {d : PyData} (k : KeyD d) (h : At H v d) : ∃ b, v = .ref b := by
  obtain ⟨ds, rfl⟩ := k.1
  cases h with
  | tup _ _ => exact ⟨_, rfl⟩
/-! ## the dict -/
abbrev NdX := List (NestedKey × Addr × Value)
def NdF (P : Program) (w : World) (d : Addr) (xs : NdX) (h : Heap) : Prop := ∃ o es ep, h.get? d = some o ∧ o.ExactDict ∧ o.data = .dict es ep ∧ es.toList = xs.map (entryOfKey (nestedKind P w)) ∧ (xs.map (·.1)).Nodup
def NdO (P : Program) (w : World) (d : Addr) (xs : NdX) : HO := .ext (NdF P w d xs)
theorem ndO_new {P : Program} {w : World} {H : Hp} {h : Heap} {d : Addr} {xs : NdX} (R : NdF P w d xs h) : ObjOk P w H h d (NdO P w d xs) := by
  have ⟨o, es, ep, h1, h2⟩ := R
  refine ⟨R, ⟨o, h1⟩, fun a b p k => ?_⟩
  have ⟨o', es', ep', h1', h2'⟩ := p
  exact ⟨o', es', ep', k o' h1', h2'⟩
theorem ndO_code {P : Program} {w : World} {d : Addr} {xs : NdX} {q : Str} : NdO P w d xs ≠ LamX.CodeO d q := fun e => by
  have e : HO.ext (NdF P w d xs) = HO.ext _ := e
  injection e with e
  let ob : Obj := { cls := .none, data := .fields #[.none, .str q 0] }
  have hz : ∃ h : Heap, h.get? d = some ob := by
    have hs : ∀ n : Nat, ∃ h : Heap, h.objs.size = n := fun n => by
      induction n with
      | zero => exact ⟨{ objs := #[] }, rfl⟩
      | succ n ih =>
        obtain ⟨h, hn⟩ := ih
        exact ⟨h.push ob, by rw [Heap.size_push, hn]⟩
    obtain ⟨h, hn⟩ := hs d
    exact ⟨h.push ob, by have := Heap.get?_push_size h (o := ob) rfl; rwa [hn] at this⟩
  obtain ⟨h, hh⟩ := hz
  have z := congrFun e h
  have : NdF P w d xs h := by rw [z]; exact ⟨ob, _, _, hh, rfl, rfl⟩
  obtain ⟨o, es, ep, h1, _, h3, _⟩ := this
  rw [hh] at h1
  injection h1 with h1
  rw [← h1] at h3
  cases h3
theorem paired_mem {α β : Type} {F : α → β → Prop} {l1 : List α} {l2 : List β} (h : Paired F l1 l2) {x : α} (hx : x ∈ l1) : ∃ y ∈ l2, F x y := by
  induction h with
  | nil => cases hx
  | @cons a b l m r _ ih =>
    rcases List.mem_cons.mp hx with rfl | hx
    · exact ⟨b, List.mem_cons_self, r⟩
    · obtain ⟨y, h1, h2⟩ := ih hx
      exact ⟨y, List.mem_cons_of_mem _ h1, h2⟩
/-- what an entry stands for -/
def ndE (Hv : Hp) (x : NestedKey × Addr × Value) (kv : PyData × Int) : Prop := x.1 = keyP kv.1 ∧ (∃ t, x.2.2 = .int kv.2 t) ∧ At Hv (.ref x.2.1) kv.1 ∧ KeyD kv.1
theorem ndE.up {H H' : Hp} (e : Same H H') {x : NestedKey × Addr × Value} {kv : PyData × Int} (h : ndE H x kv) : ndE H' x kv := ⟨h.1, h.2.1, h.2.2.1.up e, h.2.2.2⟩
structure NdAt (P : Program) (w : World) (H : Hp) (a : Addr) (xs : NdX) (kvs : List (PyData × Int)) : Prop where
  ob : H a = some (NdO P w a xs)
  nm : (a == sysModules) = false
  en : Paired (ndE H) xs kvs
  few : xs.length ≤ 100000
def ndV (kvs : List (PyData × Int)) (d : PyData) : Option Int := (kvs.find? fun z => decide (keyP z.1 = keyP d)).map (·.2)
def ndPut (kvs : List (PyData × Int)) (d : PyData) (j : Int) : List (PyData × Int) := if (ndV kvs d).isSome then kvs.map (fun z => if keyP z.1 = keyP d then (z.1, j) else z) else kvs ++ [(d, j)]
theorem nd_at {H : Hp} {xs : NdX} {kvs : List (PyData × Int)} (h : Paired (ndE H) xs kvs) (d : PyData) : (ndV kvs d = none ∧ atKey xs (keyP d) = none) ∨ ∃ j b t, ndV kvs d = some j ∧ atKey xs (keyP d) = some (b, .int j t) := by
  induction h with
  | nil => exact .inl ⟨rfl, rfl⟩
  | @cons x kv xs kvs r _ ih =>
    obtain ⟨e1, ⟨t, e2⟩, _⟩ := r
    by_cases z : keyP kv.1 = keyP d
    · refine .inr ⟨kv.2, x.2.1, t, ?_, ?_⟩
      · unfold ndV
        rw [List.find?_cons_of_pos (by simpa using z)]
        rfl
      · unfold atKey
        rw [List.find?_cons_of_pos (by simpa [e1] using z)]
        show some x.2 = _
        rw [← e2]
    · unfold ndV atKey
      rw [List.find?_cons_of_neg (by simpa using z), List.find?_cons_of_neg (by simpa [e1] using z)]
      exact ih
theorem nd_put {H : Hp} {xs : NdX} {kvs : List (PyData × Int)} (h : Paired (ndE H) xs kvs) {d : PyData} {b : Addr} {j : Int} {t : Tok} (hb : At H (.ref b) d) (k : KeyD d) : Paired (ndE H) (storedH xs (keyP d) b (.int j t)) (ndPut kvs d j) := by
  unfold ndPut storedH
  rcases nd_at h d with ⟨e1, e2⟩ | ⟨j', b', t', e1, e2⟩
  · rw [e1, e2, if_neg (by simp), if_neg (by simp)]
    exact Paired.appP h (.cons ⟨rfl, ⟨t, rfl⟩, hb, k⟩ .nil)
  · rw [e1, e2, if_pos (by rfl : (some j').isSome = true), if_pos (by rfl : (some (b', Value.int j' t')).isSome = true)]
    clear e1 e2
    induction h with
    | nil => exact .nil
    | @cons x kv xs kvs r _ ih =>
      rw [List.map_cons, List.map_cons]
      refine .cons ?_ ih
      obtain ⟨r1, r2, r3, r4⟩ := r
      unfold putAt
      by_cases z : keyP kv.1 = keyP d
      · rw [if_pos (r1.trans z), if_pos z]
        exact ⟨r1, ⟨t, rfl⟩, r3, r4⟩
      · rw [if_neg (fun q => z (r1.symm.trans q)), if_neg z]
        exact ⟨r1, r2, r3, r4⟩
theorem nd_put_len {xs : NdX} {k : NestedKey} {b : Addr} {v : Value} : (storedH xs k b v).length ≤ xs.length + 1 := storedH_length _ _ _ _
section
variable {X : Cx} {pins : List (Addr × Obj)} {σ : L2.St} {H : Hp} {s : Shared} {a : Addr} {xs : NdX} {kvs : List (PyData × Int)}
theorem nd_heap (I : Inv X pins σ H s) (e : H a = some (NdO X.prog X.w a xs)) : NdF X.prog X.w a xs s.heap := (show ObjOk X.prog X.w H s.heap a (.ext _) from I.hok a _ e).1
theorem NdAt.dict (R : NdAt X.prog X.w H a xs kvs) (I : Inv X pins σ H s) : s.heap.DictOfH (nestedKind X.prog X.w) a xs := by
  obtain ⟨o, es, ep, h1, h2, h3, h4, h5⟩ := nd_heap I R.ob
  refine ⟨o, es, ep, h1, h2, h3, h4, fun x hx => ?_, h5⟩
  obtain ⟨kv, _, r1, _, r3, r4⟩ := paired_mem R.en hx
  rw [r1]
  exact r4.is I r3
theorem nd_type (I : Inv X pins σ H s) (e : H a = some (NdO X.prog X.w a xs)) : s.TypeIs (.ref a) "dict" ∧ ∀ b, Value.ref a = .ref b → ∃ ob, s.heap.get? b = some ob ∧ ob.dict = none := by
  obtain ⟨o, es, ep, h1, h2, _⟩ := nd_heap I e
  exact ⟨⟨o, h1, h2.1⟩, fun b q => by cases q; exact ⟨o, h1, h2.2.1⟩⟩
end
section
variable {X : Cx} {o e f i : Expr} {apos cpos pos : Pos} {td ty tx : TE}
def tNdGet2 (P : Program) (w : World) (td ty tx : TE) : TE := fun σ H Q => td σ H fun x H1 => ∃ a, x = .ref a ∧ (∃ xs, H1 a = some (NdO P w a xs)) ∧ ty σ H1 fun y H2 => tx σ H2 fun z H3 => ∃ xs kvs b d j, NdAt P w H3 a xs kvs ∧ y = .ref b ∧ At H3 (.ref b) d ∧ KeyD d ∧ z = .int j ∧ Q (.int ((ndV kvs d).getD j)) H3
theorem room_nd {A : Around} (hu : A.units + 20 < cLine) (P : Program) (w : World) : (nestedKind P w).room A.in1 := by
  show A.in1.units + 8 < cLine
  rw [Around.in1_units]
  omega
theorem pe_ndget2 (hu : X.A.units + 20 < cLine) (ho : PE X o td) (he : PE X e ty) (hf : PE X f tx) (m : M2 X o "get" apos e f cpos) : PE X (.Call (.Attribute o "get" apos) [e, f] [] cpos) (tNdGet2 X.prog X.w td ty tx) := by
  refine ⟨fun pins s σ H Q I h => ?_⟩
  refine wpAny_Call_method m.base m.few m.line PySem.F.plainAttrs_dict PySem.F.slot_dict_get PySem.F.type_dict_get (thn (ho.run pins s σ H _ I h) fun u s1 ⟨x, H1, I1, rx, a, ex, ⟨xs, hd⟩, q1⟩ => ?_)
  subst ex
  obtain rfl : u = Value.ref a := rx
  obtain ⟨t1, t2⟩ := nd_type I1 hd
  refine ⟨t1, t2, ?_⟩
  rw [m.trees]
  refine Calls.callWith_builtin rfl (Calls.evalArgs_plain (Calls.spliced_cons (thn (he.run pins s1 σ H1 _ I1 q1) fun iv s2 ⟨y, H2, I2, ry, q2⟩ => Calls.spliced_cons (thn (hf.run pins s2 σ H2 _ I2 q2) fun fv s3 ⟨z, H3, I3, rz, q3⟩ => Calls.spliced_nil ?_))))
  obtain ⟨xs, kvs, b, d, j, R, ey, hb, kd, ez, q3⟩ := q3
  subst ey ez
  obtain rfl : iv = Value.ref b := ry
  obtain ⟨t, rfl⟩ := (show ∃ t, fv = Value.int j t from rz)
  have dd := R.dict I3
  refine call_meetsIn PySem.F.slot_dict_get dd.typeIs PySem.F.entry_dict_get (PySem.F.args_dict_get_3 _ _ _) (meetsH_dict_get_default (nestedKind X.prog X.w) a b R.nm (.int j t)) ⟨room_nd hu _ _, keyP d, xs, kd.is I3 hb, dd, ?_⟩
  rcases nd_at R.en d with ⟨e1, e2⟩ | ⟨j', b', t', e1, e2⟩
  · rw [e1] at q3
    rw [e2]
    exact ⟨V.int j, H3, I3.tok _, ⟨t, rfl⟩, q3⟩
  · rw [e1] at q3
    rw [e2]
    exact ⟨V.int j', H3, I3.tok _, ⟨t', rfl⟩, q3⟩
def tNdGet (P : Program) (w : World) (td ty : TE) : TE := fun σ H Q => td σ H fun x H1 => ty σ H1 fun y H2 => ∃ a xs kvs b d j, x = .ref a ∧ NdAt P w H2 a xs kvs ∧ y = .ref b ∧ At H2 (.ref b) d ∧ KeyD d ∧ ndV kvs d = some j ∧ Q (.int j) H2
theorem pe_ndget (hu : X.A.units + 20 < cLine) (ho : PE X o td) (hi : PE X i ty) (hs : NoSl i) : PE X (.Subscript o i pos) (tNdGet X.prog X.w td ty) := by
  refine ⟨fun pins s σ H Q I h => ?_⟩
  refine subD_of PySem.F.slot_dict_getitem.lookup hs (thn (ho.run pins s σ H _ I h) fun u s1 ⟨x, H1, I1, rx, q1⟩ => thn (hi.run pins s1 σ H1 _ I1 q1) fun iv s2 ⟨y, H2, I2, ry, a, xs, kvs, b, d, j, ex, R, ey, hb, kd, hv, q2⟩ => ?_)
  subst ex ey
  obtain rfl : u = Value.ref a := rx
  obtain rfl : iv = Value.ref b := ry
  rcases nd_at R.en d with ⟨e1, e2⟩ | ⟨j', b', t', e1, e2⟩
  · rw [hv] at e1; cases e1
  · rw [hv] at e1
    injection e1 with e1
    subst e1
    exact ⟨(nd_type I2 R.ob).1, wpAny_getItem_heap (room_nd hu _ _) (kd.is I2 hb) (R.dict I2) e2 ⟨V.int j, H2, I2.tok _, ⟨t', rfl⟩, q2⟩⟩
def rSetNd (P : Program) (w : World) : TSet := fun o i v H Q => ∃ a xs kvs b d j, o = .ref a ∧ i = .ref b ∧ v = .int j ∧ NdAt P w H a xs kvs ∧ At H (.ref b) d ∧ KeyD d ∧ ∀ t, Q (upd H a (NdO P w a (storedH xs (keyP d) b (.int j t))))
theorem set_nd (hu : X.A.units + 20 < cLine) : PSet X (rSetNd X.prog X.w) := by
  intro pins s σ H o i v ov iv u Q I ro ri rv h
  obtain ⟨a, xs, kvs, b, d, j, rfl, rfl, rfl, R, hb, kd, q⟩ := h
  cases (show ov = Value.ref a from ro)
  cases (show iv = Value.ref b from ri)
  obtain ⟨t, rfl⟩ := (show ∃ t, u = Value.int j t from rv)
  refine wpAny_setItem_heap (room_nd hu _ _) (kd.is I hb) (R.dict I) (fun h' hm' sb => ?_) (by have := R.few; rw [sizeLine_eq]; omega)
  obtain ⟨oo, es, ep, g1, g2, g3, g4, _, g5⟩ := hm'
  refine ⟨_, I.write (x := a) (e := a) (o := NdO X.prog X.w a (storedH xs (keyP d) b (.int j t))) (h' := h') (t' := s.toks + (nestedKind X.prog X.w).draws (keyP d)) (by rw [R.ob]; exact True.intro) (.inl rfl) (fun c u hc z => (sb.2 c hc).trans z) ⟨_, g1⟩ (ndO_new ⟨oo, es, ep, g1, g2, g3, g4, g5⟩), q t⟩
theorem call_list_nd (hc : X.calm = true) : CallR X (.type "list") (fun xs H Q => ∃ d ys, xs = [V.ref d] ∧ H d = some (NdO X.prog X.w d ys) ∧ (d == sysModules) = false ∧ ys.length ≤ 100000 ∧ ∀ p, H p = none → Q (.ref p) (upd H p (.lst (ys.map fun y => V.ref y.2.1)))) := by
  intro pins s σ H xs us Q I r h
  obtain ⟨d, ys, rfl, hd, nm, few, q⟩ := h
  obtain ⟨u, rfl, rx⟩ := r.one
  cases rx
  obtain ⟨o, es, ep, ho, hx, hdt, he, _⟩ := nd_heap I hd
  have l1 : es.size = ys.length := size_of_entries he
  refine PySem.W.kdl_call (kdl_raw nm hx hdt) (I.ok.hd hc) ho (by rw [l1, sizeLine_eq]; omega) fun h' tk acc' c' kp e it => ?_
  have ea : acc'.toList = (ys.map fun y => y.2.1).map Value.ref := by
    rw [List.map_map]
    apply List.ext_getElem?
    intro j
    rw [List.getElem?_map, Array.getElem?_toList]
    cases hj : acc'[j]? with
    | none =>
      have hlen : ys.length ≤ j := by
        have z := Array.getElem?_eq_none_iff.mp hj
        rw [it.1, l1] at z
        exact z
      rw [List.getElem?_eq_none hlen]
      rfl
    | some v =>
      obtain ⟨en, hen, hv⟩ := it.2 j v hj
      have qe := entry_at he j
      rw [hen] at qe
      cases hb : ys[j]? with
      | none => rw [hb] at qe; cases qe
      | some b =>
        rw [hb] at qe
        injection qe with qe
        rw [hv, qe]
        rfl
  have rv : Vals ((ys.map fun y => y.2.1).map V.ref) acc'.toList := by rw [ea]; exact vals_refs _
  rw [List.map_map] at rv
  have rv : Vals (ys.map fun y => V.ref y.2.1) acc'.toList := rv
  refine ⟨.ref s.heap.objs.size, _, I.laid (t' := tk) (o := .lst (ys.map fun y => V.ref y.2.1)) kp (Nat.le_refl _) ⟨by rw [List.length_map, sizeLine_eq]; omega, acc'.toList, c', rv, by rw [Array.toArray_toList]; exact e⟩, rfl, q _ (I.hok.fresh (Nat.le_refl _))⟩
/-- an empty dict, from now on one of this kind -/
theorem ps_recast {st : Stmt} {t : TS} (h : PS X st t) : PS X st (fun D σ H => t { D with nx := fun σ' H' => ∃ b, H' b = some (.dT []) ∧ ((b == sysModules) = false → D.nx σ' (upd H' b (NdO X.prog X.w b []))) } σ H) := by
  refine ⟨fun pins s σ H D I hw => ?_⟩
  refine thn (h.run pins s σ _ _ I hw) fun f s1 q => ?_
  cases f with
  | next =>
    obtain ⟨σ', H', I2, b, hb, q⟩ := q
    obtain ⟨_, nm, xs, pr, o, es, ep, h1, h2, h3, h4, h5⟩ := (show ObjOk X.prog X.w H' s1.heap b (.dT []) from I2.hok b _ hb)
    cases pr
    exact ⟨σ', _, I2.write (x := b) (e := b) (o := NdO X.prog X.w b []) (h' := s1.heap) (t' := s1.toks) (by rw [hb]; exact True.intro) (.inl rfl) (fun _ _ _ z => z) ⟨_, h1⟩ (ndO_new ⟨o, es, ep, h1, h2, h3, by rw [h4]; rfl, .nil⟩), q nm⟩
  | brk => exact q
  | cont => exact q
  | ret v => exact q
end
end DD

namespace DD
open PySem L2
/-! ## owned things of another kind -/
theorem Cell.mutX {k : Option Str} {H : Hp} {a D : Addr} {o : HO} (hx : ∀ q, H D ≠ some (LamX.CodeO D q)) (ne : a ≠ D) (h : Cell k H a) : Cell k (upd H D o) a := by
  cases k with
  | none => obtain ⟨x, y, h⟩ := h; exact ⟨x, y, by rw [upd_ne ne]; exact h⟩
  | some q =>
    obtain ⟨hq, ps, h1, h2, h3⟩ := h
    refine ⟨hq, ps, by rw [upd_ne ne]; exact h1, h2, fun pos cv hc => ?_⟩
    obtain ⟨c, e1, e2⟩ := h3 pos cv hc
    refine ⟨c, e1, ?_⟩
    rw [upd_ne fun z => by rw [z] at e2; exact hx _ e2]
    exact e2
theorem Env.mutX {C : Ct} {ρ : Rho} {σ : L2.St} {H : Hp} {p : Addr} {o : HO} {sv : SV} {i : Nat} (E : Env C ρ σ H) (hi : (gt ρ i).addr = some p) (ha : sv.addr = some p) (hO : C.O p = false) (hb : C.base p = none) (hx : ∀ q, H p ≠ some (LamX.CodeO p q))
    (hs : vis C (ρ.set i sv) (upd H p o) = vis C ρ H → SlotOk C (ρ.set i sv) (upd H p o) sv (some (.ref p))) : Env C (ρ.set i sv) σ (upd H p o) ∧ vis C (ρ.set i sv) (upd H p o) = vis C ρ H := by
  have hlen : i < ρ.length := by
    rcases Nat.lt_or_ge i ρ.length with h | h
    · exact h
    · exfalso
      unfold gt at hi
      rw [List.getD_eq_getElem?_getD, List.getElem?_eq_none h] at hi
      cases hi
  have own : ∀ b, owns (ρ.set i sv) b = owns ρ b := fun b => by
    rw [Bool.eq_iff_iff, owns_iff, owns_iff]
    constructor
    · rintro ⟨j, h⟩
      rw [gt_set] at h
      split at h
      · rw [ha] at h; exact ⟨i, by rw [hi]; exact h⟩
      · exact ⟨j, h⟩
    · rintro ⟨j, h⟩
      refine ⟨j, ?_⟩
      rw [gt_set]
      split
      · rename_i z
        rw [ha, ← hi, z.1]
        exact h
      · exact h
  have hp : owns ρ p = true := owns_iff.mpr ⟨i, hi⟩
  have ev : vis C (ρ.set i sv) (upd H p o) = vis C ρ H := by
    funext a
    show hid _ _ a = hid _ _ a
    unfold hid
    have e : inn C (ρ.set i sv) a = inn C ρ a := by unfold inn; rw [own]
    rw [e]
    split
    · rfl
    · rename_i z
      refine upd_ne fun y => z ?_
      rw [y]
      unfold inn
      rw [hp, Bool.or_true]
  have ne : ∀ j q, (gt ρ j).addr = some q → j ≠ i → q ≠ p := fun j q h hj y => hj (E.dis j i p (by rw [h, y]) hi)
  have hU := O_U hO
  refine ⟨⟨by rw [List.length_set]; exact E.len, fun j => ?_, fun a h => ?_, fun a h => ?_, ⟨fun a u hu q => ?_, fun a k hu q => ?_⟩, fun j k q h1 h2 => ?_⟩, ev⟩
  · rw [gt_set]
    by_cases z : i = j
    · rw [if_pos ⟨z, hlen⟩, ← z]
      have e : σ.getD i none = some (.ref p) := by
        have q := E.slot i
        cases h : gt ρ i with
        | own p' ds => rw [h] at q hi; injection hi with hi; rw [← hi]; exact q.1
        | dic p' ds => rw [h] at q hi; injection hi with hi; rw [← hi]; exact q.1
        | thg p' th => rw [h] at q hi; injection hi with hi; rw [← hi]; exact q.1
        | _ => rw [h] at hi; cases hi
      rw [e]
      exact hs ev
    · rw [if_neg fun q => z q.1]
      have q := E.slot j
      cases h : gt ρ j with
      | no => trivial
      | dat d => rw [h] at q; obtain ⟨v, e, r⟩ := q; exact ⟨v, e, by rw [ev]; exact r⟩
      | raw v => rw [h] at q; exact q
      | own p' ds => rw [h] at q; obtain ⟨e', h1, h2, xs, h3, h4⟩ := q; exact ⟨e', h1, h2, xs, by rw [upd_ne (ne j p' (by rw [h]; rfl) (Ne.symm z))]; exact h3, by rw [ev]; exact h4⟩
      | dic p' ds => rw [h] at q; obtain ⟨e', h1, h2, xs, h3, h4⟩ := q; exact ⟨e', h1, h2, xs, by rw [upd_ne (ne j p' (by rw [h]; rfl) (Ne.symm z))]; exact h3, by rw [ev]; exact h4⟩
      | thg p' th => rw [h] at q; obtain ⟨e', h1, h2, xs, h3, h4⟩ := q; exact ⟨e', h1, h2, xs, by rw [upd_ne (ne j p' (by rw [h]; rfl) (Ne.symm z))]; exact h3, by rw [ev]; exact h4⟩
  · obtain ⟨k, e⟩ := E.cell a h
    exact ⟨k, e.mutX hx fun z => by rw [z, hU] at h; cases h⟩
  · by_cases z : a = p
    · rw [z, upd_same]; simp
    · rw [upd_ne z]; exact E.alloc a h
  · rw [upd_ne (fun z => by rw [z, hb] at q; cases q)]
    exact E.gr.keep a u hu q
  · exact (E.gr.cell a k hu q).mutX hx fun z => by rw [z, hU] at hu; cases hu
  · rw [gt_set] at h1 h2
    split at h1
    · split at h2
      · rename_i a b; rw [← a.1, ← b.1]
      · rename_i a b
        rw [ha] at h1
        rw [← a.1]
        exact E.dis i k q (by rw [hi]; exact h1) h2
    · split at h2
      · rename_i a b
        rw [ha] at h2
        rw [← b.1]
        exact E.dis j i q h1 (by rw [hi]; exact h2)
      · exact E.dis j k q h1 h2
theorem Env.thg_of {C : Ct} {ρ : Rho} {σ : L2.St} {H : Hp} {i : Nat} {p : Addr} {t : Thg} (E : Env C ρ σ H) (h : gt ρ i = .thg p t) : σ[i]? = some (some (.ref p)) ∧ C.O p = false ∧ C.base p = none ∧ ∃ u, H p = some u ∧ t.T (vis C ρ H) u := by
  have s := E.slot i
  rw [h] at s
  obtain ⟨e, h1, h2, h3⟩ := s
  refine ⟨?_, h1, h2, h3⟩
  rw [List.getD_eq_getElem?_getD] at e
  cases q : σ[i]? with
  | none => rw [q] at e; cases e
  | some o => rw [q] at e; exact congrArg some e
/-- a dict whose keys are tuples of tuples, its values ints -/
def ndT (P : Program) (w : World) (p : Addr) (kvs : List (PyData × Int)) : Thg where
  T Hv u := (p == sysModules) = false ∧ ∃ xs, u = NdO P w p xs ∧ Paired (ndE Hv) xs kvs ∧ xs.length ≤ 100000
  up e := fun ⟨h1, xs, h2, h3, h4⟩ => ⟨h1, xs, h2, Paired.mapP h3 fun _ _ => ndE.up e, h4⟩
  nt := fun ⟨_, xs, h2, _⟩ => by unfold NdO at h2; cases h2
theorem Env.nd_of {C : Ct} {ρ : Rho} {σ : L2.St} {H : Hp} {i : Nat} {p : Addr} {P : Program} {w : World} {kvs : List (PyData × Int)} (E : Env C ρ σ H) (h : gt ρ i = .thg p (ndT P w p kvs)) : σ[i]? = some (some (.ref p)) ∧ C.O p = false ∧ C.base p = none ∧ (p == sysModules) = false ∧ ∃ xs, H p = some (NdO P w p xs) ∧ Paired (ndE (vis C ρ H)) xs kvs ∧ xs.length ≤ 100000 := by
  obtain ⟨h1, h2, h3, u, h4, h5, xs, h6, h7, h8⟩ := E.thg_of h
  exact ⟨h1, h2, h3, h5, xs, by rw [h4, h6], h7, h8⟩
theorem nd_see {C : Ct} {ρ : Rho} {H : Hp} {P : Program} {w : World} {p : Addr} {xs : NdX} {kvs : List (PyData × Int)} (nm : (p == sysModules) = false) (h : H p = some (NdO P w p xs)) (r : Paired (ndE (vis C ρ H)) xs kvs) (f : xs.length ≤ 100000) : NdAt P w H p xs kvs := ⟨h, nm, Paired.mapP r fun _ _ => ndE.up hid_le, f⟩
section
variable {C : Ct} {Ξ : Addr → Prop} {F : Out → Prop} {ρ : Rho} {a b e e1 e2 : Expr} {pos p px : Pos} {kvs : List (PyData × Int)} {q : Addr}
/-- a, b = {}, {}: rows as keys, tuples of rows as keys -/
theorem ds_newDN (i j : Nat) {x y : Str} {px py pt lp lp2 pt2 : Pos} {kt k2 : Nat} (k : ∀ b b2, F (.nx ((ρ.set i (.dic b [])).set j (.thg b2 (ndT C.X.prog C.X.w b2 []))))) (hN : C.X.N.Nodup) (hi : C.X.N[i]? = some x) (hj : C.X.N[j]? = some y) (hij : i ≠ j) (hli : i < ρ.length) (hlj : j < ρ.length)
    (hx : C.X.env.scope.names.lookup x = some .local) (hy : C.X.env.scope.names.lookup y = some .local) (hw : swappedStores [.Tuple [.Name x px, .Name y py] kt pt] (.Tuple [.Dict [] [] lp, .Dict [] [] lp2] k2 pt2) C.X.env = pure (some [x, y]))
    (h1 : starEach [.Dict [] [] lp, .Dict [] [] lp2] C.X.env = (false, eval (.Dict [] [] lp) C.X.env) :: starEach [.Dict [] [] lp2] C.X.env := by rfl) (h2 : starEach [.Dict [] [] lp2] C.X.env = (false, eval (.Dict [] [] lp2) C.X.env) :: starEach [] C.X.env := by rfl)
    (hc : C.X.calm = true := by rfl) (hs : swapsWithSole [.Tuple [.Name x px, .Name y py] kt pt] (.Tuple [.Dict [] [] lp, .Dict [] [] lp2] k2 pt2) pos.line C.X.env = pure false := by rfl) : DS C F ρ (.Assign [.Tuple [.Name x px, .Name y py] kt pt] (.Tuple [.Dict [] [] lp, .Dict [] [] lp2] k2 pt2) pos) := fun D σ H E q =>
  ⟨_, ps_recast (ps_par hc hN hi hj hij hx hy (pa_cons pe_dnewT (pa_cons pe_dnewT pa_nil h2) h1) hw hs), fun b hb b2 hb2 => by
    obtain ⟨E1, s1⟩ := E.fresh (o := .dT []) (sv := .dic b []) (i := i) hb rfl hli fun o1 o2 => ⟨rfl, o1, o2, [], upd_same, .nil⟩
    refine ⟨.ref b, .ref b2, rfl, b2, upd_same, fun nm => ?_⟩
    rw [upd_upd]
    obtain ⟨E2, s2⟩ := E1.fresh (o := NdO C.X.prog C.X.w b2 []) (sv := .thg b2 (ndT C.X.prog C.X.w b2 [])) (i := j) hb2 rfl (by rw [List.length_set]; exact hlj) fun o1 o2 => ⟨rfl, o1, o2, _, upd_same, nm, [], rfl, .nil, Nat.zero_le _⟩
    exact q.nx _ _ _ (k b b2) E2 (s1.trans s2)⟩
theorem de_ndget (i : Nat) {x : Str} {d : PyData} {j : Int} (h : gt ρ i = .thg q (ndT C.X.prog C.X.w q kvs)) (hN : C.X.N[i]? = some x) (hv : Vis C.X.env.scope x) (kd : KeyD d) (hk : DEd C Ξ ρ e d) (hz : ndV kvs d = some j) (hd : (x == ("__debug__" : Str)) = false := by decide) (hcd : (x == ("__classdict__" : Str)) = false := by decide)
    (hs : NoSl e := by intro _ _; rfl) : DEd C Ξ ρ (.Subscript (.Name x px) e pos) (.int j) := fun σ H E Q qq zz =>
  ⟨_, pe_ndget (by have := C.un; omega) (pe_var hN hv hd hcd) pE hs, _, (E.nd_of h).1, hk σ H E _ (fun d v H2 pd g r => by
    subst pd
    obtain ⟨b, rfl⟩ := kd.ref r
    obtain ⟨_, _, _, nm, xs, h4, h5, h6⟩ := (E.grow g).nd_of h
    exact ⟨q, xs, kvs, b, d, j, rfl, nd_see nm h4 h5 h6, rfl, r.up hid_le, kd, hz, qq _ _ H2 rfl g (.int j)⟩) zz⟩
/-- c[k] = c.get(k, 0) + 1 -/
theorem ds_ndinc (i : Nat) {x : Str} {d : PyData} {px2 apos cpos ipos ipos2 bpos spos : Pos} {k1 k2 : Nat} {i0 i1 : Int} (h : gt ρ i = .thg q (ndT C.X.prog C.X.w q kvs)) (hN : C.X.N[i]? = some x) (hv : Vis C.X.env.scope x) (kd : KeyD d) (hg : DEd C (xi F) ρ e1 d) (hk : DEd C (xi F) ρ e2 d) (hlen : kvs.length < 100000)
    (kk : F (.nx (ρ.set i (.thg q (ndT C.X.prog C.X.w q (ndPut kvs d ((ndV kvs d).getD i0 + i1))))))) (m : M2 C.X (.Name x px) "get" apos e1 (.Constant (.int i0) k1 ipos) cpos) (hd : (x == ("__debug__" : Str)) = false := by decide) (hcd : (x == ("__classdict__" : Str)) = false := by decide)
    (ha : ∀ v, assign (.Subscript (.Name x px2) e2 spos) C.X.env v = (do
      let ov ← holding [v] (eval (.Name x px2) C.X.env)
      let iv ← holding [v, ov] (eval e2 C.X.env)
      standAt spos
      holding [v, ov, iv] (setItem ov iv v)
      release [v, ov, iv] []) := by intro _; rfl)
    (hs : swapsWithSole [.Subscript (.Name x px2) e2 spos] (.BinOp (.Call (.Attribute (.Name x px) "get" apos) [e1, .Constant (.int i0) k1 ipos] [] cpos) .Add (.Constant (.int i1) k2 ipos2) bpos) pos.line C.X.env = pure false := by rfl)
    (hw : swappedStores [.Subscript (.Name x px2) e2 spos] (.BinOp (.Call (.Attribute (.Name x px) "get" apos) [e1, .Constant (.int i0) k1 ipos] [] cpos) .Add (.Constant (.int i1) k2 ipos2) bpos) C.X.env = pure none := by rfl)
    (hx1 : (assignEach [.Subscript (.Name x px2) e2 spos] C.X.env).map (·.2) = [assign (.Subscript (.Name x px2) e2 spos) C.X.env] := by rfl) :
    DS C F ρ (.Assign [.Subscript (.Name x px2) e2 spos] (.BinOp (.Call (.Attribute (.Name x px) "get" apos) [e1, .Constant (.int i0) k1 ipos] [] cpos) .Add (.Constant (.int i1) k2 ipos2) bpos) pos) := fun D σ H E q0 =>
  ⟨_, ps_asg (pe_op op_add (pe_ndget2 (by have := C.un; omega) (pe_var hN hv hd hcd) pE pe_int m) pe_int) (pg_sub (pe_var hN hv hd hcd) pE (set_nd (by have := C.un; omega)) ha) hs hw hx1, by
    obtain ⟨hσ, o1, o2, nm, xs0, h40, _, _⟩ := E.nd_of h
    refine ⟨_, hσ, q, rfl, ⟨xs0, h40⟩, hg σ H E _ (fun d1 v1 H1 p1 g1 r1 => ?_) (q0.exE E)⟩
    subst p1
    have E1 := E.grow g1
    obtain ⟨b1, rfl⟩ := kd.ref r1
    obtain ⟨_, _, _, _, xs, h4, h5, h6⟩ := E1.nd_of h
    refine ⟨xs, kvs, b1, d1, i0, nd_see nm h4 h5 h6, rfl, r1.up hid_le, kd, rfl, _, i1, rfl, rfl, ?_⟩
    refine ⟨_, (E1.nd_of h).1, hk σ H1 E1 _ (fun d2 v2 H2 p2 g2 r2 => ?_) (fun c H2 xc g2 => q0.exE E c H2 xc (g1.trans g2))⟩
    subst p2
    have E2 := E1.grow g2
    obtain ⟨b2, rfl⟩ := kd.ref r2
    obtain ⟨_, _, _, _, ys, h4, h5, h6⟩ := E2.nd_of h
    refine ⟨q, ys, kvs, b2, d2, _, rfl, rfl, rfl, nd_see nm h4 h5 h6, r2.up hid_le, kd, fun t => ?_⟩
    have hyl : ys.length < 100000 := by rw [Paired.length h5]; exact hlen
    obtain ⟨E3, ev⟩ := E2.mutX (o := NdO C.X.prog C.X.w q (storedH ys (keyP d2) b2 (.int ((ndV kvs d2).getD i0 + i1) t))) (sv := .thg q (ndT C.X.prog C.X.w q (ndPut kvs d2 ((ndV kvs d2).getD i0 + i1)))) (i := i) (by rw [h]; rfl) rfl o1 o2 (fun z y => by rw [h4] at y; injection y with y; exact ndO_code y) fun ev => ⟨rfl, o1, o2, _, upd_same, nm, _, rfl, by rw [ev]; exact nd_put h5 r2 kd, by have := nd_put_len (xs := ys) (k := keyP d2) (b := b2) (v := .int ((ndV kvs d2).getD i0 + i1) t); omega⟩
    refine q0.nx _ _ _ kk E3 ?_
    rw [ev]
    exact (vis_gr g1).trans (vis_gr g2)⟩
theorem nd_keys {C : Ct} {ρ : Rho} {H : Hp} {xs : NdX} (h : Paired (ndE H) xs kvs) : AtAll H (xs.map fun y => V.ref y.2.1) (kvs.map (·.1)) := by
  induction h with
  | nil => exact .nil
  | cons r _ ih => exact .cons r.2.2.1 ih
/-- list(c) -/
theorem de_listNd (i : Nat) {x : Str} (h : gt ρ i = .thg q (ndT C.X.prog C.X.w q kvs)) (hN : C.X.N[i]? = some x) (hv : Vis C.X.env.scope x) (hg : Gl C.X "list") (hm : C.X.mg "list" = none) (hc : C.X.calm = true := by rfl) (hd : (x == ("__debug__" : Str)) = false := by decide) (hcd : (x == ("__classdict__" : Str)) = false := by decide)
    (he : starEach [.Name x px] C.X.env = (false, eval (.Name x px) C.X.env) :: starEach [] C.X.env := by rfl) (hpl : (backTo pos (starEach [] C.X.env)).any (·.1) = false := by rfl) : DEd C Ξ ρ (.Call (.Name "list" p) [.Name x px] [] pos) (.list (kvs.map (·.1))) := fun σ H E Q qq zz =>
  ⟨_, pe_callTy (call_list_nd hc) hg hm PyProof.Rows.boot_list (pa_cons (pe_var hN hv hd hcd) pa_nil he) (by decide) (by decide) he hpl, by
    obtain ⟨hσ, o1, o2, nm, xs, h4, h5, h6⟩ := E.nd_of h
    refine ⟨_, hσ, q, xs, rfl, h4, nm, h6, fun c hc => ?_⟩
    refine qq _ _ _ rfl (Gr.of (same_new hc)) (.lst (E.newV hc) ?_)
    exact (nd_keys (C := C) (ρ := ρ) h5).up (vis_gr (Gr.of (same_new hc)))⟩
end
end DD

namespace DD
open PySem L2 RZ
/-! ## zip of two tuples -/
def zipD (ds es : List PyData) : List PyData := (ds.zip es).map fun z => .tuple [z.1, z.2]
theorem zipD_at {ds es : List PyData} {k : Nat} {x y : PyData} (h1 : ds[k]? = some x) (h2 : es[k]? = some y) : (zipD ds es)[k]? = some (.tuple [x, y]) := by
  unfold zipD
  have e : (ds.zip es)[k]? = some (x, y) := List.getElem?_zip_eq_some.mpr ⟨h1, h2⟩
  rw [List.getElem?_map, e]
  rfl
theorem zipD_len (ds es : List PyData) : (zipD ds es).length = min ds.length es.length := by unfold zipD; rw [List.length_map, List.length_zip]
theorem yields_zipT {K : PySem.W.Frag} {a b : Addr} {ds es : List PyData} : Yields (ItzT K a b) (zipD ds es) (fun Hv => (∃ xs, Hv a = some (.tup xs) ∧ AtAll Hv xs ds) ∧ ∃ ys, Hv b = some (.tup ys) ∧ AtAll Hv ys es) where
  mono := fun Hv Hv' s ⟨⟨xs, h1, h2⟩, ys, h3, h4⟩ => ⟨⟨xs, s _ _ h1, h2.up s⟩, ys, s _ _ h3, h4.up s⟩
  go := fun O H k ⟨⟨xs, h1, h2⟩, ys, h3, h4⟩ hk => by
    rw [zipD_len] at hk
    obtain ⟨x, e1, _⟩ := h2.get (List.getElem?_eq_getElem (show k < ds.length by omega))
    obtain ⟨y, e2, _⟩ := h4.get (List.getElem?_eq_getElem (show k < es.length by omega))
    exact ⟨xs, ys, x, y, SqT.of (hid_le _ _ h1), SqT.of (hid_le _ _ h3), e1, e2⟩
  yld := fun O H k v H' hO ⟨⟨xs, h1, h2⟩, ys, h3, h4⟩ hk y => by
    obtain ⟨T, x, y, rfl, hT, rfl, q1, q2⟩ := y
    obtain ⟨d, e1, r1⟩ := h2.get' (q1 xs (SqT.of (hid_le _ _ h1)))
    obtain ⟨d', e2, r2⟩ := h4.get' (q2 ys (SqT.of (hid_le _ _ h3)))
    have sm : Same H (upd H T (.tup [x, y])) := same_new hT
    have hOT : O T = false := by
      cases e : O T with
      | false => rfl
      | true => exact absurd hT (hO T e)
    have s2 : Same (hid O H) (hid O (upd H T (.tup [x, y]))) := hid_mono fun a o e1 e2 => ⟨e1, sm a o e2⟩
    exact ⟨sm, _, zipD_at e1 e2, .tup ((hid_at hOT).trans upd_same) (.cons (r1.up s2) (.cons (r2.up s2) .nil))⟩
  stop := fun O H k ⟨⟨xs, h1, h2⟩, ys, h3, h4⟩ hk => ⟨xs, ys, SqT.of (hid_le _ _ h1), SqT.of (hid_le _ _ h3), by rw [zipD_len] at hk; rw [h2.len, h4.len]; omega⟩
theorem dit_zipT {C : Ct} {Ξ : Addr → Prop} {ρ : Rho} {e e2 : Expr} {elts : List Expr} {kk : Nat} {tpos p pos : Pos} {ds es : List PyData} (hg : Gl C.X "zip") (hm : C.X.mg "zip" = none) (ha : DAd C Ξ ρ [e, e2] [.tuple ds, .tuple es])
    (hs : starEach [e, e2] C.X.env = (false, eval e C.X.env) :: starEach [e2] C.X.env := by rfl) (hpl : (backTo pos (starEach [e2] C.X.env)).any (·.1) = false := by rfl) : DItd C Ξ ρ (.Tuple elts kk tpos) (.Call (.Name "zip" p) [e, e2] [] pos) (zipD ds es) := fun σ H E R k z =>
  ⟨_, pi_zipA hg hm pA hs hpl, ha σ H E _ (fun l vs H2 pl g r => by
    subst pl
    obtain ⟨v, u, rfl, r1, r2⟩ := r.ats.two
    obtain ⟨a, xs, rfl, h1, h2⟩ := r1.ref_tup
    obtain ⟨b, ys, rfl, h3, h4⟩ := r2.ref_tup
    exact ⟨a, b, xs, ys, rfl, .inr ⟨SqT.of (hid_le _ _ h1), SqT.of (hid_le _ _ h3), k _ _ _ H2 rfl g ⟨⟨xs, h1, h2⟩, ys, h3, h4⟩ yields_zipT⟩⟩) z⟩
/-! ## how many rows come to a round -/
noncomputable def pB (b : Int) (x : PyData) (r : List Int) : Bool := @decide (circD b r = x) (Classical.propDecidable _)
theorem pB_iff {b : Int} {x : PyData} {r : List Int} : pB b x r = true ↔ circD b r = x := by unfold pB; simp
theorem pB_self {b : Int} {r : List Int} : pB b (circD b r) r = true := pB_iff.mpr rfl
noncomputable def cRow (b : Int) (x : PyData) (W : List (List Int)) : Int := ((W.filter (pB b x)).length : Int)
theorem cRow_snoc (b : Int) (x : PyData) (W : List (List Int)) (r : List Int) : cRow b x (W ++ [r]) = cRow b x W + if pB b x r = true then 1 else 0 := by
  unfold cRow
  rw [List.filter_append, List.length_append]
  by_cases h : pB b x r = true
  · rw [if_pos h, List.filter_cons_of_pos h]; rfl
  · rw [if_neg h, List.filter_cons_of_neg h]; simp
theorem circ_perm {b : Int} {r o : List Int} (hb : Base b) (hr : Row b r) (ho : Row b o) (h : r.Perm o) : circD b r = circD b o := circD_meet (i := 1) (j := 1) hb hr ho (step_perm h)
theorem row_fal {b : Int} {r : List Int} (h : Row b r) : Row b (falI r) := ⟨by rw [falI_len]; exact h.1, h.2.fal⟩
theorem cnt_gen {b : Int} {n : Nat} (hb : b ∈ LB) (b1 : 1 ≤ b) (hn : 1 ≤ n ∧ n ≤ 7) (hp : b ^ n ≤ 700) (p : List Int → Bool) (hpf : ∀ r ∈ allR b n, p (falI r) = p r) : (((falN b n).filter fun z => p z.1).map (·.2)).sum = (((allR b n).filter p).length : Int) := by
  obtain ⟨h1, h2⟩ := sum_fin b hb n (by simp only [List.mem_cons, List.not_mem_nil, or_false]; omega) hp
  have hin : ∀ r ∈ allR b n, falI r ∈ (falN b n).map (·.1) := fun r hr => by
    obtain ⟨d1, d2⟩ := (allR_mem b1).mp hr
    obtain ⟨m, hm⟩ := fal_mem (falI_R d1 d2)
    exact List.mem_map.mpr ⟨_, hm, rfl⟩
  have h3 := part h2 (allR b n) hin
  have h0 : 0 ≤ b ^ n := Int.pow_nonneg (by omega)
  rw [allR_len, Int.toNat_of_nonneg h0] at h3
  have h4 := sum_split (fun z : List Int × Int => z.2) (fun z => (((allR b n).filter fun r => decide (falI r = z.1)).length : Int)) (falN b n) (fun z hz => by
    obtain ⟨m, e, hm⟩ := fal_many hz
    have := hm ((allR b n).filter fun r => decide (falI r = z.1)) ((allR_nd b1 n).filter _) fun r hr => by
      have := of_decide_eq_true (List.mem_filter.mp hr).2
      rw [← this]
      exact (fal_of_perm r).symm
    show _ ≤ z.2
    rw [e]
    omega) (by rw [h1, h3]) (fun z => p z.1)
  have h5 := part (F := (falN b n).filter fun z => p z.1) (h2.sublist (List.filter_sublist.map _)) ((allR b n).filter p) fun r hr => by
    obtain ⟨m1, m2⟩ := List.mem_filter.mp hr
    obtain ⟨z, hz, e⟩ := List.mem_map.mp (hin r m1)
    exact List.mem_map.mpr ⟨z, List.mem_filter.mpr ⟨hz, by rw [e, hpf r m1]; exact m2⟩, e⟩
  refine (h4.trans ?_).trans h5
  congr 1
  refine List.map_congr_left fun z hz => ?_
  have hs : p z.1 = true := (List.mem_filter.mp hz).2
  congr 2
  rw [List.filter_filter]
  refine List.filter_congr fun r hr => ?_
  by_cases e : falI r = z.1
  · have : p r = true := by rw [← hpf r hr, e]; exact hs
    rw [decide_eq_true e, this]; rfl
  · rw [decide_eq_false e]; rfl
theorem cntR_is {b : Int} {n : Nat} (hB : Base b) (hb : b ∈ LB) (hn : 1 ≤ n ∧ n ≤ 7) (hp : b ^ n ≤ 700) (x : PyData) : cntR b n x = cRow b x (allR b n) := by
  have b1 : 1 ≤ b := by have := hB.1; omega
  unfold cntR
  rw [cntT_eq (p := fun z => pB b x z.1) fun z hz => pB_iff.symm]
  refine cnt_gen hb b1 hn hp (pB b x) fun r hr => ?_
  have hrow := allR_row b1 ⟨hn.1, by omega⟩ hr
  rw [Bool.eq_iff_iff, pB_iff, pB_iff, circ_perm hB (row_fal hrow) hrow (fal_of_perm r)]
theorem ind_sum {y : PyData} (f : PyData → Int) (h1 : f y = 1) (h0 : ∀ x, x ≠ y → f x = 0) : ∀ {F : List PyData}, F.Nodup → y ∈ F → (F.map f).sum = 1
  | [], _, h => by cases h
  | x :: F, hn, h => by
    obtain ⟨n1, n2⟩ := List.nodup_cons.mp hn
    rw [List.map_cons, List.sum_cons]
    rcases List.mem_cons.mp h with e | h
    · subst e
      have z : ∀ {F : List PyData}, y ∉ F → (F.map f).sum = 0 := fun {F} => by
        induction F with
        | nil => intro _; rfl
        | cons w F ih =>
          intro hw
          rw [List.map_cons, List.sum_cons, h0 w (fun e => hw (e ▸ List.mem_cons_self)), ih fun e => hw (List.mem_cons_of_mem _ e)]
          rfl
      rw [h1, z n1]; rfl
    · rw [h0 x (fun e => n1 (e ▸ h)), ind_sum f h1 h0 n2 h]; rfl
theorem parts {b : Int} {F : List PyData} (hF : F.Nodup) : ∀ W : List (List Int), (∀ r ∈ W, circD b r ∈ F) → (F.map fun x => cRow b x W).sum = W.length := fun W => by
  refine snoc_ind (p := fun W => (∀ r ∈ W, circD b r ∈ F) → (F.map fun x => cRow b x W).sum = W.length) (fun _ => ?_) (fun W r ih0 h => ?_) W
  · have z : ∀ F : List PyData, (F.map fun x => cRow b x []).sum = 0 := fun F => by
      induction F with
      | nil => rfl
      | cons x F ih => rw [List.map_cons, List.sum_cons, ih]; rfl
    exact z F
  · have ih := ih0 fun x hx => h x (List.mem_append_left _ hx)
    have hr := h r (List.mem_append_right _ List.mem_cons_self)
    have i1 := ind_sum (y := circD b r) (fun x => if pB b x r = true then 1 else 0) (if_pos pB_self) (fun x hx => if_neg fun e => hx (pB_iff.mp e).symm) hF hr
    have e : (F.map fun x => cRow b x (W ++ [r])).sum = (F.map fun x => cRow b x W).sum + (F.map fun x => if pB b x r = true then 1 else 0).sum := by
      clear hF hr i1 ih h ih0
      induction F with
      | nil => rfl
      | cons x F ih => simp only [List.map_cons, List.sum_cons]; rw [ih, cRow_snoc]; omega
    rw [e, ih, i1, List.length_append]
    rfl
/-- the law's dict of counts -/
structure CntOk (b : Int) (W : List (List Int)) (kvs : List (PyData × Int)) : Prop where
  nd : (kvs.map (·.1)).Nodup
  is : ∀ z ∈ kvs, (∃ r ∈ W, circD b r = z.1) ∧ z.2 = cRow b z.1 W
  all : ∀ r ∈ W, circD b r ∈ kvs.map (·.1)
section
variable {b : Int} {W : List (List Int)} {kvs : List (PyData × Int)}
theorem CntOk.key (hb : Base b) (hW : ∀ r ∈ W, Row b r) (c : CntOk b W kvs) {z : PyData × Int} (hz : z ∈ kvs) : KeyD z.1 := by
  obtain ⟨⟨r, hr, e⟩, _⟩ := c.is z hz
  rw [← e]
  exact (circD_rowsT hb (hW r hr)).key
theorem CntOk.found (hb : Base b) (hW : ∀ r ∈ W, Row b r) (c : CntOk b W kvs) {r : List Int} (hr : Row b r) {j : Int} (h : ndV kvs (circD b r) = some j) : j = cRow b (circD b r) W ∧ circD b r ∈ kvs.map (·.1) := by
  unfold ndV at h
  cases e : kvs.find? fun z => decide (keyP z.1 = keyP (circD b r)) with
  | none => rw [e] at h; cases h
  | some z =>
    rw [e] at h
    have h : some z.2 = some j := h
    injection h with h
    have hm := List.mem_of_find?_eq_some e
    have hk := List.find?_some e
    have hk := of_decide_eq_true hk
    have e2 := (c.key hb hW hm).inj (circD_rowsT hb hr).key hk
    exact ⟨by rw [← h, (c.is z hm).2, e2], List.mem_map.mpr ⟨z, hm, e2⟩⟩
theorem CntOk.gone (hb : Base b) (c : CntOk b W kvs) {r : List Int} (hr : Row b r) (h : ndV kvs (circD b r) = none) : cRow b (circD b r) W = 0 ∧ circD b r ∉ kvs.map (·.1) := by
  have no : circD b r ∉ kvs.map (·.1) := fun hm => by
    obtain ⟨z, hz, e⟩ := List.mem_map.mp hm
    unfold ndV at h
    have h := Option.map_eq_none_iff.mp h
    have := List.find?_eq_none.mp h z hz
    simp [e] at this
  refine ⟨?_, no⟩
  unfold cRow
  rw [List.filter_eq_nil_iff.mpr]
  · rfl
  · intro x hx e
    exact no ((pB_iff.mp e) ▸ c.all x hx)
theorem CntOk.getD (hb : Base b) (hW : ∀ r ∈ W, Row b r) (c : CntOk b W kvs) {r : List Int} (hr : Row b r) : (ndV kvs (circD b r)).getD 0 = cRow b (circD b r) W := by
  cases h : ndV kvs (circD b r) with
  | none => exact (c.gone hb hr h).1.symm
  | some j => exact (c.found hb hW hr h).1
theorem CntOk.val (hb : Base b) (hW : ∀ r ∈ W, Row b r) (c : CntOk b W kvs) {r : List Int} (hr : r ∈ W) : ndV kvs (circD b r) = some (cRow b (circD b r) W) := by
  cases h : ndV kvs (circD b r) with
  | none => exact absurd (c.all r hr) (c.gone hb (hW r hr) h).2
  | some j => rw [(c.found hb hW (hW r hr) h).1]
theorem CntOk.nil : CntOk b [] [] := ⟨List.Pairwise.nil, (fun z h => nomatch h), fun z h => nomatch h⟩
theorem CntOk.step (hb : Base b) (hW : ∀ r ∈ W, Row b r) (c : CntOk b W kvs) {r : List Int} (hr : Row b r) : CntOk b (W ++ [r]) (ndPut kvs (circD b r) ((ndV kvs (circD b r)).getD 0 + 1)) := by
  rw [c.getD hb hW hr]
  have self : cRow b (circD b r) (W ++ [r]) = cRow b (circD b r) W + 1 := by rw [cRow_snoc, if_pos pB_self]
  have other : ∀ x, x ≠ circD b r → cRow b x (W ++ [r]) = cRow b x W := fun x hx => by rw [cRow_snoc, if_neg fun e => hx (pB_iff.mp e).symm]; omega
  unfold ndPut
  cases h : ndV kvs (circD b r) with
  | some j =>
    rw [if_pos (by rfl : (some j).isSome = true)]
    obtain ⟨_, hin⟩ := c.found hb hW hr h
    have ek : (kvs.map fun z => if keyP z.1 = keyP (circD b r) then (z.1, cRow b (circD b r) W + 1) else z).map (·.1) = kvs.map (·.1) := by
      rw [List.map_map]
      refine List.map_congr_left fun z _ => ?_
      show (if _ then _ else _ : PyData × Int).1 = _
      split <;> rfl
    refine ⟨by rw [ek]; exact c.nd, fun z hz => ?_, fun x hx => ?_⟩
    · obtain ⟨z0, hz0, rfl⟩ := List.mem_map.mp hz
      obtain ⟨⟨r0, hr0, e0⟩, e1⟩ := c.is z0 hz0
      split
      · rename_i hk
        have e := (c.key hb hW hz0).inj (circD_rowsT hb hr).key hk
        exact ⟨⟨r0, List.mem_append_left _ hr0, e0⟩, by show _ = cRow b z0.1 (W ++ [r]); rw [e, self]⟩
      · rename_i hk
        exact ⟨⟨r0, List.mem_append_left _ hr0, e0⟩, by rw [e1, other _ fun e => hk (by rw [e])]⟩
    · rw [ek]
      rcases List.mem_append.mp hx with hx | hx
      · exact c.all x hx
      · rw [List.mem_singleton.mp hx]; exact hin
  | none =>
    rw [if_neg (by simp)]
    obtain ⟨h0, hno⟩ := c.gone hb hr h
    refine ⟨?_, fun z hz => ?_, fun x hx => ?_⟩
    · rw [List.map_append]
      refine List.nodup_append.mpr ⟨c.nd, by simp, fun x hx y hy e => ?_⟩
      rw [List.mem_singleton.mp hy] at e
      have e : x = circD b r := e
      rw [e] at hx
      exact hno hx
    · rcases List.mem_append.mp hz with hz | hz
      · obtain ⟨⟨r0, hr0, e0⟩, e1⟩ := c.is z hz
        exact ⟨⟨r0, List.mem_append_left _ hr0, e0⟩, by rw [e1, other _ fun e => hno (List.mem_map.mpr ⟨z, hz, e⟩)]⟩
      · rw [List.mem_singleton.mp hz]
        exact ⟨⟨r, List.mem_append_right _ List.mem_cons_self, rfl⟩, self.symm⟩
    · rw [List.map_append]
      rcases List.mem_append.mp hx with hx | hx
      · exact List.mem_append_left _ (c.all x hx)
      · rw [List.mem_singleton.mp hx]; exact List.mem_append_right _ List.mem_cons_self
theorem CntOk.len (c : CntOk b W kvs) : kvs.length ≤ W.length := by
  have h := @nd_le PyData (Classical.typeDecidableEq _) (kvs.map (·.1)) (W.map (circD b)) c.nd fun x hx => by
    obtain ⟨z, hz, rfl⟩ := List.mem_map.mp hx
    obtain ⟨⟨r, hr, e⟩, _⟩ := c.is z hz
    exact List.mem_map.mpr ⟨r, hr, e⟩
  rwa [List.length_map, List.length_map] at h
end
theorem CntOk.sort {b : Int} {n : Nat} {kvs : List (PyData × Int)} (hb : Base b) (hn : 1 ≤ n ∧ n ≤ 8) (c : CntOk b (allR b n) kvs) : (kvs.map (·.1)).mergeSort dLe = roundsL b n :=
  sort_rounds hb hn c.nd fun x => ⟨fun h => by
    obtain ⟨z, hz, rfl⟩ := List.mem_map.mp h
    obtain ⟨⟨r, hr, e⟩, _⟩ := c.is z hz
    exact ⟨r, hr, e⟩, fun ⟨r, hr, e⟩ => e ▸ c.all r hr⟩
/-- a round's rows come to it -/
theorem round_le {b : Int} {n : Nat} {x : PyData} (hb : Base b) (hn : 1 ≤ n ∧ n ≤ 8) (h : x ∈ roundsL b n) : ∃ ds, x = .tuple ds ∧ (ds.length : Int) ≤ cRow b x (allR b n) := by
  have b1 : 1 ≤ b := by have := hb.1; omega
  obtain ⟨r, hr, rfl⟩ := rounds_mem.mp h
  have hrow := allR_row b1 hn hr
  obtain ⟨m, L, c, e⟩ := circ_len hb hrow
  refine ⟨_, e, ?_⟩
  rw [circR_len]
  obtain ⟨i, hi⟩ := c.at_
  have hrl := ((allR_mem b1).mp hr).2
  have hm : Row b m := by rw [← hi]; exact orb_row b1 hrow i
  have hml : m.length = n := by rw [← hi, orb_len]; exact hrl
  have nd : ((List.range L).map (orb b m)).Nodup := by
    refine nd_map List.nodup_range fun x hx y hy exy => ?_
    have hx := List.mem_range.mp hx
    have hy := List.mem_range.mp hy
    rcases Nat.lt_trichotomy x y with h | h | h
    · exact absurd exy (by have := far_of_circ c x (y - x) (by omega) (by omega); rwa [show x + (y - x) = y by omega] at this)
    · exact h
    · exact absurd exy.symm (by have := far_of_circ c y (x - y) (by omega) (by omega); rwa [show y + (x - y) = x by omega] at this)
  have := nd_le nd (m := (allR b n).filter (pB b (circD b r))) fun z hz => by
    obtain ⟨t, _, rfl⟩ := List.mem_map.mp hz
    refine List.mem_filter.mpr ⟨(allR_mem b1).mpr ⟨(orb_row b1 hm t).2, by rw [orb_len]; exact hml⟩, pB_iff.mpr ?_⟩
    exact circD_meet (i := 0) (j := i + t) hb (orb_row b1 hm t) hrow (by rw [← orb_add, hi]; rfl)
  rw [List.length_map, List.length_range] at this
  unfold cRow
  omega
/-- two digits of an even base -/
theorem cnt_even {b : Int} (hb : Base b) (hl : b ∈ LB) (he : b % 2 = 0) : cntR b 2 (.tuple [tI [0, 0]]) = b := by
  have b1 : 1 ≤ b := by have := hb.1; omega
  unfold cntR
  rw [cntT_eq (p := fun z => decide (z.1.getD 0 0 = z.1.getD 1 0)) fun z hz => ?_, sum_two b hl]
  have hlen := (fal_ok hz).len
  have hd := (fal_ok hz).dg
  match hz1 : z.1, hlen with
  | [p, q], _ =>
    rw [hz1] at hd
    have hp := hd p List.mem_cons_self
    have hq := hd q (List.mem_cons_of_mem _ List.mem_cons_self)
    rw [decide_eq_true_iff]
    show _ ↔ p = q
    constructor
    · intro e
      by_cases epq : p = q
      · exact epq
      · exfalso
        have hg : 0 < gap2 p q := by unfold gap2; split <;> omega
        have hrow : Row b [p, q] := ⟨by simp, hd⟩
        obtain ⟨m, L, c, e2⟩ := circ_len hb hrow
        rw [e2] at e
        injection e with e
        obtain ⟨ds, e3⟩ := circR_cons b m c.pos
        rw [e3] at e
        injection e with e _
        have e := tI_inj e
        obtain ⟨i, hi⟩ := c.at_
        obtain ⟨u, v, e4, _, _, h3⟩ := orb_two he hp hq hg i
        rw [hi, e] at e4
        injection e4 with z1 z2
        injection z2 with z2 _
        rw [← z1, ← z2] at h3
        exact absurd h3 (by decide)
    · rintro rfl
      refine circD_fix (i := 1) ?_ (step_zero b1 2)
      show stepI b [p, p] = [0, 0]
      rw [step_two hp hp, if_neg (by unfold gap2; rw [Int.sub_self]; decide)]
/-! ## shapes -/
theorem lay_rdsT : ∀ {ds : List PyData}, (∀ d ∈ ds, RowsT d) → PyData.canLayAll0 ds = true ∧ PyData.depthAll ds ≤ 2
  | [], _ => by simp [PyData.canLayAll0, PyData.depthAll]
  | x :: ds, h => by
    obtain ⟨h1, h2⟩ := lay_rdsT (ds := ds) fun d hd => h d (List.mem_cons_of_mem _ hd)
    have hx := h x List.mem_cons_self
    have hs := SeqAt.canLay_of_shaped hx.sh
    have hd := hx.dp
    simp only [PyData.canLayAll0, PyData.depthAll, hs, h1, Bool.and_self]
    exact ⟨trivial, by omega⟩
theorem sh_rdsT {ds : List PyData} (h : ∀ d ∈ ds, RowsT d) : SeqAt.shaped (.tuple ds) = true := by
  have h1 := lay_rdsT h
  unfold SeqAt.shaped
  rw [PyData.canLay0, PyData.depth, h1.1, Bool.true_and, decide_eq_true_eq]
  have := h1.2
  omega
end DD

namespace DD
open PySem L2
theorem Env.drop {C : Ct} {ρ : Rho} {σ : L2.St} {H : Hp} (i : Nat) (E : Env C ρ σ H) : Env C (ρ.set i .no) σ H ∧ Same (vis C ρ H) (vis C (ρ.set i .no) H) := by
  have s : Same (vis C ρ H) (vis C (ρ.set i .no) H) := vis_le fun a e => owns_set rfl e
  refine ⟨⟨by rw [List.length_set]; exact E.len, fun j => ?_, E.cell, E.alloc, E.gr, fun j l p hj hl => ?_⟩, s⟩
  · rw [gt_set]
    split
    · trivial
    · exact (E.slot j).see s fun a u _ e => e
  · rw [gt_set] at hj hl
    split at hj
    · cases hj
    · split at hl
      · cases hl
      · exact E.dis j l p hj hl
/-- what a slot owns is of no more interest -/
theorem dss_drop {C : Ct} {F : Out → Prop} {ρ : Rho} {sts : List Stmt} (i : Nat) (h : DSs C F (ρ.set i .no) sts) : DSs C F ρ sts := fun D σ H E k => by
  obtain ⟨E2, s⟩ := E.drop i
  exact h D σ H E2 (k.move s)
theorem upd_swap {H : Hp} {a b : Addr} {o u : HO} (h : a ≠ b) : upd (upd H a o) b u = upd (upd H b u) a o := by
  funext c
  unfold upd
  by_cases h1 : c = b
  · rw [if_pos h1, if_neg (fun e => h (e.symm.trans h1)), if_pos h1]
  · rw [if_neg h1]
    by_cases h2 : c = a
    · rw [if_pos h2, if_pos h2]
    · rw [if_neg h2, if_neg h2, if_neg h1]
/-- a, b = {}, {}, not both of them plain locals -/
theorem ds_newDNc {C : Ct} {F : Out → Prop} {ρ : Rho} {pos : Pos} (i j : Nat) {x y : Str} {px py pt lp lp2 pt2 : Pos} {kt k2 : Nat} (k : ∀ b b2, F (.nx ((ρ.set i (.dic b [])).set j (.thg b2 (ndT C.X.prog C.X.w b2 []))))) (hN : C.X.N.Nodup) (hi : C.X.N[i]? = some x) (hj : C.X.N[j]? = some y) (hli : i < ρ.length) (hlj : j < ρ.length)
    (hx : Loc C.X.env.scope x) (hy : Loc C.X.env.scope y) (hfx : C.X.fn x = true ∨ C.X.env.scope.names.lookup x = some .local) (hfy : C.X.fn y = true ∨ C.X.env.scope.names.lookup y = some .local)
    (h1 : starEach [.Dict [] [] lp, .Dict [] [] lp2] C.X.env = (false, eval (.Dict [] [] lp) C.X.env) :: starEach [.Dict [] [] lp2] C.X.env := by rfl) (h2 : starEach [.Dict [] [] lp2] C.X.env = (false, eval (.Dict [] [] lp2) C.X.env) :: starEach [] C.X.env := by rfl)
    (hc : C.X.calm = true := by rfl) (hs : swapsWithSole [.Tuple [.Name x px, .Name y py] kt pt] (.Tuple [.Dict [] [] lp, .Dict [] [] lp2] k2 pt2) pos.line C.X.env = pure false := by rfl) (hw : swappedStores [.Tuple [.Name x px, .Name y py] kt pt] (.Tuple [.Dict [] [] lp, .Dict [] [] lp2] k2 pt2) C.X.env = pure none := by rfl)
    (hx1 : (assignEach [.Tuple [.Name x px, .Name y py] kt pt] C.X.env).map (·.2) = [assign (.Tuple [.Name x px, .Name y py] kt pt) C.X.env] := by rfl)
    (g1 : (assignEach [.Name x px, .Name y py] C.X.env).map (·.2) = assign (.Name x px) C.X.env :: (assignEach [.Name y py] C.X.env).map (·.2) := by rfl) (g2 : (assignEach [.Name y py] C.X.env).map (·.2) = assign (.Name y py) C.X.env :: (assignEach [] C.X.env).map (·.2) := by rfl)
    (gn : (assignEach [.Name x px, .Name y py] C.X.env).length = 2 := by rfl) (gs : (assignEach [.Name x px, .Name y py] C.X.env).findIdx? (·.1) = none := by rfl) : DS C F ρ (.Assign [.Tuple [.Name x px, .Name y py] kt pt] (.Tuple [.Dict [] [] lp, .Dict [] [] lp2] k2 pt2) pos) := fun D σ H E q =>
  ⟨_, ps_recast (ps_asg (pe_tup (pa_cons pe_dnewT (pa_cons pe_dnewT pa_nil h2) h1)) (pg_tup hc (pgs_cons (pg_name hN hi hx hfx) (pgs_cons (pg_name hN hj hy hfy) pgs_nil g2) g1) gn gs) hs hw hx1), fun b hb b2 hb2 => ⟨by show 2 ≤ sizeLine; rw [sizeLine_eq]; omega, fun t ht => by
    have n12 : b2 ≠ b := fun e => by rw [e, upd_same] at hb2; cases hb2
    have nt2 : t ≠ b2 := fun e => by rw [e, upd_same] at ht; cases ht
    refine ⟨t, [.ref b, .ref b2], rfl, SqT.of upd_same, rfl, _, _, rfl, _, _, rfl, rfl, b2, ?_, fun nm => ?_⟩
    · rw [upd_ne (Ne.symm nt2), upd_same]
    obtain ⟨E1, s1⟩ := E.fresh (o := .dT []) (sv := .dic b []) (i := i) hb rfl hli fun o1 o2 => ⟨rfl, o1, o2, [], upd_same, .nil⟩
    obtain ⟨E2, s2⟩ := E1.fresh (o := NdO C.X.prog C.X.w b2 []) (sv := .thg b2 (ndT C.X.prog C.X.w b2 [])) (i := j) hb2 rfl (by rw [List.length_set]; exact hlj) fun o1 o2 => ⟨rfl, o1, o2, _, upd_same, nm, [], rfl, .nil, Nat.zero_le _⟩
    have hx : upd (upd (upd (upd H b (.dT [])) b2 (.dT [])) t (.tup [.ref b, .ref b2])) b2 (NdO C.X.prog C.X.w b2 []) = upd (upd (upd H b (.dT [])) b2 (NdO C.X.prog C.X.w b2 [])) t (.tup [.ref b, .ref b2]) := by
      rw [upd_swap nt2, upd_upd]
    rw [hx]
    have ht2 : upd (upd H b (.dT [])) b2 (NdO C.X.prog C.X.w b2 []) t = none := by rw [upd_ne nt2] at ht ⊢; exact ht
    have g : Gr C.U (upd (upd H b (.dT [])) b2 (NdO C.X.prog C.X.w b2 [])) (upd (upd (upd H b (.dT [])) b2 (NdO C.X.prog C.X.w b2 [])) t (.tup [.ref b, .ref b2])) := Gr.of (same_new ht2)
    exact q.nx _ _ _ (k b b2) (E2.grow g) ((s1.trans s2).trans (vis_gr g))⟩⟩
end DD

namespace DD
open PySem PySem.Spec L2 PyProof.Rows
/-! ## sets of tuples of tuples -/
section
variable {P : Program} {w : World} {A : Around} {E : Value → Shared → Prop}
mutual
theorem cls_key : ∀ (k : NestedKey) (v : Value) (n : Nat) (s : Shared), NestedIs s.heap k v → k.depth ≤ n → ∀ Q : Bool → Shared → Prop, Q false s → wpAny (model P w) A (ofAClassStatement n v) Q E s
  | .none, _, n, s, x, _, Q, h => by cases x; cases n <;> exact wpAny_pure h
  | .num i, _, n, s, x, _, Q, h => by cases x <;> cases n <;> exact wpAny_pure h
  | .text y, _, n, s, x, _, Q, h => by cases x; cases n <;> exact wpAny_pure h
  | .tup ks, _, n, s, x, hn, Q, h => by
    cases x with
    | tup hg hc hd hk =>
      cases n with
      | zero => simp [NestedKey.depth] at hn
      | succ n =>
        have all := cls_keys ks _ n s hk (by simp only [NestedKey.depth] at hn; omega)
        unfold ofAClassStatement
        refine wpAny_bind (wpAny_typeOf (T := "tuple") ⟨_, hg, hc⟩ ?_)
        dsimp only
        have e : (("tuple" : String) == "tuple") = true := by decide
        simp only [e, if_true, Bool.not_true, Bool.false_eq_true, if_false]
        try refine wpAny_bind (wpAny_pure ?_)
        try simp only [Bool.not_true, Bool.false_eq_true, if_false]
        refine wpAny_bind (m := seqItems? _) (wpAny_seqItems hg hd ?_)
        dsimp only
        refine wpAny_bind ?_
        rw [← Array.forIn_toList]
        refine wpAny_forIn_list _ (fun rest r s1 => r.1 = none ∧ s1 = s ∧ ∀ y ∈ rest, ∀ R : Bool → Shared → Prop, R false s → wpAny (model P w) A (ofAClassStatement n y) R E s) _ ?_ ?_ _ _ ⟨rfl, rfl, all⟩
        · rintro y rest r s1 ⟨hr, rfl, al⟩
          refine wpAny_bind (al y List.mem_cons_self _ ?_)
          simp only [Bool.false_eq_true, if_false]
          exact wpAny_pure ⟨rfl, rfl, fun z hz => al z (List.mem_cons_of_mem _ hz)⟩
        · rintro ⟨r1, r2⟩ s1 ⟨hr, rfl, _⟩
          simp only at hr
          subst hr
          exact wpAny_pure h
theorem cls_keys : ∀ (ks : List NestedKey) (vs : List Value) (n : Nat) (s : Shared), NestedAll s.heap ks vs → NestedKey.depthAll ks ≤ n → ∀ v ∈ vs, ∀ Q : Bool → Shared → Prop, Q false s → wpAny (model P w) A (ofAClassStatement n v) Q E s
  | [], _, n, s, x, _, v, hv => by cases x; cases hv
  | k :: ks, _, n, s, x, hn, v, hv => by
    cases x with
    | cons x1 x2 =>
      simp only [NestedKey.depthAll] at hn
      rcases List.mem_cons.mp hv with e | hv
      · rw [e]; exact cls_key k _ n s x1 (by omega)
      · exact cls_keys ks _ n s x2 (by omega) v hv
end
mutual
def noT : NestedKey → Bool
  | .none => true
  | .num _ => true
  | .text _ => false
  | .tup ks => noTs ks
def noTs : List NestedKey → Bool
  | [] => true
  | k :: ks => noT k && noTs ks
end
mutual
theorem noT_key : ∀ d : PyData, ti d = true → noT (keyP d) = true
  | .int _, _ => rfl
  | .tuple ds, h => by rw [ti] at h; rw [keyP, noT]; exact noT_keys ds h
  | .none, h => by simp [ti] at h
  | .bool _, h => by simp [ti] at h
  | .str _, h => by simp [ti] at h
  | .list _, h => by simp [ti] at h
  | .dict _, h => by simp [ti] at h
theorem noT_keys : ∀ ds : List PyData, tis ds = true → noTs (keysP ds) = true
  | [], _ => rfl
  | d :: ds, h => by
    rw [tis, Bool.and_eq_true] at h
    rw [keysP, noTs, noT_key d h.1, noT_keys ds h.2]
    rfl
end
mutual
theorem byv_key : ∀ (k : NestedKey) (v : Value) (n : Nat) (s : Shared), NestedIs s.heap k v → noT k = true → k.depth ≤ n → ∀ Q : Bool → Shared → Prop, Q true s → wpAny (model P w) A (hashByValue n v) Q E s
  | .none, _, n, s, x, _, _, Q, h => by cases x; cases n <;> exact wpAny_pure h
  | .num i, _, n, s, x, _, _, Q, h => by cases x <;> cases n <;> exact wpAny_pure h
  | .text y, _, n, s, x, ht, _, Q, h => by simp [noT] at ht
  | .tup ks, _, n, s, x, ht, hn, Q, h => by
    cases x with
    | tup hg hc hd hk =>
      cases n with
      | zero => simp [NestedKey.depth] at hn
      | succ n =>
        rw [noT] at ht
        have all := byv_keys ks _ n s hk ht (by simp only [NestedKey.depth] at hn; omega)
        unfold hashByValue
        refine wpAny_bind (wpAny_specialOf (T := "tuple") ⟨_, hg, hc⟩ F.slot_tuple_hash.lookup ?_)
        refine wpAny_bind (m := seqItems? _) (wpAny_seqItems hg hd ?_)
        refine wpAny_bind ?_
        show wpAny _ _ (forIn _ _ _) _ _ s
        rw [← Array.forIn_toList]
        refine wpAny_forIn_list _ (fun rest r s1 => r.1 = none ∧ s1 = s ∧ ∀ y ∈ rest, ∀ R : Bool → Shared → Prop, R true s → wpAny (model P w) A (hashByValue n y) R E s) _ ?_ ?_ _ _ ⟨rfl, rfl, all⟩
        · rintro y rest r s1 ⟨hr, rfl, al⟩
          refine wpAny_bind (al y List.mem_cons_self _ ?_)
          simp only [Bool.not_true, Bool.false_eq_true, if_false]
          exact wpAny_pure ⟨rfl, rfl, fun z hz => al z (List.mem_cons_of_mem _ hz)⟩
        · rintro ⟨r1, r2⟩ s1 ⟨hr, rfl, _⟩
          simp only at hr
          subst hr
          exact wpAny_pure h
theorem byv_keys : ∀ (ks : List NestedKey) (vs : List Value) (n : Nat) (s : Shared), NestedAll s.heap ks vs → noTs ks = true → NestedKey.depthAll ks ≤ n → ∀ v ∈ vs, ∀ Q : Bool → Shared → Prop, Q true s → wpAny (model P w) A (hashByValue n v) Q E s
  | [], _, n, s, x, _, _, v, hv => by cases x; cases hv
  | k :: ks, _, n, s, x, ht, hn, v, hv => by
    cases x with
    | cons x1 x2 =>
      simp only [NestedKey.depthAll] at hn
      rw [noTs, Bool.and_eq_true] at ht
      rcases List.mem_cons.mp hv with e | hv
      · rw [e]; exact byv_key k _ n s x1 ht.1 (by omega)
      · exact byv_keys ks _ n s x2 ht.2 (by omega) v hv
end
end
/-- the tuple at b is the key k, without texts -/
def SK (P : Program) (w : World) (h : Heap) (k : NestedKey) (b : Addr) : Prop := (nestedKind P w).is h k b ∧ noT k = true
theorem SK.to {P : Program} {w : World} {h h' : Heap} {k : NestedKey} {b : Addr} (x : SK P w h k b) (hk : ∀ a o vs n, h.get? a = some o → o.data = .seq vs n → h'.get? a = some o) : SK P w h' k b := ⟨⟨NestedIs.at hk _ _ x.1.1, x.1.2⟩, x.2⟩
theorem SK.keep {P : Program} {w : World} {h h' : Heap} {k : NestedKey} {b : Addr} (x : SK P w h k b) (hk : ∀ c o, h.get? c = some o → h'.get? c = some o) : SK P w h' k b := x.to fun a o _ _ e _ => hk a o e
theorem SK.beside {P : Program} {w : World} {h h' : Heap} {k : NestedKey} {b a : Addr} {o : Obj} {es : Array (Int × Value)} {ep : Nat} {t : SetTable} (x : SK P w h k b) (ho : h.get? a = some o) (hd : o.data = .set es ep t) (sb : Heap.SameBut a h h') : SK P w h' k b :=
  x.to fun c u vs n e q => (sb.2 c fun z => by rw [z, ho] at e; injection e with e; rw [← e, hd] at q; cases q).trans e
abbrev Entry : Type := Addr × NestedKey
def enR (w : World) (p : Entry) : Int × Value := (p.2.hash w, .ref p.1)
abbrev enH (w : World) (L : List Entry) : List Int := L.map fun p => p.2.hash w
/-- the set at a holds the keys L -/
structure SetK (P : Program) (w : World) (h : Heap) (a : Addr) (L : List Entry) (es : Array (Int × Value)) (ep : Nat) (t : SetTable) : Prop where
  obj : ∃ o, h.get? a = some o ∧ o.ExactSet ∧ o.data = .set es ep t
  row : es.toList = L.map (enR w)
  tbl : L2.TabOk t (enH w L)
  dif : (L.map (·.2)).Nodup
  key : ∀ p ∈ L, SK P w h p.2 p.1
  pln : t.plain = true
  led : w.params.followText "set-order" = true ∨ t.led = true
  rm : L.length * 5 < t.mask * 3
  sml : L.length < 64
section
variable {P : Program} {w : World} {A : Around} {E : Value → Shared → Prop} {s : Shared} {a : Addr} {L : List Entry} {es : Array (Int × Value)} {ep : Nat} {t : SetTable}
theorem row_len (h : es.toList = L.map (enR w)) : es.size = L.length := by rw [← Array.length_toList, h, List.length_map]
theorem SetK.len (R : SetK P w s.heap a L es ep t) : es.size = L.length := row_len R.row
theorem fits_of (h1 : t.place.size = es.size) (h2 : t.dummies = #[]) (h3 : es.size ≤ t.mask) : t.fits es.size = true := by
  unfold SetTable.fits SetTable.fill
  rw [h2, Bool.and_eq_true, beq_iff_eq, decide_eq_true_iff]
  refine ⟨h1, ?_⟩
  show t.place.size + 0 ≤ t.mask
  omega
theorem SetK.fit (R : SetK P w s.heap a L es ep t) : t.fits es.size = true := by
  have h1 := R.tbl.sz
  rw [List.length_map] at h1
  have h2 := R.len
  have h3 := R.rm
  exact fits_of (by omega) R.tbl.dm (by omega)
theorem SetK.at_ (R : SetK P w s.heap a L es ep t) {i : Nat} {p : Entry} (h : L[i]? = some p) : es[i]? = some (p.2.hash w, .ref p.1) := by
  rw [← Array.getElem?_toList, R.row, List.getElem?_map, h]
  rfl
/-- the way of the search, as probes -/
abbrev pth (m : Nat) (h : Int) (c : Nat) : SetTable.Probe := nth m (runAt m (SetTable.bits h % (m + 1)) (SetTable.bits h)) c
theorem pth_dummy (m : Nat) (h : Int) : ∀ c, (pth m h c).dummy = none
  | 0 => rfl
  | c + 1 => by
    have ih := pth_dummy m h c
    unfold pth at ih ⊢
    rw [nth_succ]
    generalize nth m (runAt m (SetTable.bits h % (m + 1)) (SetTable.bits h)) c = p at ih ⊢
    unfold adv
    split
    · exact ih
    · exact ih
theorem pth_on (m : Nat) (h : Int) (c q : Nat) : nth m (pth m h c) q = pth m h (c + q) := (nth_add m c _ q).symm
theorem pth_j (m : Nat) (h : Int) (c q : Nat) : (nth m (pth m h c) q).j = way m h (c + q) := congrArg SetTable.Probe.j (pth_on m h c q)
theorem find_key (R : SetK P w s.heap a L es ep t) {x : Addr} {k : NestedKey} (hx : SK P w s.heap k x) (hu : A.units + 8 < cLine) {N : Nat} (hN1 : N < 10 * SetTable.turns t.mask) (hN2 : way t.mask (k.hash w) N ∉ t.place.toList) (hN3 : ∀ c, c < N → way t.mask (k.hash w) c ∈ t.place.toList) {Q : SetFound → Shared → Prop}
    (old : k ∈ L.map (·.2) → Q (.there none) s) (new : k ∉ L.map (·.2) → Q (.free (way t.mask (k.hash w) N) false) s) :
    ∀ (d c fuel : Nat) (stand : Option SetTable.Probe), c + d = N → d < fuel → stand.getD (t.probeStart (k.hash w)) = pth t.mask (k.hash w) c →
      (∀ (i : Nat) (p : Entry), L[i]? = some p → p.2 = k → ∃ c', c ≤ c' ∧ c' < N ∧ t.place.toList[i]? = some (way t.mask (k.hash w) c')) →
      wpAny (model P w) A (setSearchFrom a (.ref x) (k.hash w) true fuel stand) Q E s := by
  intro d
  induction d using Nat.strongRecOn with
  | ind d ih =>
    intro c fuel stand hcd hfu hst ahead
    obtain ⟨fuel, rfl⟩ : ∃ n, fuel = n + 1 := ⟨fuel - 1, by omega⟩
    obtain ⟨o, ho, hex, hdat⟩ := R.obj
    have gw : ¬ t.gaveWay = true := by
      unfold SetTable.gaveWay
      rw [mask_odd R.tbl.mok]
      decide
    rw [setSearchFrom_succ]
    refine wpAny_bind (wpAny_setState_of ho hdat R.fit ?_)
    dsimp only
    refine wp_if_neg gw ?_
    try refine wpAny_bind (wpAny_pure ?_)
    obtain ⟨hf, ehf⟩ : ∃ hf : Nat → Int, hf = fun i => (es[i]?.map (·.1)).getD 0 := ⟨_, rfl⟩
    have hfL : ∀ (i : Nat) (p : Entry), L[i]? = some p → hf i = p.2.hash w := fun i p e => by
      rw [ehf]
      show (es[i]?.map (·.1)).getD 0 = _
      rw [R.at_ e]
      rfl
    have out := go_spec t R.tbl.ris R.tbl.dm hf (k.hash w) (10 * SetTable.turns t.mask) d (pth t.mask (k.hash w) c) (pth_dummy _ _ _) (by omega) (fun q hq => by rw [pth_j]; exact hN3 _ (by omega)) (by rw [pth_j, hcd]; exact hN2)
    rw [← ehf]
    show wpAny _ _ (do
      let some met := SetTable.probe.go t hf (k.hash w) (10 * SetTable.turns t.mask) (stand.getD (t.probeStart (k.hash w))) | unsupported _
      _) _ _ _
    rw [hst]
    rcases out with ⟨q, i, hq, hi, _, hno, e⟩ | ⟨hno, e⟩
    · rw [e]
      dsimp only
      rw [pth_j] at hi
      rw [pth_j, pth_on]
      have hil : i < L.length := by
        have h1 := (List.getElem?_eq_some_iff.mp hi).1
        have h2 := R.tbl.sz
        rw [List.length_map] at h2
        rw [Array.length_toList] at h1
        omega
      obtain ⟨p, hp⟩ : ∃ p, L[i]? = some p := ⟨_, List.getElem?_eq_getElem hil⟩
      have hpm := List.mem_of_getElem? hp
      have onward : wpAny (model P w) A (searchRest a (.ref x) (k.hash w) true fuel es t (way t.mask (k.hash w) (c + q)) i (pth t.mask (k.hash w) (c + (q + 1)))) Q E s := by
        unfold searchRest
        rw [R.at_ hp]
        dsimp only
        refine wpAny_bind (wpAny_holding ((nestedKind P w).eqBool (by exact hu) (R.key p hpm).1 hx.1 ?_))
        refine wpAny_bind (wpAny_setState_of ho hdat R.fit ?_)
        dsimp only
        by_cases same : p.2 = k
        · rw [decide_eq_true same]
          refine wp_if_pos rfl (wpAny_pure (old (List.mem_map.mpr ⟨p, hpm, same⟩)))
        · rw [decide_eq_false same]
          refine wp_if_neg (by simp) ?_
          try refine wpAny_bind (wpAny_pure ?_)
          have live : t.slot (way t.mask (k.hash w) (c + q)) = .live i := slot_live R.tbl.ris hi
          rw [sameMem]
          dsimp only
          simp only [if_true, live, R.at_ hp]
          refine wpAny_bind (wpAny_isSame_ref_self (wpAny_bind (wpAny_pure ?_)))
          simp only [if_true]
          refine wp_if_neg (by simp) ?_
          refine ih (d - (q + 1)) (by omega) (c + (q + 1)) fuel _ (by omega) (by omega) rfl fun j r hj er => ?_
          obtain ⟨c', g1, g2, g3⟩ := ahead j r hj er
          refine ⟨c', ?_, g2, g3⟩
          have passed : ¬ c' < c + q := fun z => hno (c' - c) j (by omega) (by rw [pth_j, show c + (c' - c) = c' by omega]; exact g3) (by rw [hfL j r hj, er])
          have here : c' ≠ c + q := fun z => by
            rw [z] at g3
            have l2 := slot_live R.tbl.ris g3
            rw [live] at l2
            injection l2 with l2
            rw [← l2, hp] at hj
            injection hj with hj
            exact same (by rw [hj]; exact er)
          omega
      by_cases hl : t.led = true
      · refine wp_if_neg (by simp [hl]) ?_
        try refine wpAny_bind (wpAny_pure ?_)
        exact onward
      · refine wp_if_pos (by simp [hl]) ?_
        refine wpAny_bind ?_
        unfold searchCouldBeSeen
        refine wpAny_bind ?_
        refine wpAny_forIn_list _ (fun rest r s1 => r.1 = none ∧ s1 = s ∧ ∀ y ∈ rest, ∃ k' c', y = Value.ref c' ∧ SK P w s.heap k' c') _ ?_ ?_ _ _ ⟨rfl, rfl, fun y hy => ?_⟩
        · rintro v rest r s1 ⟨hr, rfl, al⟩
          obtain ⟨k', c', rfl, hc'⟩ := al v List.mem_cons_self
          have al' := fun y hy => al y (List.mem_cons_of_mem _ hy)
          dsimp only
          by_cases hv : (x == c' || (carriedByValue (.ref x) && carriedByValue (.ref c'))) = true
          · exact wp_if_pos hv (wpAny_pure ⟨rfl, rfl, al'⟩)
          · refine wp_if_neg hv ?_
            refine wpAny_bind ((nestedKind P w).quiet hx.1 ?_)
            simp only [Bool.not_true, Bool.false_eq_true, if_false]
            refine wpAny_bind ((nestedKind P w).quiet hc'.1 ?_)
            simp only [Bool.not_true, Bool.false_eq_true, if_false]
            refine wpAny_bind (cls_key _ _ 8 _ hx.1.1 hx.1.2 _ ?_)
            simp only [Bool.false_eq_true, if_false]
            refine wpAny_bind (cls_key _ _ 8 _ hc'.1.1 hc'.1.2 _ ?_)
            simp only [Bool.false_eq_true, if_false]
            exact wpAny_pure ⟨rfl, rfl, al'⟩
        · rintro ⟨r1, r2⟩ s1 ⟨hr, rfl, _⟩
          simp only at hr
          subst hr
          refine wpAny_pure ?_
          refine wp_if_neg (by decide) ?_
          try refine wpAny_bind (wpAny_pure ?_)
          exact onward
        · obtain ⟨e1, he1, rfl⟩ := List.mem_map.mp hy
          have hm : e1 ∈ es.toList := by
            have : e1 ∈ es ∧ e1.1 = k.hash w := by simpa using he1
            simpa using this.1
          rw [R.row] at hm
          obtain ⟨p2, hp2, rfl⟩ := List.mem_map.mp hm
          exact ⟨p2.2, p2.1, rfl, R.key p2 hp2⟩
    · rw [e]
      dsimp only
      rw [pth_j, hcd]
      refine wpAny_pure (new fun hm => ?_)
      obtain ⟨r, hr, er⟩ := List.mem_map.mp hm
      obtain ⟨j, hj, e2⟩ := List.getElem_of_mem hr
      have hj : L[j]? = some r := by rw [List.getElem?_eq_getElem hj, e2]
      obtain ⟨c', g1, g2, g3⟩ := ahead j r hj er
      exact hno (c' - c) j (by omega) (by rw [pth_j, show c + (c' - c) = c' by omega]; exact g3) (by rw [hfL j r hj, er])
theorem range_all {α : Type} (L : List α) : ∀ n, n ≤ L.length → (List.range n).filterMap (fun i => L[i]?) = L.take n
  | 0, _ => rfl
  | n + 1, h => by
    have hlt : n < L.length := h
    rw [List.range_succ, List.filterMap_append, range_all L n (Nat.le_of_lt hlt), List.take_add_one, List.getElem?_eq_getElem hlt]
    congr 1
    rw [List.filterMap_cons, List.getElem?_eq_getElem hlt]
    rfl
theorem laid_rows {order : Array Nat} (hr : es.toList = L.map (enR w)) (hp : order.toList.Perm (List.range L.length)) :
    ∃ L2 : List Entry, (order.filterMap (es[·]?)).toList = L2.map (enR w) ∧ L2.Perm L ∧ enH w L2 = order.toList.map fun i => (es.map (·.1)).getD i 0 := by
  have look : ∀ i : Nat, es[i]? = (L[i]?).map (enR w) := fun i => by rw [← Array.getElem?_toList, hr, List.getElem?_map]
  refine ⟨order.toList.filterMap fun i => L[i]?, ?_, ?_, ?_⟩
  · rw [List.map_filterMap, Array.toList_filterMap]
    congr 1
    funext i
    exact look i
  · have h := hp.filterMap fun i => L[i]?
    rwa [range_all L _ (Nat.le_refl _), List.take_length] at h
  · have go : ∀ l : List Nat, (∀ i ∈ l, i < L.length) → enH w (l.filterMap fun i => L[i]?) = l.map fun i => (es.map (·.1)).getD i 0 := fun l => by
      induction l with
      | nil => intro _; rfl
      | cons i l ih =>
        intro hl
        have hi := hl i List.mem_cons_self
        have e1 : (es.map (·.1))[i]? = some (L[i].2.hash w) := by
          rw [Array.getElem?_map, look, List.getElem?_eq_getElem hi]
          rfl
        rw [List.filterMap_cons, List.getElem?_eq_getElem hi, List.map_cons]
        show L[i].2.hash w :: enH w (l.filterMap fun i => L[i]?) = _
        rw [ih fun j hj => hl j (List.mem_cons_of_mem _ hj)]
        congr 1
        rw [Array.getD_eq_getD_getElem?, e1]
        rfl
    exact go order.toList fun i hi => List.mem_range.mp (hp.mem_iff.mp hi)
/-- laid anew in a table of M + 1 places -/
theorem wider {o : Obj} (ho : s.heap.get? a = some o) (hex : o.ExactSet) (hd : o.data = .set es ep t) (hrow : es.toList = L.map (enR w)) (h1 : t.place.size = es.size) (h2 : t.dummies = #[]) (h3 : es.size ≤ t.mask) (nd : (L.map (·.2)).Nodup) (ks : ∀ p ∈ L, SK P w s.heap p.2 p.1) (hpl : t.plain = true)
    (hled : w.params.followText "set-order" = true ∨ t.led = true) (hsm : L.length < 64) {n M : Nat} (hM : MaskOk M) (hn : SetTable.sizeAbove n - 1 = M) (hn2 : SetTable.sizeAbove n ≤ 128) (hrm : L.length * 5 < M * 3) {Q : Unit → Shared → Prop}
    (q : ∀ h' L' es' ep' t', Heap.SameBut a s.heap h' → SetK P w h' a L' es' ep' t' → L'.Perm L → Q () { s with heap := h' }) : wpAny (model P w) A (setRelay a n) Q E s := by
  have hl := row_len hrow
  obtain ⟨t', order, e, pm, tb, em, el, epl, _⟩ := relaid_ok t (hs := es.map (·.1)) hn hM (by rw [Array.size_map, hl]; omega)
  rw [Array.size_map, hl] at pm
  obtain ⟨L2, r1, r2, r3⟩ := laid_rows (w := w) hrow pm
  rw [← r3] at tb
  have hz : (order.filterMap (es[·]?)).size = es.size := by rw [row_len r1, r2.length_eq, hl]
  rw [setRelay_eq]
  refine wpAny_bind (wpAny_setState_of ho hd (fits_of h1 h2 h3) ?_)
  dsimp only
  refine wp_if_neg (by rw [sizeLine_eq]; omega) ?_
  try refine wpAny_bind (wpAny_pure ?_)
  rw [e]
  dsimp only
  refine wpAny_bind ?_
  refine wp_if_neg (by rw [hz]; simp) ?_
  try refine wpAny_bind (wpAny_pure ?_)
  refine wpAny_pure ?_
  dsimp only
  refine wpAny_storeSet_of ho hd ?_ (by rw [hz, hl, sizeLine_eq]; omega)
  have sb : Heap.SameBut a s.heap (s.heap.update a (Obj.putSet (order.filterMap (es[·]?)) t')) := Heap.SameBut.update ..
  exact q _ L2 _ (ep + 1) t' sb ⟨⟨_, store_at ho hd, ⟨hex.1, hex.2.1, hex.2.2⟩, rfl⟩, r1, tb, (r2.map (·.2)).nodup_iff.mpr nd, fun p hp => (ks p (r2.mem_iff.mp hp)).beside ho hd sb, by rw [epl]; exact hpl, by rw [el]; exact hled, by rw [r2.length_eq, em]; exact hrm, by rw [r2.length_eq]; exact hsm⟩ r2
/-- a key is added -/
theorem add_key (R : SetK P w s.heap a L es ep t) {x : Addr} {k : NestedKey} (hx : SK P w s.heap k x) (hu : A.units + 8 < cLine) (few : L.length + 1 < 64) {Q : Bool → Shared → Prop}
    (q : ∀ r h' L' es' ep' t', Heap.SameBut a s.heap h' → SetK P w h' a L' es' ep' t' → (k ∈ L.map (·.2) → L' = L) → (k ∉ L.map (·.2) → L'.Perm ((x, k) :: L)) → Q r { s with heap := h' }) : wpAny (model P w) A (setAddHashed a (.ref x) (k.hash w)) Q E s := by
  obtain ⟨o, ho, hex, hd⟩ := R.obj
  have hl := R.len
  have hrm := R.rm
  obtain ⟨N, n1, n2, n3⟩ := R.tbl.first (by rw [List.length_map]; omega) (k.hash w)
  have nBig : N < 100000 := by
    have : 10 * SetTable.turns t.mask ≤ 1420 := by
      unfold SetTable.turns
      rcases R.tbl.mok with z | z | z <;> omega
    omega
  unfold setAddHashed
  refine wpAny_holding ?_
  rw [show (100000 : Nat) = 99999 + 1 from rfl, setAddHashedIn_succ]
  refine wpAny_bind (wpAny_setState_of ho hd R.fit ?_)
  dsimp only
  refine wp_if_neg (by simp [byScan, Value.scannable]) ?_
  try refine wpAny_bind (wpAny_pure ?_)
  refine wpAny_bind ?_
  unfold setSearch
  refine find_key R hx hu n1 n2 n3 (fun hm => ?_) (fun hm => ?_) N 0 100000 none (by omega) (by omega) rfl fun i p hp hk => ?_
  · dsimp only
    exact wpAny_pure (q false s.heap L es ep t (Heap.SameBut.refl a s.heap) R (fun _ => rfl) fun z => absurd hm z)
  · dsimp only
    refine wpAny_bind (wpAny_setState_of ho hd R.fit ?_)
    dsimp only
    obtain ⟨p1, p2, p3, p4, p5, p6, p7, p8, p9⟩ := R.tbl.put n2 n3
    have hpl : (t.put (way t.mask (k.hash w) N)).1.plain = true := by rw [p6]; exact R.pln
    generalize t.put (way t.mask (k.hash w) N) = tp at p1 p3 p4 p5 p6 p7 p8 p9 hpl ⊢
    obtain ⟨t2, i2⟩ := tp
    dsimp only at p1 p3 p4 p5 p6 p7 p8 p9 hpl ⊢
    subst p1
    first
      | (refine wpAny_bind ?_; refine wp_if_pos hpl ?_; refine byv_key _ _ 8 _ hx.1.1 hx.2 hx.1.2 _ ?_)
      | refine wp_if_pos hpl (wpAny_bind (byv_key _ _ 8 _ hx.1.1 hx.2 hx.1.2 _ ?_))
    simp only [if_true]
    generalize hj : SetTable.below t.place (way t.mask (k.hash w) N) = j at p2 p3 ⊢
    obtain ⟨L1, eL1⟩ : ∃ L1 : List Entry, L1 = L.take j ++ (x, k) :: L.drop j := ⟨_, rfl⟩
    have pm : L1.Perm ((x, k) :: L) := by
      have := List.perm_middle (a := (x, k)) (l₁ := L.take j) (l₂ := L.drop j)
      rw [List.take_append_drop] at this
      rw [eL1]
      exact this
    have l1 : L1.length = L.length + 1 := pm.length_eq
    have row1 : (SetTable.insertAt es j (k.hash w, Value.ref x)).toList = L1.map (enR w) := by
      rw [SetTable.toList_insertAt, R.row, eL1, List.map_append, List.map_cons, List.map_take, List.map_drop]
      rfl
    have h1 : enH w L1 = (enH w L).take j ++ k.hash w :: (enH w L).drop j := by
      rw [eL1, enH, List.map_append, List.map_cons, List.map_take, List.map_drop]
    rw [← h1] at p3
    have nd1 : (L1.map (·.2)).Nodup := by
      rw [(pm.map (·.2)).nodup_iff, List.map_cons]
      exact List.nodup_cons.mpr ⟨hm, R.dif⟩
    have z1 := row_len row1
    generalize SetTable.insertAt es j (k.hash w, Value.ref x) = es1 at row1 z1 ⊢
    refine wpAny_bind (wpAny_storeSet_of ho hd ?_ (by rw [z1, sizeLine_eq]; omega))
    have sb : Heap.SameBut a s.heap (s.heap.update a (Obj.putSet es1 t2)) := Heap.SameBut.update ..
    have ho1 := store_at (es' := es1) (t' := t2) ho hd
    generalize s.heap.update a (Obj.putSet es1 t2) = g at sb ho1 ⊢
    have key1 : ∀ p ∈ L1, SK P w g p.2 p.1 := fun p hp => by
      rcases List.mem_cons.mp (pm.mem_iff.mp hp) with e | hp
      · rw [e]; exact hx.beside ho hd sb
      · exact (R.key p hp).beside ho hd sb
    have led1 : w.params.followText "set-order" = true ∨ t2.led = true := by rw [p5]; exact R.led
    have pz : t2.place.size = es1.size := by
      have := p3.sz
      rw [List.length_map] at this
      omega
    by_cases full : t2.tooFull = true
    · have full5 : (L.length + 1) * 5 ≥ t.mask * 3 := by
        have z := full
        unfold SetTable.tooFull at z
        rw [decide_eq_true_iff, p9, List.length_map, p4] at z
        exact z
      have ways : (t.mask = 7 ∧ L.length = 4) ∨ (t.mask = 31 ∧ L.length = 18) := by
        rcases R.tbl.mok with z | z | z
        · left; rw [z] at full5 hrm; exact ⟨z, by omega⟩
        · right; rw [z] at full5 hrm; exact ⟨z, by omega⟩
        · exfalso; rw [z] at full5; omega
      have grow : ∀ M, MaskOk M → SetTable.sizeAbove (SetTable.grown (L.length + 1)) - 1 = M → SetTable.sizeAbove (SetTable.grown (L.length + 1)) ≤ 128 → (L.length + 1) * 5 < M * 3 → wpAny (model P w) A (setRelay a (SetTable.grown (L.length + 1))) (fun _ s1 => wpAny (model P w) A (pure true) Q E s1) E { s with heap := g } := fun M m1 m2 m3 m4 =>
        wider (s := { s with heap := g }) ho1 ⟨hex.1, hex.2.1, hex.2.2⟩ rfl row1 pz p3.dm (by rw [z1, l1, p4]; rcases ways with ⟨z, z2⟩ | ⟨z, z2⟩ <;> omega) nd1 key1 hpl led1 (by rw [l1]; exact few) m1 m2 m3 (by rw [l1]; exact m4) fun h2 L2 es2 ep2 t3 sb2 R2 pm2 => wpAny_pure (q true h2 L2 es2 ep2 t3 (sb.trans sb2) R2 (fun z => absurd z hm) fun _ => pm2.trans pm)
      rw [hl]
      first
        | (refine wpAny_bind ?_; refine wp_if_pos (by simp [full]) ?_)
        | (refine wp_if_pos (by simp [full]) ?_; refine wpAny_bind ?_)
      rcases ways with ⟨_, z⟩ | ⟨_, z⟩
      · exact grow 31 (.inr (.inl rfl)) (by rw [z, size_20]) (by rw [z, size_20]; decide) (by omega)
      · exact grow 127 (.inr (.inr rfl)) (by rw [z, size_76]) (by rw [z, size_76]; decide) (by omega)
    · have room : (L.length + 1) * 5 < t2.mask * 3 := by
        have z := full
        unfold SetTable.tooFull at z
        rw [decide_eq_true_iff, p9, List.length_map] at z
        omega
      first
        | refine wp_if_neg (by simp [full]) ?_
        | (refine wpAny_bind ?_; refine wp_if_neg (by simp [full]) ?_; refine wpAny_pure ?_)
      exact wpAny_pure (q true g L1 es1 (ep + 1) t2 sb ⟨⟨_, ho1, ⟨hex.1, hex.2.1, hex.2.2⟩, rfl⟩, row1, p3, nd1, key1, hpl, led1, by rw [l1]; exact room, by rw [l1]; exact few⟩ (fun z => absurd z hm) fun _ => pm)
  · have hi : (enH w L)[i]? = some (k.hash w) := by rw [List.getElem?_map, hp, ← hk]; rfl
    have hil : i < t.place.toList.length := by
      have g1 := (List.getElem?_eq_some_iff.mp hp).1
      have g2 := R.tbl.sz
      rw [List.length_map] at g2
      rw [Array.length_toList]
      omega
    have g3 := List.getElem?_eq_getElem hil
    obtain ⟨c, g4, g5⟩ := R.tbl.before n2 hi g3
    exact ⟨c, Nat.zero_le _, g4, by rw [g3, g5]⟩
end
end DD

namespace DD
open PySem PySem.Spec L2 PyProof.Rows
/-! ## set(l), l a list of tuples of tuples, few unlike ones -/
def FewE (ks : List Entry) : Prop := ∀ L : List Entry, (L.map (·.2)).Nodup → (∀ p ∈ L, p ∈ ks) → L.length + 1 < 64
structure GotE (ks : List Entry) (i : Nat) (L : List Entry) : Prop where
  sub : ∀ p ∈ L, p ∈ ks
  all : ∀ p ∈ ks.take i, p.2 ∈ L.map (·.2)
theorem SetK.keep {P : Program} {w : World} {h h' : Heap} {a : Addr} {L : List Entry} {es : Array (Int × Value)} {ep : Nat} {t : SetTable} (R : SetK P w h a L es ep t) (ha : ∀ o, h.get? a = some o → h'.get? a = some o) (hk : ∀ p ∈ L, SK P w h' p.2 p.1) : SetK P w h' a L es ep t :=
  let ⟨o, ho, r⟩ := R.obj
  ⟨⟨o, ha o ho, r⟩, R.row, R.tbl, R.dif, hk, R.pln, R.led, R.rm, R.sml⟩
theorem setK_fresh {P : Program} {w : World} {h : Heap} {a : Addr} (ho : h.get? a = some { cls := .type "set", dict := none, data := .set #[] 0 (.fresh 0 0 (!w.params.followText "set-order")) }) : SetK P w h a [] #[] 0 (.fresh 0 0 (!w.params.followText "set-order")) := by
  refine ⟨⟨_, ho, ⟨rfl, rfl, rfl⟩, rfl⟩, rfl, ⟨.nil, rfl, rfl, .inl rfl, (fun x hx => nomatch hx), fun i h j hi => by simp at hi⟩, .nil, (fun p hp => nomatch hp), rfl, ?_, by show 0 * 5 < 7 * 3; decide, by show 0 < 64; decide⟩
  show _ ∨ (!w.params.followText "set-order") = true
  cases w.params.followText "set-order"
  · exact .inr rfl
  · exact .inl rfl
section
variable {P : Program} {w : World} {A : Around} {E : Value → Shared → Prop} {s : Shared}
theorem loop_K {I : Addr} {fp wr : List Addr} {G : Array GenState → Array GenState → Prop} {n : Nat} {Pv : Nat → Value → Prop} {St : Nat → Shared → Prop} {R : Result → Shared → Prop}
    (W : WalksS P w A.in1 I fp wr G n Pv St) (S : Addr) (hSf : S ∉ fp) (ks : List Entry) (hn : n = ks.length) (few : FewE ks) (hval : ∀ i v, Pv i v → ∃ p, ks[i]? = some p ∧ v = .ref p.1)
    (h0 : Heap) (hk : ∀ p ∈ ks, SK P w h0 p.2 p.1) (hS0 : h0.get? S = none) (hw0 : ∀ b ∈ wr, h0.get? b = none) (hu : A.in1.units + 8 < cLine) :
    ∀ (m i : Nat) (s : Shared), n = i + m → St i s → (∀ b o, h0.get? b = some o → s.heap.get? b = some o) → (∃ L es ep t, SetK P w s.heap S L es ep t ∧ GotE ks i L) →
      (∀ s' L es ep t, Moved (S :: wr) G s s' → SetK P w s'.heap S L es ep t → GotE ks n L → (∀ b o, h0.get? b = some o → s'.heap.get? b = some o) → R (.ok (.ret .none)) s') →
      codeAny (model P w) A (.builtin "set.update.loop" ⟨[.ref S, .ref I], []⟩) R s
  | m, i, s, e, hst, old, ⟨L, es, ep, t, hS, g⟩, hR => by
    have nSw : S ∉ wr := fun h => hSf (W.sub _ h)
    have up : ∀ b ∈ wr, b ∈ S :: wr := fun b hb => List.mem_cons_of_mem _ hb
    have stays : ∀ {s' : Shared}, Moved wr G s s' → ∀ b o, h0.get? b = some o → s'.heap.get? b = some o := fun hm b o q => hm.heap b o (fun hb => by rw [hw0 b hb] at q; cases q) (old b o q)
    refine codeAny_builtin F.entry_set_update_loop ?_
    rw [Around.under_plainId F.plain_set_update_loop _]
    show wpAny _ A.in1 (pyNext (.ref I) >>= _) _ _ s
    match m with
    | 0 =>
      have hi : i = n := by omega
      subst hi
      refine wpAny_bind (W.done s _ _ hst fun s' hm => ?_)
      show wpAny _ A.in1 (ret Value.none) _ _ s'
      have old' := stays hm
      exact wpAny_pure (hR s' L es ep t (hm.mono up) (hS.keep (fun o q => hm.heap S o nSw q) fun p hp => (hk p (g.sub p hp)).keep old') g old')
    | m + 1 =>
      refine wpAny_bind (W.item i s _ _ (by omega) hst fun v s' hP hst' hm => ?_)
      obtain ⟨p, hp, rfl⟩ := hval i v hP
      have old' := stays hm
      have hS' : SetK P w s'.heap S L es ep t := hS.keep (fun o q => hm.heap S o nSw q) fun q hq => (hk q (g.sub q hq)).keep old'
      have pin : p ∈ ks := List.mem_of_getElem? hp
      have hx : SK P w s'.heap p.2 p.1 := (hk p pin).keep old'
      show wpAny _ A.in1 (holding [Value.ref p.1] (setAdd S (.ref p.1)) >>= _) _ _ s'
      refine wpAny_bind (wpAny_holding ?_)
      unfold setAdd
      refine wpAny_holding (wpAny_bind ((nestedKind P w).pyHash (by exact hu) hx.1 ?_))
      refine add_key (s := { s' with toks := s'.toks + (nestedKind P w).draws p.2 }) hS' hx hu (few L hS'.dif g.sub) fun b h' L' es' ep' t' same hS2 there new => ?_
      have et : ks.take (i + 1) = ks.take i ++ [p] := by rw [List.take_succ, hp]; rfl
      have g' : GotE ks (i + 1) L' := by
        by_cases c : p.2 ∈ L.map (·.2)
        · rw [there c]
          refine ⟨g.sub, fun q hq => ?_⟩
          rw [et] at hq
          rcases List.mem_append.mp hq with z | z
          · exact g.all q z
          · rw [List.mem_singleton.mp z]; exact c
        · have pm := new c
          refine ⟨fun q hq => ?_, fun q hq => ?_⟩
          · rcases List.mem_cons.mp (pm.mem_iff.mp hq) with z | z
            · rw [z]; exact pin
            · exact g.sub q z
          · rw [(pm.map (·.2)).mem_iff, List.map_cons]
            rw [et] at hq
            rcases List.mem_append.mp hq with z | z
            · exact List.mem_cons_of_mem _ (g.all q z)
            · rw [List.mem_singleton.mp z]; exact List.mem_cons_self
      have old2 : ∀ b o, h0.get? b = some o → h'.get? b = some o := fun b o q => (same.2 b (fun z => by rw [z, hS0] at q; cases q)).trans (old' b o q)
      refine wpAny_pure ⟨plainId_quiet F.plain_set_update_loop _, loop_K W S hSf ks hn few hval h0 hk hS0 hw0 hu m (i + 1) _ (by omega) (W.frame _ s' _ _ hst' (Nat.le_add_right _ _) fun b hb o q => ?_) old2 ⟨L', es', ep', t', hS2, g'⟩ fun s2 L2 es2 ep2 t2 hm2 hS3 g3 old3 => ?_⟩
      · rw [same.2 b fun z : b = S => hSf (by rw [← z]; exact hb)]; exact q
      · refine hR s2 L2 es2 ep2 t2 (Moved.trans W.gtrans ((hm.mono up).then_heap (Nat.le_add_right _ _) fun b o hb q => ?_) hm2) hS3 g3 old3
        rw [same.2 b fun z : b = S => hb (by rw [z]; exact List.mem_cons_self)]; exact q
abbrev nsetK (w : World) : Obj := { cls := .type "set", dict := none, data := .set #[] 0 (.fresh 0 0 (!w.params.followText "set-order")) }
/-- what set(l) leaves -/
def GotS (P : Program) (w : World) (ks : List Entry) (s : Shared) (s' : Shared) : Prop :=
  ∃ h' tk L es ep t, s' = { s with heap := h', toks := tk } ∧ SetK P w h' s.heap.objs.size L es ep t ∧ GotE ks ks.length L ∧ ∀ b o, s.heap.get? b = some o → h'.get? b = some o
theorem init_K {l : Addr} {items : Array Value} (ks : List Entry) (hh : A.handled = none) (hl : s.heap.IsList l items) (hit : items.toList = ks.map fun p => Value.ref p.1)
    (hk : ∀ p ∈ ks, SK P w s.heap p.2 p.1) (few : FewE ks) (hu : A.units + 12 < cLine) :
    wpAny (model P w) A.in1 (Builtin.«set.__init__» ⟨[.ref s.heap.objs.size, .ref l], []⟩) (fun f s' => ∃ r, f = .done (.ret r) ∧ r = .none ∧ GotS P w ks s s') E { s with heap := s.heap.push (nsetK w) } := by
  have hlen : items.size = ks.length := by
    have q := congrArg List.length hit
    rw [Array.length_toList, List.length_map] at q
    exact q
  have hS : (s.heap.push (nsetK w)).get? s.heap.objs.size = some (nsetK w) := Heap.get?_push_size _ rfl
  have hT : Shared.TypeIs { s with heap := s.heap.push (nsetK w) } (.ref s.heap.objs.size) "set" := ⟨_, hS, rfl⟩
  have gone : ∀ b, s.heap.objs.size ≤ b → s.heap.get? b = none := fun b hb => by
    cases q : s.heap.get? b with
    | none => rfl
    | some o => exact absurd (Nat.lt_of_lt_of_le (Heap.lt_size q) hb) (Nat.lt_irrefl _)
  obtain ⟨⟨ocls, odict, odata, oslots⟩, hol, hcl, nl, hdl⟩ := id hl
  simp only at hcl hdl
  subst hcl; subst hdl
  have hlt : l < s.heap.objs.size := Heap.lt_size hol
  have hol' : (s.heap.push (nsetK w)).get? l = some { cls := .type "list", dict := odict, data := .seq items nl, slots := oslots } := Heap.get?_push_of_some _ hol
  have hl1 : (s.heap.push (nsetK w)).IsList l items := ⟨_, hol', rfl, nl, rfl⟩
  have f1 := F.sub_list_set
  have f2 := F.sub_list_frozenset
  have f3 : (Value.type "list" == Value.type "dict") = false := by decide
  unfold Builtin.«set.__init__» noKeywords Builtin.Frozenset.updateFrom
  generalize hPI : pyIter = PI
  wp_walk
  subst hPI
  refine wpAny_pyIter_list hl1 ?_
  refine wpAny_bind (wpAny_runValue ?_)
  have hz : (s.heap.push (nsetK w)).objs.size = s.heap.objs.size + 1 := Heap.size_push ..
  have nI : l ≠ (s.heap.push (nsetK w)).objs.size := by rw [hz]; exact Nat.ne_of_lt (Nat.lt_succ_of_lt hlt)
  have hh3 : A.in1.in1.handled = none := by simp [hh]
  refine loop_K ((Walks.list (w := w) (prog := P) hh3 _ l nI items).toS) s.heap.objs.size ?_ ks hlen few (fun i v hv => ?_) s.heap hk (gone _ (Nat.le_refl _)) (fun b hb => gone b ?_) ?_ items.size 0 _ (by omega) ⟨⟨_, Heap.get?_push_size _ rfl, rfl, rfl⟩, hl1.push _⟩ (fun b o q => Heap.get?_push_of_some _ (Heap.get?_push_of_some _ q)) ?_ ?_
  · rw [hz]
    simp only [List.mem_cons, List.not_mem_nil, or_false, not_or]
    exact ⟨Nat.ne_of_lt (Nat.lt_succ_self _), Nat.ne_of_gt hlt⟩
  · have q : items.toList[i]? = some v := by rw [Array.getElem?_toList]; exact hv
    rw [hit, List.getElem?_map] at q
    cases e : ks[i]? with
    | none => rw [e] at q; cases q
    | some p => rw [e] at q; exact ⟨p, rfl, (Option.some.inj q).symm⟩
  · rw [List.mem_singleton.mp hb, hz]
    exact Nat.le_succ _
  · show A.units + 2 + 8 < cLine
    omega
  · exact ⟨[], #[], 0, _, setK_fresh (Heap.get?_push_of_some _ hS), ⟨(fun p h => nomatch h), (fun p h => by rw [List.take_zero] at h; cases h)⟩⟩
  · intro s' L es ep t hm hS' g' old
    obtain ⟨h', g2, d', tk', os'⟩ := s'
    have eg : g2 = s.gens := hm.gens
    have ed : d' = s.drawn := hm.drawn
    have eo : os' = s.os := hm.os
    subst eg; subst ed; subst eo
    refine wpAny_pure ?_
    rw [hlen] at g'
    exact wpAny_pure ⟨_, rfl, rfl, h', tk', L, es, ep, t, rfl, hS', g', old⟩
theorem call_K {l : Addr} {items : Array Value} (ks : List Entry) {Q : Value → Shared → Prop} (hh : A.handled = none) (hl : s.heap.IsList l items) (hit : items.toList = ks.map fun p => Value.ref p.1)
    (hk : ∀ p ∈ ks, SK P w s.heap p.2 p.1) (few : FewE ks) (hu : A.units + 20 < cLine) (h : ∀ s', GotS P w ks s s' → Q (.ref s.heap.objs.size) s') : wpAny (model P w) A (call (.type "set") [.ref l]) Q E s := by
  obtain ⟨c, tl, hmro⟩ := F.called_set.mro
  have g1 := F.called_set.made
  have g2 := F.called_set.sub
  have g3 := F.called_set.notType
  have g4 := F.called_set.canCreate
  have g5 := F.typeCall_set_1 (.ref l)
  refine wpAny_call (codeAny_of_tree ?_)
  show wpAny _ _ (callAny (.type "set") _) _ _ _
  refine wpAny_pure ⟨Code.quiet_builtin _ (by decide +kernel), codeAny_builtin F.entry_type_call ?_⟩
  rw [Around.under_plain (weight_type_call_type "set" [.ref l] []) rfl]
  repeat (any_goals (first | assumption | wp_step))
  refine codeAny_mono (code_set_led1 (.ref l) (E := E) (Q₁ := fun obj s₁ => obj = .ref s.heap.objs.size ∧ s₁ = { s with heap := s.heap.push (nsetK w) }) ⟨rfl, rfl⟩) fun r s₁ hr => ?_
  cases r with
  | error e => exact hr
  | ok fl =>
    cases fl with
    | ret obj =>
      obtain ⟨rfl, rfl⟩ := hr
      have hT : Shared.TypeIs { s with heap := s.heap.push (nsetK w) } (.ref s.heap.objs.size) "set" := ⟨_, Heap.get?_push_size _ rfl, rfl⟩
      have g6 := F.called_set.init.lookup
      have g7 := F.called_set.init.bind (.ref s.heap.objs.size)
      repeat (any_goals (first | assumption | wp_step))
      refine codeAny_mono (codeAny_call_builtin (R := wants (fun r s₂ => r = .none ∧ GotS P w ks s s₂) E) F.called_set.init.plain F.entry_set_init (check_set_init_1 hT ?_)) fun r₂ s₂ hr₂ => ?_
      · refine wpAny_mono (init_K (A := A.in1) (E := E) ks (by simp [hh]) hl hit hk few (by show A.units + 1 + 12 < cLine; omega)) (fun f s' h => ?_) fun _ _ x => x
        obtain ⟨r, rfl, e2, e3⟩ := h
        exact ⟨e2, e3⟩
      · cases r₂ with
        | error e => exact hr₂
        | ok fl₂ =>
          cases fl₂ with
          | ret r =>
            obtain ⟨rfl, got⟩ := hr₂
            repeat (any_goals (first | assumption | wp_step))
            exact h _ got
          | _ => exact hr₂.elim
    | _ => exact hr.elim
end
end DD

namespace DD
open PySem PySem.Spec L2 PyProof.Rows
/-! ## sorted(set(l)) -/
def KsF (P : Program) (w : World) (a : Addr) (L : List Entry) (h : Heap) : Prop := ∃ (es : Array (Int × Value)) (ep : Nat) (t : SetTable), (∃ o, h.get? a = some o ∧ o.ExactSet ∧ o.data = .set es ep t) ∧ es.toList = L.map (enR w) ∧ L2.TabOk t (enH w L) ∧ (L.map (·.2)).Nodup ∧ t.plain = true ∧
    (w.params.followText "set-order" = true ∨ t.led = true) ∧ L.length * 5 < t.mask * 3 ∧ L.length < 64
def KsO (P : Program) (w : World) (a : Addr) (L : List Entry) : HO := .ext (KsF P w a L)
theorem ksO_new {P : Program} {w : World} {H : Hp} {h : Heap} {a : Addr} {L : List Entry} (R : KsF P w a L h) : ObjOk P w H h a (KsO P w a L) := by
  have ⟨es, ep, t, ⟨o, ho, r⟩, q⟩ := R
  refine ⟨R, ⟨o, ho⟩, fun h1 h2 p k => ?_⟩
  have ⟨es', ep', t', ⟨o', ho', r'⟩, q'⟩ := p
  exact ⟨es', ep', t', ⟨o', k o' ho', r'⟩, q'⟩
theorem perm_map_back {α β : Type} {f : α → β} : ∀ {vs : List β} {L : List α}, vs.Perm (L.map f) → ∃ L1 : List α, vs = L1.map f ∧ L1.Perm L
  | [], L, h => by
    have := h.length_eq
    rw [List.length_map] at this
    match L, this with
    | [], _ => exact ⟨[], rfl, .nil⟩
  | v :: vs, L, h => by
    obtain ⟨p, hp, e⟩ := List.mem_map.mp (h.mem_iff.mp List.mem_cons_self)
    obtain ⟨A, B, rfl⟩ := List.append_of_mem hp
    rw [List.map_append, List.map_cons, ← e] at h
    have h2 : vs.Perm (A.map f ++ B.map f) := List.Perm.cons_inv (h.trans List.perm_middle)
    rw [← List.map_append] at h2
    obtain ⟨L1, e1, p1⟩ := perm_map_back h2
    exact ⟨p :: L1, by rw [List.map_cons, e, e1], (p1.cons p).trans List.perm_middle.symm⟩
abbrev KsD := List (Addr × PyData)
def entK (p : Addr × PyData) : Entry := (p.1, keyP p.2)
/-- fewer than 63 unlike data -/
def FewK (ks : List PyData) : Prop := ∀ L : List PyData, L.Nodup → (∀ d ∈ L, d ∈ ks) → L.length < 63
theorem back_list {ks : KsD} : ∀ {L : List Entry}, (∀ p ∈ L, p ∈ ks.map entK) → ∃ L0 : KsD, L = L0.map entK ∧ ∀ p ∈ L0, p ∈ ks
  | [], _ => ⟨[], rfl, fun p h => nomatch h⟩
  | e :: L, h => by
    obtain ⟨p, hp, ep⟩ := List.mem_map.mp (h e List.mem_cons_self)
    obtain ⟨L0, e1, h1⟩ := back_list (L := L) fun q hq => h q (List.mem_cons_of_mem _ hq)
    refine ⟨p :: L0, by rw [List.map_cons, ep, e1], fun q hq => ?_⟩
    rcases List.mem_cons.mp hq with rfl | hq
    · exact hp
    · exact h1 q hq
theorem back_nd {L0 : KsD} (h : ((L0.map entK).map (·.2)).Nodup) : (L0.map (·.2)).Nodup := by
  rw [List.map_map] at h
  have e : (L0.map ((·.2) ∘ entK)) = (L0.map (·.2)).map keyP := by rw [List.map_map]; rfl
  rw [e] at h
  exact nodup_of_map h
theorem FewK.few {ks : KsD} (h : FewK (ks.map (·.2))) : FewE (ks.map entK) := fun L hn hs => by
  obtain ⟨L0, rfl, h1⟩ := back_list hs
  have := h (L0.map (·.2)) (back_nd hn) fun d hd => by
    obtain ⟨p, hp, rfl⟩ := List.mem_map.mp hd
    exact List.mem_map.mpr ⟨p, h1 p hp, rfl⟩
  rw [List.length_map] at this ⊢
  omega
def rSetKs (K : PySem.W.Frag) (P : Program) (w : World) : List V → Hp → VK → Prop := fun xs H Q => ∃ (l : Addr) (ks : KsD), xs = [V.ref l] ∧ SqL K H l (ks.map fun p => V.ref p.1) ∧ (∀ p ∈ ks, At H (.ref p.1) p.2 ∧ KeyD p.2) ∧ FewK (ks.map (·.2)) ∧
  ∀ (a : Addr) (L : KsD), H a = none → (∀ p ∈ L, p ∈ ks) → (L.map (·.2)).Nodup → (∀ p ∈ ks, p.2 ∈ L.map (·.2)) → Q (.ref a) (upd H a (KsO P w a (L.map entK)))
theorem refs_of_ents : ∀ {ks : KsD} {us : List Value}, Vals (ks.map fun p => V.ref p.1) us → us = (ks.map entK).map fun p => Value.ref p.1
  | [], _, .nil => rfl
  | p :: ks, _, .cons r t => by
    cases r
    rw [refs_of_ents t]
    rfl
theorem cr_setKs {X : Cx} (hc : X.calm = true) (hu : X.A.units + 64 < cLine) : CallR X (.type "set") (rSetKs X.K X.prog X.w) := by
  intro pins s σ H xs us Q I r h
  obtain ⟨l, ks, rfl, hl, hk, few, q⟩ := h
  rw [Vals.ref1 r]
  obtain ⟨its, rv, pl, hz⟩ := I.list hl
  refine call_K (P := X.prog) (w := X.w) (ks.map entK) (I.ok.hd hc) pl.isList (by simpa using refs_of_ents rv) (fun p hp => ?_) few.few (by omega) fun s' got => ?_
  · obtain ⟨p0, hp0, rfl⟩ := List.mem_map.mp hp
    obtain ⟨h1, h2⟩ := hk p0 hp0
    exact ⟨h2.is I h1, noT_key _ h2.2.1⟩
  obtain ⟨h', tk, L, es, ep, t, rfl, R, g, old⟩ := got
  obtain ⟨L0, rfl, h0⟩ := back_list g.sub
  have nd := back_nd R.dif
  refine ⟨.ref s.heap.objs.size, upd H s.heap.objs.size (KsO X.prog X.w s.heap.objs.size (L0.map entK)), I.laid (t' := tk) old (Nat.le_refl _) (ksO_new ⟨es, ep, t, R.obj, R.row, R.tbl, R.dif, R.pln, R.led, R.rm, R.sml⟩), rfl, q _ L0 (I.hok.fresh (Nat.le_refl _)) h0 nd fun p hp => ?_⟩
  have hm := g.all (entK p) (by rw [List.take_length]; exact List.mem_map.mpr ⟨p, hp, rfl⟩)
  rw [List.map_map] at hm
  obtain ⟨p1, hp1, e1⟩ := List.mem_map.mp hm
  have e1 : keyP p1.2 = keyP p.2 := e1
  exact List.mem_map.mpr ⟨p1, hp1, (hk p1 (h0 p1 hp1)).2.inj (hk p hp).2 e1⟩
def rSortKs (K : PySem.W.Frag) (P : Program) (w : World) : List V → Hp → VK → Prop := fun vs H Q => ∃ (a : Addr) (L : KsD), vs = [V.ref a] ∧ H a = some (KsO P w a (L.map entK)) ∧ (∀ p ∈ L, At H (.ref p.1) p.2) ∧ (∀ L1 : KsD, L1.Perm L → CanSort (L1.map (·.2))) ∧
  ∀ p ys (L1 : KsD), L1.Perm L → H p = none → SortOut (L1.map fun q => V.ref q.1) (L1.map (·.2)) ys → Q (.ref p) (upd H p (.lst ys))
theorem cr_sortKs {X : Cx} (hc : X.calm = true) (hu : X.A.units + 100 < cLine) : CallR X (.builtin "sorted") (rSortKs X.K X.prog X.w) := by
  intro pins s σ H vs us Q I r h
  obtain ⟨a, L, rfl, ha, hat, hcan, k⟩ := h
  rw [Vals.ref1 r]
  obtain ⟨es, ep, t, ⟨o, ho, hex, hd⟩, e1, e2, e3, e4, e5, e6, e7⟩ := (show ObjOk X.prog X.w H s.heap a (.ext _) from I.hok a _ ha).1
  have hl := row_len e1
  have hz1 := e2.sz
  rw [List.length_map] at hz1
  refine PySem.Calls.call_function_entry PyProof.Rows.kind_sorted PyProof.Rows.plain_sorted PyProof.Rows.entry_sorted (PyProof.Rows.args_sorted1 _) ?_
  unfold Builtin.«sorted»
  refine wpAny_bind (m := checkCount "sorted" 1 1 _) (wpAny_pure ?_)
  refine wpAny_bind (collect_set (P := X.prog) (A := X.A.in1) (I.ok.hd hc) ⟨o, ho, hex.1, hd⟩ (fits_of (by omega) e2.dm (by omega)) (by unfold scanBound; omega) e2.ris e5 fun s1 vs k1 hz g1 o1 pm => ?_)
  have em : es.toList.map (·.2) = L.map fun q => Value.ref q.1 := by
    rw [e1, List.map_map, List.map_map]
    rfl
  rw [em] at pm
  obtain ⟨L1, ev, pL⟩ := perm_map_back pm
  have hvl : vs.length ≤ sizeLine := by rw [pm.length_eq, List.length_map, sizeLine_eq]; rw [List.length_map] at e7; omega
  have I1 : Inv X pins σ H s1 := by
    have J := I.call (h' := s1.heap) (g' := s1.gens) (d' := s1.drawn) (t' := s1.toks) (ch := []) (Un.kept k1) (I.hok.kept k1) (by rw [g1]; exact I.bare) (fun _ z => nomatch z)
    have e : s1 = { s with heap := s1.heap, gens := s1.gens, drawn := s1.drawn, toks := s1.toks } := by
      cases s1
      cases s
      cases o1
      rfl
    rw [e]
    exact J
  have hcs := hcan L1 pL
  have rv : Vals (L1.map fun q => V.ref q.1) vs := by
    rw [ev]
    clear ev pL hcs pm
    induction L1 with
    | nil => exact .nil
    | cons q L1 ih => exact .cons rfl ih
  have hd2 : DpAll X.K H (L1.map fun q => V.ref q.1) (L1.map (·.2)) := by
    refine AtAll.dp' _ _ _ (nods_lf _ hcs.lf) ?_
    have : ∀ q : Addr × PyData, q ∈ L1 → At H (.ref q.1) q.2 := fun q hq => hat q (pL.mem_iff.mp hq)
    clear ev pL hcs rv
    induction L1 with
    | nil => exact .nil
    | cons q L1 ih => exact .cons (this q List.mem_cons_self) (ih fun z hz => this z (List.mem_cons_of_mem _ hz))
  refine wpAny_bind (wpAny_newList ?_ hvl)
  obtain ⟨xs, exs⟩ : ∃ xs : List V, xs = L1.map fun q => V.ref q.1 := ⟨_, rfl⟩
  obtain ⟨ds, eds⟩ : ∃ ds : List PyData, ds = L1.map (·.2) := ⟨_, rfl⟩
  have k := fun p ys => k p ys L1 pL
  rw [← exs] at rv hd2 k
  rw [← eds] at hd2 k hcs
  have hlen : xs.length = ds.length := Paired.length (dpAll_get hd2)
  have kp2 : ∀ b o, s1.heap.get? b = some o → (s1.heap.push (PyProof.Rows.seqObj "list" vs.toArray 0)).get? b = some o := fun b o e => Heap.get?_push_of_some _ e
  obtain ⟨z1, z2⟩ := each_zip I1 kp2 rv hd2 hcs.lf
  have hsnd : (xs.zip ds).map (·.2) = ds := List.map_snd_zip (by omega)
  have hbl : (xs.zip ds).length = ds.length := by rw [List.length_zip]; omega
  have hxl : xs.length ≤ sizeLine := by rw [rv.length]; exact hvl
  have ho' : (s1.heap.push (PyProof.Rows.seqObj "list" vs.toArray 0)).get? s1.heap.objs.size = some (PyProof.Rows.seqObj "list" vs.toArray 0) := Heap.get?_push_size _ rfl
  refine wpAny_bind (wpAny_holding (PySem.W.list_sort_data (s := { s1 with heap := s1.heap.push (PyProof.Rows.seqObj "list" vs.toArray 0) }) (bs := xs.zip ds) (enc := fun b : V × PyData => b.2) (R := fun v b => RelV b.1 v) ho' z1 (eachIs_mono (fun v b ⟨as, r, z⟩ => ⟨as, r, by rw [z]; simp⟩) z2)
    (by rw [hsnd]; exact hcs.al) (by rw [hsnd]; exact hcs.so) (by rw [hbl, ← hlen]; exact hxl) (fun b hb => ?_) fun out hl hout => ?_))
  · have hm : b.2 ∈ ds := by rw [← hsnd]; exact List.mem_map.mpr ⟨b, hb, rfl⟩
    have := hcs.dp _ hm
    show X.A.units + 1 + 1 + b.2.depth < cLine
    omega
  · refine wpAny_pure ⟨_, rfl, ?_⟩
    obtain ⟨ep, he'⟩ := PyProof.Rows.sortedHeap_at (out := out.toArray) ho'
    have so : SortOut xs ds (((xs.zip ds).mergeSort (PySem.W.dataLe false fun b : V × PyData => b.2)).map (·.1)) := by
      refine ⟨_, List.mergeSort_perm _ _, rfl, ?_⟩
      have e := List.map_mergeSort (f := fun b : V × PyData => b.2) (r := PySem.W.dataLe false fun b : V × PyData => b.2) (s := dLe) (l := xs.zip ds) (fun a _ b _ => rfl)
      rw [e, hsnd]
    have ln : (((xs.zip ds).mergeSort (PySem.W.dataLe false fun b : V × PyData => b.2)).map (·.1)).length ≤ sizeLine := by
      rw [List.length_map, (List.mergeSort_perm _ _).length_eq, hbl, ← hlen]
      exact hxl
    have I2 : Inv X pins σ (upd H s1.heap.objs.size (.lst (((xs.zip ds).mergeSort (PySem.W.dataLe false fun b : V × PyData => b.2)).map (·.1)))) { s1 with heap := PyProof.Rows.sortedHeap (s1.heap.push (PyProof.Rows.seqObj "list" vs.toArray 0)) s1.heap.objs.size vs out.toArray } := by
      refine I1.laid (t' := s1.toks) (fun b u e => ?_) (Nat.le_refl _) ⟨ln, out, ep, each_vals hout, he'⟩
      have hlt := Heap.lt_size e
      rw [PyProof.Rows.sortedHeap_old (Nat.ne_of_lt hlt) (by rw [Heap.size_push]; exact Nat.lt_succ_of_lt hlt)]
      exact Heap.get?_push_of_some _ e
    exact ⟨.ref _, _, I2, rfl, k _ _ (I1.hok.fresh (Nat.le_refl _)) so⟩
theorem keyed_at {H : Hp} : ∀ {ds : List PyData} {vs : List V}, (∀ d ∈ ds, KeyD d) → AtAll H vs ds → ∃ ks : KsD, vs = ks.map (fun p => V.ref p.1) ∧ ks.map (·.2) = ds ∧ ∀ p ∈ ks, At H (.ref p.1) p.2
  | [], _, _, h => by cases h; exact ⟨[], rfl, rfl, fun p h => nomatch h⟩
  | d :: ds, _, hk, h => by
    cases h with
    | cons h1 h2 =>
      obtain ⟨b, rfl⟩ := (hk d List.mem_cons_self).ref h1
      obtain ⟨ks, rfl, e, hks⟩ := keyed_at (fun x hx => hk x (List.mem_cons_of_mem _ hx)) h2
      refine ⟨(b, d) :: ks, rfl, by rw [List.map_cons, e], fun p hp => ?_⟩
      rcases List.mem_cons.mp hp with rfl | hp
      · exact h1
      · exact hks p hp
theorem atAll_ks {H : Hp} : ∀ {L : KsD}, (∀ p ∈ L, At H (.ref p.1) p.2) → AtAll H (L.map fun q => V.ref q.1) (L.map (·.2))
  | [], _ => .nil
  | p :: L, h => .cons (h p List.mem_cons_self) (atAll_ks fun q hq => h q (List.mem_cons_of_mem _ hq))
theorem de_sortedSetK {C : Ct} {Ξ : Addr → Prop} {ρ : Rho} {a : Expr} {ds : List PyData} {p p2 q pos : Pos} (hkd : ∀ d ∈ ds, RowsT d) (few : FewK ds) (hg : Gl C.X "sorted") (hm : C.X.mg "sorted" = none) (hg2 : Gl C.X "set") (hm2 : C.X.mg "set" = none) (ha : DEd C Ξ ρ a (.list ds)) (hc : C.X.calm = true := by rfl)
    (na : starEach [a] C.X.env = (false, eval a C.X.env) :: starEach [] C.X.env := by rfl) (nb : starEach [.Call (.Name "set" p2) [a] [] q] C.X.env = (false, eval (.Call (.Name "set" p2) [a] [] q) C.X.env) :: starEach [] C.X.env := by rfl) (hpl1 : (backTo pos (starEach [] C.X.env)).any (·.1) = false := by rfl) (hpl2 : (backTo q (starEach [] C.X.env)).any (·.1) = false := by rfl) :
    DE C Ξ ρ (.Call (.Name "sorted" p) [.Call (.Name "set" p2) [a] [] q] [] pos) (fun x => ∃ rs : List PyData, rs.Nodup ∧ (∀ k, k ∈ rs ↔ k ∈ ds) ∧ x = .list (rs.mergeSort dLe)) := fun σ H E Q qq z =>
  ⟨_, pe_callB (cr_sortKs hc (by have := C.un; omega)) hg hm b_sorted (pa_cons (pe_callTy (cr_setKs hc (by have := C.un; omega)) hg2 hm2 PyProof.Rows.boot_set (pa_cons pE pa_nil na) (by decide) (by decide) na hpl2) pa_nil nb) (by decide) (by decide) nb hpl1, ha σ H E _ (fun d0 v H2 pd g r => by
    subst pd
    obtain ⟨l, xs, rfl, h1, h2⟩ := r.ref_list
    obtain ⟨ks, rfl, e, hk⟩ := keyed_at (fun d hd => (hkd d hd).key) h2
    subst e
    have hT : ∀ p ∈ ks, RowsT p.2 := fun p hp => hkd _ (List.mem_map.mpr ⟨p, hp, rfl⟩)
    refine ⟨l, ks, rfl, SqL.of (hid_le _ _ h1), fun p hp => ⟨(hk p hp).up hid_le, (hT p hp).key⟩, few, fun t L ht hs nd hall => ?_⟩
    have up1 : Same H2 (upd H2 t (KsO C.X.prog C.X.w t (L.map entK))) := same_new ht
    refine ⟨t, L, rfl, upd_same, fun p hp => ((hk p (hs p hp)).up hid_le).up up1, fun L1 pL => can_rounds fun d hd => ?_, fun u ys L1 pL hu so => ?_⟩
    · obtain ⟨p, hp, rfl⟩ := List.mem_map.mp hd
      exact hT p (hs p (pL.mem_iff.mp hp))
    have E2 := (E.grow g).grow (Gr.of up1)
    have up2 : Same (upd H2 t (KsO C.X.prog C.X.w t (L.map entK))) (upd (upd H2 t (KsO C.X.prog C.X.w t (L.map entK))) u (.lst ys)) := same_new hu
    have vv := (vis_gr (C := C) (ρ := ρ) (Gr.of up1)).trans (vis_gr (Gr.of up2))
    refine qq _ _ _ ⟨L1.map (·.2), (pL.map (·.2)).nodup_iff.mpr nd, fun k => ⟨fun h => ?_, fun h => ?_⟩, rfl⟩ ((g.trans (Gr.of up1)).trans (Gr.of up2)) (.lst (E2.newV hu) (atAll_sort (atAll_ks fun p hp => (hk p (hs p (pL.mem_iff.mp hp))).up vv) so))
    · obtain ⟨p, hp, rfl⟩ := List.mem_map.mp h
      exact List.mem_map.mpr ⟨p, hs p (pL.mem_iff.mp hp), rfl⟩
    · obtain ⟨p, hp, rfl⟩ := List.mem_map.mp h
      exact (pL.map (·.2)).mem_iff.mpr (hall p hp)) z⟩
end DD

namespace DD
open PySem L2 PyProof.Rows
/-! ## rounds of at most 1200 rows -/
theorem few_fin12 : ∀ b ∈ LB, ∀ n ∈ [1, 2, 3, 4, 5, 6, 7], b ^ n ≤ 1200 → (ded ((falN b n).map fun z => stepC b z.1)).length < 63 := by decide +kernel
theorem few_steps12 {b : Int} {n : Nat} (hb : b ∈ LB) (hn : 1 ≤ n ∧ n ≤ 7) (hp : b ^ n ≤ 1200) : FewR (stepsN b n) := fun L hL hs => by
  have h1 := few_fin12 b hb n (by simp only [List.mem_cons, List.not_mem_nil, or_false]; omega) hp
  rw [← steps_C] at h1
  exact Nat.lt_of_le_of_lt (nd_le hL fun r hr => mem_ded.mpr (hs r hr)) h1
def headT : PyData → List Int
  | .tuple ds => unT (ds.headD .none)
  | _ => []
def lenT : PyData → Nat
  | .tuple ds => ds.length
  | _ => 0
theorem circ_head {b : Int} {r : List Int} (hb : Base b) (hr : Row b r) : ∃ m L, Circ b r m L ∧ circD b r = .tuple (circR b m L) ∧ headT (circD b r) = m ∧ circD b r = circD b m ∧ Row b m ∧ lenT (circD b r) = L := by
  have b1 : 1 ≤ b := by have := hb.1; omega
  obtain ⟨m, L, c, e⟩ := circ_len hb hr
  obtain ⟨i, hi⟩ := c.at_
  have hm : Row b m := by rw [← hi]; exact orb_row b1 hr i
  obtain ⟨ds, e2⟩ := circR_cons b m c.pos
  refine ⟨m, L, c, e, ?_, circD_meet (i := i) (j := 0) hb hr hm (by rw [hi]; rfl), hm, ?_⟩
  · rw [e, e2]
    show unT (tI m) = m
    exact unT_tI m
  · rw [e]
    exact circR_len b m L
theorem orb_last (b : Int) (m : List Int) : ∀ L : Nat, orb b m (L + 1) = stepI b (orb b m L) := fun L => by
  have : orb b m (L + 1) = orb b (orb b m L) 1 := (orb_add b m L 1).symm
  rw [this]
  rfl
theorem few_rounds {b : Int} {n : Nat} (hB : Base b) (hb : b ∈ LB) (hn : 1 ≤ n ∧ n ≤ 7) (hp : b ^ n ≤ 1200) {ds : List PyData} (h : ∀ d ∈ ds, ∃ r ∈ allR b n, circD b r = d) : FewK ds := fun L hL hs => by
  have b1 : 1 ≤ b := by have := hB.1; omega
  have key : ∀ d ∈ L, headT d ∈ stepsN b n ∧ circD b (headT d) = d := fun d hd => by
    obtain ⟨r, hr, rfl⟩ := h d (hs d hd)
    have hrow := allR_row b1 ⟨hn.1, by omega⟩ hr
    obtain ⟨m, k, c, _, e2, e3, hm, _⟩ := circ_head hB hrow
    rw [e2]
    refine ⟨(mem_steps b1).mpr ⟨orb b m (k - 1), ?_, ?_⟩, e3.symm⟩
    · obtain ⟨i, hi⟩ := c.at_
      refine (allR_mem b1).mpr ⟨(orb_row b1 hm _).2, ?_⟩
      rw [orb_len, ← hi, orb_len]
      exact ((allR_mem b1).mp hr).2
    · have hk := c.pos
      have := orb_last b m (k - 1)
      rw [show k - 1 + 1 = k by omega, c.per] at this
      exact this.symm
  have nd : (L.map headT).Nodup := nd_map hL fun x hx y hy e => by rw [← (key x hx).2, ← (key y hy).2, e]
  have := few_steps12 hb hn hp (L.map headT) nd fun r hr => by
    obtain ⟨d, hd, rfl⟩ := List.mem_map.mp hr
    exact (key d hd).1
  rwa [List.length_map] at this
/-! ## rows that stay -/
theorem dle_one {a b : PyData} (ha : ti a = true) (hb : ti b = true) (al : PySem.W.alike b a = true) (h : dLe (.tuple [a]) (.tuple [b]) = true) : dLe a b = true := by
  rw [dLe_eq] at h ⊢
  have h : PySem.W.dataLt (.tuple [b]) (.tuple [a]) = false := by simpa using h
  have h : lexLt itemOrd (PySem.W.keyToksAll [b]) (PySem.W.keyToksAll [a]) = false := h
  cases e : PyData.eqv b a with
  | true =>
    rw [eqv_ti b a hb ha e]
    have : PySem.W.dataLt a a = false := lex_irrefl _
    rw [this]
    rfl
  | false =>
    rw [PySem.W.dataLt_all_no al e] at h
    rw [h]
    rfl
theorem fix_heads {b : Int} {n : Nat} (hb : Base b) (hn : 1 ≤ n ∧ n ≤ 8) : ((roundsL b n).filter fun d => decide (lenT d = 1)).map (fun d => tI (headT d)) = fixedL b n := by
  have b1 : 1 ≤ b := by have := hb.1; omega
  have one : ∀ d ∈ (roundsL b n).filter (fun d => decide (lenT d = 1)), d = .tuple [tI (headT d)] ∧ headT d ∈ allR b n ∧ stepI b (headT d) = headT d := fun d hd => by
    obtain ⟨h1, h2⟩ := List.mem_filter.mp hd
    have h2 := of_decide_eq_true h2
    obtain ⟨r, hr, rfl⟩ := rounds_mem.mp h1
    have hrow := allR_row b1 hn hr
    obtain ⟨m, k, c, e1, e2, e3, hm, e4⟩ := circ_head hb hrow
    rw [e4] at h2
    subst h2
    rw [e2]
    obtain ⟨i, hi⟩ := c.at_
    refine ⟨e1, (allR_mem b1).mpr ⟨hm.2, ?_⟩, c.per⟩
    rw [← hi, orb_len]
    exact ((allR_mem b1).mp hr).2
  have nd : (((roundsL b n).filter fun d => decide (lenT d = 1)).map fun d => tI (headT d)).Nodup := nd_map ((rounds_nd b n).filter _) fun x hx y hy e => by rw [(one x hx).1, (one y hy).1, e]
  unfold fixedL
  have nd2 : (((allR b n).filter fun r => decide (stepI b r = r)).map tI).Nodup := nd_map ((allR_nd b1 n).filter _) fun x _ y _ e => tI_inj e
  refine (sort_of ?_ (fun x hx => ?_) (fun x hx y hy => ?_) ?_).symm
  · refine (List.perm_ext_iff_of_nodup nd2 nd).mpr fun x => ⟨fun h => ?_, fun h => ?_⟩
    · obtain ⟨r, hr, rfl⟩ := List.mem_map.mp h
      obtain ⟨h1, h2⟩ := List.mem_filter.mp hr
      have h2 := of_decide_eq_true h2
      have e : circD b r = .tuple [tI r] := circD_fix (i := 0) rfl h2
      have hh : headT (circD b r) = r := by rw [e]; exact unT_tI r
      refine List.mem_map.mpr ⟨circD b r, List.mem_filter.mpr ⟨rounds_mem.mpr ⟨r, h1, rfl⟩, ?_⟩, by rw [hh]⟩
      rw [e]
      rfl
    · obtain ⟨d, hd, rfl⟩ := List.mem_map.mp h
      obtain ⟨_, h1, h2⟩ := one d hd
      exact List.mem_map.mpr ⟨headT d, List.mem_filter.mpr ⟨h1, decide_eq_true h2⟩, rfl⟩
  · obtain ⟨r, _, rfl⟩ := List.mem_map.mp hx
    exact ti_row r
  · obtain ⟨r, _, rfl⟩ := List.mem_map.mp hx
    obtain ⟨q, _, rfl⟩ := List.mem_map.mp hy
    exact alike_row r q
  · rw [List.pairwise_map]
    refine List.Pairwise.imp_of_mem (fun {x y} hx hy h => ?_) ((rounds_pw b n).filter _)
    have e1 := (one x hx).1
    have e2 := (one y hy).1
    have h2 : dLe (.tuple [tI (headT x)]) (.tuple [tI (headT y)]) = true := by rw [← e1, ← e2]; exact h
    exact dle_one (ti_row _) (ti_row _) (alike_row _ _) h2
theorem fixed_mem {b : Int} {n : Nat} {x : PyData} : x ∈ fixedL b n ↔ ∃ r ∈ allR b n, stepI b r = r ∧ x = tI r := by
  unfold fixedL
  rw [sort_mem, List.mem_map]
  constructor
  · rintro ⟨r, hr, rfl⟩
    obtain ⟨h1, h2⟩ := List.mem_filter.mp hr
    exact ⟨r, h1, of_decide_eq_true h2, rfl⟩
  · rintro ⟨r, h1, h2, rfl⟩
    exact ⟨r, List.mem_filter.mpr ⟨h1, decide_eq_true h2⟩, rfl⟩
theorem fix_fin : ∀ z ∈ falN 10 4, stepC 10 (stepC 10 z.1) = stepC 10 z.1 → stepC 10 z.1 = [0, 0, 0, 0] ∨ stepC 10 z.1 = [6, 1, 7, 4] := by decide +kernel
theorem fix_two : stepC 10 [0, 0, 0, 0] = [0, 0, 0, 0] ∧ stepC 10 [6, 1, 7, 4] = [6, 1, 7, 4] := by decide +kernel
theorem fixed_10 : fixedL 10 4 = [tI [0, 0, 0, 0], tI [6, 1, 7, 4]] := by
  have mem : ∀ r : List Int, (r ∈ allR 10 4 ∧ stepI 10 r = r) ↔ (r = [0, 0, 0, 0] ∨ r = [6, 1, 7, 4]) := fun r => by
    constructor
    · rintro ⟨h1, h2⟩
      obtain ⟨d1, d2⟩ := (allR_mem (by decide)).mp h1
      obtain ⟨m, hm⟩ := fal_mem (falI_R d1 d2)
      have e : stepI 10 (falI r) = r := by rw [step_perm (fal_of_perm r)]; exact h2
      have := fix_fin _ hm
      simp only at this
      rw [← step_C, ← step_C, e] at this
      exact this h2
    · rintro (rfl | rfl)
      · exact ⟨(allR_mem (by decide)).mpr ⟨fun n hn => by simp at hn; omega, rfl⟩, by rw [step_C]; exact fix_two.1⟩
      · exact ⟨(allR_mem (by decide)).mpr ⟨fun n hn => by simp at hn; omega, rfl⟩, by rw [step_C]; exact fix_two.2⟩
  unfold fixedL
  have nd : (((allR 10 4).filter fun r => decide (stepI 10 r = r)).map tI).Nodup := nd_map ((allR_nd (by decide) 4).filter _) fun x _ y _ e => tI_inj e
  refine sort_of ?_ (fun x hx => ?_) (fun x hx y hy => ?_) ?_
  · refine (List.perm_ext_iff_of_nodup nd ?_).mpr fun x => ⟨fun h => ?_, fun h => ?_⟩
    · refine List.nodup_cons.mpr ⟨fun h => ?_, by simp⟩
      have := tI_inj (List.mem_singleton.mp h)
      cases this
    · obtain ⟨r, hr, rfl⟩ := List.mem_map.mp h
      obtain ⟨h1, h2⟩ := List.mem_filter.mp hr
      rcases (mem r).mp ⟨h1, of_decide_eq_true h2⟩ with rfl | rfl
      · exact List.mem_cons_self
      · exact List.mem_cons_of_mem _ List.mem_cons_self
    · have go : ∀ r, (r = [0, 0, 0, 0] ∨ r = [6, 1, 7, 4]) → tI r ∈ ((allR 10 4).filter fun r => decide (stepI 10 r = r)).map tI := fun r hr => by
        obtain ⟨h1, h2⟩ := (mem r).mpr hr
        exact List.mem_map.mpr ⟨r, List.mem_filter.mpr ⟨h1, decide_eq_true h2⟩, rfl⟩
      rcases List.mem_cons.mp h with rfl | h
      · exact go _ (.inl rfl)
      · rw [List.mem_singleton.mp h]; exact go _ (.inr rfl)
  · obtain ⟨r, _, rfl⟩ := List.mem_map.mp hx
    exact ti_row r
  · obtain ⟨r, _, rfl⟩ := List.mem_map.mp hx
    obtain ⟨q, _, rfl⟩ := List.mem_map.mp hy
    exact alike_row r q
  · refine List.pairwise_cons.mpr ⟨fun y hy => ?_, by simp⟩
    rw [List.mem_singleton.mp hy, dLe_eq]
    have : PySem.W.dataLt (tI [6, 1, 7, 4]) (tI [0, 0, 0, 0]) = false := dataLt_zero (r := [6, 1, 7, 4]) (n := 4) rfl (by decide)
    rw [this]
    rfl
/-! ## two rounds of eight binary digits -/
theorem two_fix : stepC 2 [0, 0, 0, 0, 0, 0, 0, 0] = [0, 0, 0, 0, 0, 0, 0, 0] ∧ stepC 2 [0, 1, 1, 1, 1, 1, 1, 1] = [0, 1, 1, 1, 1, 1, 1, 1] := by decide +kernel
theorem rounds_28 : 2 ≤ (roundsL 2 8).length := by
  have e1 : circD 2 [0, 0, 0, 0, 0, 0, 0, 0] = .tuple [tI [0, 0, 0, 0, 0, 0, 0, 0]] := circD_fix (i := 0) rfl (by rw [step_C]; exact two_fix.1)
  have e2 : circD 2 [0, 1, 1, 1, 1, 1, 1, 1] = .tuple [tI [0, 1, 1, 1, 1, 1, 1, 1]] := circD_fix (i := 0) rfl (by rw [step_C]; exact two_fix.2)
  have m1 : circD 2 [0, 0, 0, 0, 0, 0, 0, 0] ∈ roundsL 2 8 := rounds_mem.mpr ⟨_, (allR_mem (by decide)).mpr ⟨fun n hn => by simp at hn; omega, rfl⟩, rfl⟩
  have m2 : circD 2 [0, 1, 1, 1, 1, 1, 1, 1] ∈ roundsL 2 8 := rounds_mem.mpr ⟨_, (allR_mem (by decide)).mpr ⟨fun n hn => by simp at hn; omega, rfl⟩, rfl⟩
  have ne : circD 2 [0, 0, 0, 0, 0, 0, 0, 0] ≠ circD 2 [0, 1, 1, 1, 1, 1, 1, 1] := fun e => by
    rw [e1, e2] at e
    injection e with e
    injection e with e _
    have := tI_inj e
    cases this
  match hL : roundsL 2 8, m1, m2 with
  | [], h, _ => cases h
  | [x], h, h' => exact absurd ((List.mem_singleton.mp h).trans (List.mem_singleton.mp h').symm) ne
  | _ :: _ :: _, _, _ => simp
theorem cut_sub {xs : List PyData} {lo hi : Option Int} {d : PyData} (h : d ∈ cutD xs lo hi) : d ∈ xs := List.mem_of_mem_drop (List.mem_of_mem_take h)
/-- a == j and b, a not known, b false -/
theorem dt_rollAnd {C : Ct} {Ξ : Addr → Prop} {ρ : Rho} {a b : Expr} {j : Int} {k : Nat} {p1 p2 pos : Pos} (ha : DE C Ξ ρ a (fun d => ∃ i : Int, d = .int i)) (hb : DTd C Ξ ρ b false) : DT C Ξ ρ (.BoolOp .And [.Compare a [.Eq] [.Constant (.int j) k p1] p2, b] pos) (fun x => x = false) := fun σ H E Q q z =>
  ⟨_, PW.pt (pw_and pT (pw_and1 pT)), (dt_cmpI (A := fun _ => True) (k := fun i => PyData.eqv (.int i) (.int j)) (op_eqD (by have := C.un; omega)) rfl (DE.imp ha fun d ⟨i, e⟩ => ⟨i, e, trivial⟩) de_int (fun i _ => rb_eq (shI i) (shI j))) σ H E _ (fun d H2 _ g => by
    cases d with
    | false => exact iteF (q _ H2 rfl g)
    | true => exact iteT (hb σ H2 (E.grow g) _ (fun d' H3 p' g' => q d' H3 p' (g.trans g')) fun c H3 xc g' => z c H3 xc (g.trans g'))) z⟩
end DD

namespace DD
open PySem L2
def topS (i : Nat) : Stmt := PySem.Challenge.pw_digitdrop_k07_whole_rounds.main.body.getD i (.Pass ⟨0, 0, 0, 0⟩)
abbrev s_is_whole : Stmt := topS 14
abbrev s_need_base : Stmt := topS 15
abbrev s_good : Stmt := topS 16
abbrev s_need_row : Stmt := topS 17
abbrev s_need_length : Stmt := topS 18
abbrev s_power : Stmt := topS 19
abbrev s_need_small : Stmt := topS 20
abbrev s_number_from : Stmt := topS 21
abbrev s_written : Stmt := topS 22
abbrev s_falling_of : Stmt := topS 23
abbrev s_stepped : Stmt := topS 25
abbrev s_step : Stmt := topS 26
abbrev s_course_of : Stmt := topS 27
abbrev s_fate_of : Stmt := topS 28
abbrev s_circle_of : Stmt := topS 29
abbrev s_round_of : Stmt := topS 30
abbrev s_is_in_round : Stmt := topS 31
abbrev s_need_both : Stmt := topS 33
abbrev s_all_falling : Stmt := topS 34
abbrev s_all_circles : Stmt := topS 35
abbrev s_turned : Stmt := topS 36
abbrev s_rounds : Stmt := topS 37
abbrev s_fixed_rows : Stmt := topS 38
abbrev s__law_cell : Stmt := topS 40
abbrev s__law_drawn : Stmt := topS 41
abbrev s__law_roll : Stmt := topS 42
abbrev s__law_rounds : Stmt := topS 43
abbrev s__law_term : Stmt := topS 44
abbrev s__law_told : Stmt := topS 45
abbrev s__law_any_base : Stmt := topS 46
abbrev s__law_written : Stmt := topS 47
abbrev s__law_step : Stmt := topS 48
abbrev s__law_course : Stmt := topS 49
abbrev s__law_round : Stmt := topS 50
abbrev s__law_small : Stmt := topS 51
abbrev s__law_all : Stmt := topS 52
abbrev s_law : Stmt := topS 53
def d_is_whole : He.DefD := ⟨("is_whole", none), "is_whole", "is_whole", defArgs s_is_whole, defBody s_is_whole, defScope s_is_whole, [], []⟩
def d_need_base : He.DefD := ⟨("need_base", none), "need_base", "need_base", defArgs s_need_base, defBody s_need_base, defScope s_need_base, [], []⟩
def d_good : He.DefD := ⟨("good", none), "good", "good", defArgs s_good, defBody s_good, defScope s_good, [], []⟩
def d_need_row : He.DefD := ⟨("need_row", none), "need_row", "need_row", defArgs s_need_row, defBody s_need_row, defScope s_need_row, [], []⟩
def d_need_length : He.DefD := ⟨("need_length", none), "need_length", "need_length", defArgs s_need_length, defBody s_need_length, defScope s_need_length, [], []⟩
def d_power : He.DefD := ⟨("power", none), "power", "power", defArgs s_power, defBody s_power, defScope s_power, [], []⟩
def d_need_small : He.DefD := ⟨("need_small", none), "need_small", "need_small", defArgs s_need_small, defBody s_need_small, defScope s_need_small, [], []⟩
def d_number_from : He.DefD := ⟨("number_from", none), "number_from", "number_from", defArgs s_number_from, defBody s_number_from, defScope s_number_from, [], []⟩
def d_written : He.DefD := ⟨("written", none), "written", "written", defArgs s_written, defBody s_written, defScope s_written, [], []⟩
def d_falling_of : He.DefD := ⟨("falling_of", none), "falling_of", "falling_of", defArgs s_falling_of, defBody s_falling_of, defScope s_falling_of, [], []⟩
def d_stepped : He.DefD := ⟨("stepped", none), "stepped", "stepped", defArgs s_stepped, defBody s_stepped, defScope s_stepped, [], []⟩
def d_step : He.DefD := ⟨("step", none), "step", "step", defArgs s_step, defBody s_step, defScope s_step, [], []⟩
def d_course_of : He.DefD := ⟨("course_of", none), "course_of", "course_of", defArgs s_course_of, defBody s_course_of, defScope s_course_of, [], []⟩
def d_fate_of : He.DefD := ⟨("fate_of", none), "fate_of", "fate_of", defArgs s_fate_of, defBody s_fate_of, defScope s_fate_of, [], []⟩
def d_circle_of : He.DefD := ⟨("circle_of", none), "circle_of", "circle_of", defArgs s_circle_of, defBody s_circle_of, defScope s_circle_of, [], []⟩
def d_round_of : He.DefD := ⟨("round_of", none), "round_of", "round_of", defArgs s_round_of, defBody s_round_of, defScope s_round_of, [], []⟩
def d_is_in_round : He.DefD := ⟨("is_in_round", none), "is_in_round", "is_in_round", defArgs s_is_in_round, defBody s_is_in_round, defScope s_is_in_round, [], []⟩
def d_need_both : He.DefD := ⟨("need_both", none), "need_both", "need_both", defArgs s_need_both, defBody s_need_both, defScope s_need_both, [], []⟩
def d_all_falling : He.DefD := ⟨("all_falling", none), "all_falling", "all_falling", defArgs s_all_falling, defBody s_all_falling, defScope s_all_falling, [], []⟩
def d_all_circles : He.DefD := ⟨("all_circles", none), "all_circles", "all_circles", defArgs s_all_circles, defBody s_all_circles, defScope s_all_circles, [], []⟩
def d_turned : He.DefD := ⟨("turned", none), "turned", "turned", defArgs s_turned, defBody s_turned, defScope s_turned, [], []⟩
def d_rounds : He.DefD := ⟨("rounds", none), "rounds", "rounds", defArgs s_rounds, defBody s_rounds, defScope s_rounds, [], []⟩
def d_fixed_rows : He.DefD := ⟨("fixed_rows", none), "fixed_rows", "fixed_rows", defArgs s_fixed_rows, defBody s_fixed_rows, defScope s_fixed_rows, [], []⟩
def d__law_cell : He.DefD := ⟨("_law_cell", none), "_law_cell", "_law_cell", defArgs s__law_cell, defBody s__law_cell, defScope s__law_cell, [], []⟩
def d__law_drawn : He.DefD := ⟨("_law_drawn", none), "_law_drawn", "_law_drawn", defArgs s__law_drawn, defBody s__law_drawn, defScope s__law_drawn, [], []⟩
def d__law_roll : He.DefD := ⟨("_law_roll", none), "_law_roll", "_law_roll", defArgs s__law_roll, defBody s__law_roll, defScope s__law_roll, [], []⟩
def d__law_rounds : He.DefD := ⟨("_law_rounds", none), "_law_rounds", "_law_rounds", defArgs s__law_rounds, defBody s__law_rounds, defScope s__law_rounds, [], []⟩
def d__law_term : He.DefD := ⟨("_law_term", none), "_law_term", "_law_term", defArgs s__law_term, defBody s__law_term, defScope s__law_term, [], []⟩
def d__law_told : He.DefD := ⟨("_law_told", none), "_law_told", "_law_told", defArgs s__law_told, defBody s__law_told, defScope s__law_told, [], []⟩
def d__law_any_base : He.DefD := ⟨("_law_any_base", none), "_law_any_base", "_law_any_base", defArgs s__law_any_base, defBody s__law_any_base, defScope s__law_any_base, [], []⟩
def d__law_written : He.DefD := ⟨("_law_written", none), "_law_written", "_law_written", defArgs s__law_written, defBody s__law_written, defScope s__law_written, [], []⟩
def d__law_step : He.DefD := ⟨("_law_step", none), "_law_step", "_law_step", defArgs s__law_step, defBody s__law_step, defScope s__law_step, [], []⟩
def d__law_course : He.DefD := ⟨("_law_course", none), "_law_course", "_law_course", defArgs s__law_course, defBody s__law_course, defScope s__law_course, [], []⟩
def d__law_round : He.DefD := ⟨("_law_round", none), "_law_round", "_law_round", defArgs s__law_round, defBody s__law_round, defScope s__law_round, [], []⟩
def d__law_small : He.DefD := ⟨("_law_small", none), "_law_small", "_law_small", defArgs s__law_small, defBody s__law_small, defScope s__law_small, [], []⟩
def d__law_all : He.DefD := ⟨("_law_all", none), "_law_all", "_law_all", defArgs s__law_all, defBody s__law_all, defScope s__law_all, [], []⟩
def d_law : He.DefD := ⟨("law", none), "law", "law", defArgs s_law, defBody s_law, defScope s_law, [], []⟩
def fn : List He.DefD := ([d_is_whole, d_need_base, d_good, d_need_row, d_need_length, d_power, d_need_small, d_number_from, d_written, d_falling_of, d_stepped, d_step, d_course_of, d_fate_of, d_circle_of, d_round_of, d_is_in_round, d_need_both, d_all_falling, d_all_circles, d_turned, d_rounds, d_fixed_rows, d__law_cell, d__law_drawn, d__law_roll, d__law_rounds, d__law_term, d__law_told, d__law_any_base] : List He.DefD) ++ ([d__law_written, d__law_step, d__law_course, d__law_round, d__law_small, d__law_all, d_law] : List He.DefD)
def fa : List He.Fa := ([.glo "is_whole", .glo "need_base", .glo "good", .glo "need_row", .glo "need_length", .glo "power", .glo "need_small", .glo "number_from", .glo "written", .glo "falling_of", .glo "stepped", .glo "step", .glo "course_of", .glo "fate_of", .glo "circle_of", .glo "round_of", .glo "is_in_round", .glo "need_both", .glo "all_falling", .glo "all_circles", .glo "turned", .glo "rounds", .glo "fixed_rows", .glo "_law_cell", .glo "_law_drawn", .glo "_law_roll", .glo "_law_rounds", .glo "_law_term", .glo "_law_told", .glo "_law_any_base"] : List He.Fa) ++ ([.glo "_law_written", .glo "_law_step", .glo "_law_course", .glo "_law_round", .glo "_law_small", .glo "_law_all", .glo "law", .free "ValueError", .free "all", .free "bool", .free "int", .free "isinstance", .free "len", .free "list", .free "max", .free "min", .free "range", .free "reversed", .free "set", .free "sorted", .free "sum", .free "tuple", .glo "DigitError", .exc "DigitError", .glo "InvalidBase", .exc "InvalidBase", .glo "InvalidRow", .exc "InvalidRow", .glo "InvalidLength", .exc "InvalidLength"] : List He.Fa) ++ ([.glo "InvalidNumber", .exc "InvalidNumber", .glo "InvalidSteps", .exc "InvalidSteps", .glo "InvalidPlace", .exc "InvalidPlace", .glo "InvalidDigit", .exc "InvalidDigit", .glo "InvalidText", .exc "InvalidText", .glo "TooLarge", .exc "TooLarge", .glo "TooGreat", .exc "TooGreat", .glo "NothingToUndo", .exc "NothingToUndo", .exm "DigitError" "DigitError" true, .exm "InvalidBase" "DigitError" true, .exm "InvalidRow" "DigitError" true, .exm "InvalidLength" "DigitError" true, .exm "InvalidNumber" "DigitError" true, .exm "InvalidSteps" "DigitError" true, .exm "InvalidPlace" "DigitError" true, .exm "InvalidDigit" "DigitError" true, .exm "InvalidText" "DigitError" true, .exm "TooLarge" "DigitError" true, .exm "TooGreat" "DigitError" true, .exm "NothingToUndo" "DigitError" true] : List He.Fa)
def loose : List Str := (["DigitError", "InvalidBase", "InvalidDigit", "InvalidLength", "InvalidNumber", "InvalidPlace", "InvalidRow", "InvalidSteps", "InvalidText", "NothingToUndo", "TooGreat", "TooLarge", "_law_all", "_law_any_base", "_law_cell", "_law_course", "_law_drawn", "_law_roll", "_law_round", "_law_rounds", "_law_small", "_law_step", "_law_term", "_law_told", "_law_written", "all_circles", "all_falling", "circle_of", "course_of", "falling_of"] : List Str) ++ (["fate_of", "fixed_rows", "good", "is_in_round", "is_whole", "need_base", "need_both", "need_length", "need_row", "need_small", "number_from", "power", "round_of", "rounds", "step", "stepped", "turned", "written"] : List Str)
def tf : List He.Defn := [("law", none)]
/-- what the top has left -/
structure Txt (K : PySem.W.Frag) (mg : Str → Option Value) : Prop where
  n_ValueError : mg "ValueError" = none
  n_all : mg "all" = none
  n_bool : mg "bool" = none
  n_int : mg "int" = none
  n_isinstance : mg "isinstance" = none
  n_len : mg "len" = none
  n_list : mg "list" = none
  n_max : mg "max" = none
  n_min : mg "min" = none
  n_range : mg "range" = none
  n_reversed : mg "reversed" = none
  n_set : mg "set" = none
  n_sorted : mg "sorted" = none
  n_sum : mg "sum" = none
  n_tuple : mg "tuple" = none
  d_is_whole : ∃ fd, FunD K "is_whole" "is_whole" (defArgs s_is_whole) (defBody s_is_whole) (defScope s_is_whole) [] [] (He.ga K "is_whole") fd
  g_is_whole : mg "is_whole" = some (.ref (He.ga K "is_whole"))
  d_need_base : ∃ fd, FunD K "need_base" "need_base" (defArgs s_need_base) (defBody s_need_base) (defScope s_need_base) [] [] (He.ga K "need_base") fd
  g_need_base : mg "need_base" = some (.ref (He.ga K "need_base"))
  d_good : ∃ fd, FunD K "good" "good" (defArgs s_good) (defBody s_good) (defScope s_good) [] [] (He.ga K "good") fd
  g_good : mg "good" = some (.ref (He.ga K "good"))
  d_need_row : ∃ fd, FunD K "need_row" "need_row" (defArgs s_need_row) (defBody s_need_row) (defScope s_need_row) [] [] (He.ga K "need_row") fd
  g_need_row : mg "need_row" = some (.ref (He.ga K "need_row"))
  d_need_length : ∃ fd, FunD K "need_length" "need_length" (defArgs s_need_length) (defBody s_need_length) (defScope s_need_length) [] [] (He.ga K "need_length") fd
  g_need_length : mg "need_length" = some (.ref (He.ga K "need_length"))
  d_power : ∃ fd, FunD K "power" "power" (defArgs s_power) (defBody s_power) (defScope s_power) [] [] (He.ga K "power") fd
  g_power : mg "power" = some (.ref (He.ga K "power"))
  d_need_small : ∃ fd, FunD K "need_small" "need_small" (defArgs s_need_small) (defBody s_need_small) (defScope s_need_small) [] [] (He.ga K "need_small") fd
  g_need_small : mg "need_small" = some (.ref (He.ga K "need_small"))
  d_number_from : ∃ fd, FunD K "number_from" "number_from" (defArgs s_number_from) (defBody s_number_from) (defScope s_number_from) [] [] (He.ga K "number_from") fd
  g_number_from : mg "number_from" = some (.ref (He.ga K "number_from"))
  d_written : ∃ fd, FunD K "written" "written" (defArgs s_written) (defBody s_written) (defScope s_written) [] [] (He.ga K "written") fd
  g_written : mg "written" = some (.ref (He.ga K "written"))
  d_falling_of : ∃ fd, FunD K "falling_of" "falling_of" (defArgs s_falling_of) (defBody s_falling_of) (defScope s_falling_of) [] [] (He.ga K "falling_of") fd
  g_falling_of : mg "falling_of" = some (.ref (He.ga K "falling_of"))
  d_stepped : ∃ fd, FunD K "stepped" "stepped" (defArgs s_stepped) (defBody s_stepped) (defScope s_stepped) [] [] (He.ga K "stepped") fd
  g_stepped : mg "stepped" = some (.ref (He.ga K "stepped"))
  d_step : ∃ fd, FunD K "step" "step" (defArgs s_step) (defBody s_step) (defScope s_step) [] [] (He.ga K "step") fd
  g_step : mg "step" = some (.ref (He.ga K "step"))
  d_course_of : ∃ fd, FunD K "course_of" "course_of" (defArgs s_course_of) (defBody s_course_of) (defScope s_course_of) [] [] (He.ga K "course_of") fd
  g_course_of : mg "course_of" = some (.ref (He.ga K "course_of"))
  d_fate_of : ∃ fd, FunD K "fate_of" "fate_of" (defArgs s_fate_of) (defBody s_fate_of) (defScope s_fate_of) [] [] (He.ga K "fate_of") fd
  g_fate_of : mg "fate_of" = some (.ref (He.ga K "fate_of"))
  d_circle_of : ∃ fd, FunD K "circle_of" "circle_of" (defArgs s_circle_of) (defBody s_circle_of) (defScope s_circle_of) [] [] (He.ga K "circle_of") fd
  g_circle_of : mg "circle_of" = some (.ref (He.ga K "circle_of"))
  d_round_of : ∃ fd, FunD K "round_of" "round_of" (defArgs s_round_of) (defBody s_round_of) (defScope s_round_of) [] [] (He.ga K "round_of") fd
  g_round_of : mg "round_of" = some (.ref (He.ga K "round_of"))
  d_is_in_round : ∃ fd, FunD K "is_in_round" "is_in_round" (defArgs s_is_in_round) (defBody s_is_in_round) (defScope s_is_in_round) [] [] (He.ga K "is_in_round") fd
  g_is_in_round : mg "is_in_round" = some (.ref (He.ga K "is_in_round"))
  d_need_both : ∃ fd, FunD K "need_both" "need_both" (defArgs s_need_both) (defBody s_need_both) (defScope s_need_both) [] [] (He.ga K "need_both") fd
  g_need_both : mg "need_both" = some (.ref (He.ga K "need_both"))
  d_all_falling : ∃ fd, FunD K "all_falling" "all_falling" (defArgs s_all_falling) (defBody s_all_falling) (defScope s_all_falling) [] [] (He.ga K "all_falling") fd
  g_all_falling : mg "all_falling" = some (.ref (He.ga K "all_falling"))
  d_all_circles : ∃ fd, FunD K "all_circles" "all_circles" (defArgs s_all_circles) (defBody s_all_circles) (defScope s_all_circles) [] [] (He.ga K "all_circles") fd
  g_all_circles : mg "all_circles" = some (.ref (He.ga K "all_circles"))
  d_turned : ∃ fd, FunD K "turned" "turned" (defArgs s_turned) (defBody s_turned) (defScope s_turned) [] [] (He.ga K "turned") fd
  g_turned : mg "turned" = some (.ref (He.ga K "turned"))
  d_rounds : ∃ fd, FunD K "rounds" "rounds" (defArgs s_rounds) (defBody s_rounds) (defScope s_rounds) [] [] (He.ga K "rounds") fd
  g_rounds : mg "rounds" = some (.ref (He.ga K "rounds"))
  d_fixed_rows : ∃ fd, FunD K "fixed_rows" "fixed_rows" (defArgs s_fixed_rows) (defBody s_fixed_rows) (defScope s_fixed_rows) [] [] (He.ga K "fixed_rows") fd
  g_fixed_rows : mg "fixed_rows" = some (.ref (He.ga K "fixed_rows"))
  d__law_cell : ∃ fd, FunD K "_law_cell" "_law_cell" (defArgs s__law_cell) (defBody s__law_cell) (defScope s__law_cell) [] [] (He.ga K "_law_cell") fd
  g__law_cell : mg "_law_cell" = some (.ref (He.ga K "_law_cell"))
  d__law_drawn : ∃ fd, FunD K "_law_drawn" "_law_drawn" (defArgs s__law_drawn) (defBody s__law_drawn) (defScope s__law_drawn) [] [] (He.ga K "_law_drawn") fd
  g__law_drawn : mg "_law_drawn" = some (.ref (He.ga K "_law_drawn"))
  d__law_roll : ∃ fd, FunD K "_law_roll" "_law_roll" (defArgs s__law_roll) (defBody s__law_roll) (defScope s__law_roll) [] [] (He.ga K "_law_roll") fd
  g__law_roll : mg "_law_roll" = some (.ref (He.ga K "_law_roll"))
  d__law_rounds : ∃ fd, FunD K "_law_rounds" "_law_rounds" (defArgs s__law_rounds) (defBody s__law_rounds) (defScope s__law_rounds) [] [] (He.ga K "_law_rounds") fd
  g__law_rounds : mg "_law_rounds" = some (.ref (He.ga K "_law_rounds"))
  d__law_term : ∃ fd, FunD K "_law_term" "_law_term" (defArgs s__law_term) (defBody s__law_term) (defScope s__law_term) [] [] (He.ga K "_law_term") fd
  g__law_term : mg "_law_term" = some (.ref (He.ga K "_law_term"))
  d__law_told : ∃ fd, FunD K "_law_told" "_law_told" (defArgs s__law_told) (defBody s__law_told) (defScope s__law_told) [] [] (He.ga K "_law_told") fd
  g__law_told : mg "_law_told" = some (.ref (He.ga K "_law_told"))
  d__law_any_base : ∃ fd, FunD K "_law_any_base" "_law_any_base" (defArgs s__law_any_base) (defBody s__law_any_base) (defScope s__law_any_base) [] [] (He.ga K "_law_any_base") fd
  g__law_any_base : mg "_law_any_base" = some (.ref (He.ga K "_law_any_base"))
  d__law_written : ∃ fd, FunD K "_law_written" "_law_written" (defArgs s__law_written) (defBody s__law_written) (defScope s__law_written) [] [] (He.ga K "_law_written") fd
  g__law_written : mg "_law_written" = some (.ref (He.ga K "_law_written"))
  d__law_step : ∃ fd, FunD K "_law_step" "_law_step" (defArgs s__law_step) (defBody s__law_step) (defScope s__law_step) [] [] (He.ga K "_law_step") fd
  g__law_step : mg "_law_step" = some (.ref (He.ga K "_law_step"))
  d__law_course : ∃ fd, FunD K "_law_course" "_law_course" (defArgs s__law_course) (defBody s__law_course) (defScope s__law_course) [] [] (He.ga K "_law_course") fd
  g__law_course : mg "_law_course" = some (.ref (He.ga K "_law_course"))
  d__law_round : ∃ fd, FunD K "_law_round" "_law_round" (defArgs s__law_round) (defBody s__law_round) (defScope s__law_round) [] [] (He.ga K "_law_round") fd
  g__law_round : mg "_law_round" = some (.ref (He.ga K "_law_round"))
  d__law_small : ∃ fd, FunD K "_law_small" "_law_small" (defArgs s__law_small) (defBody s__law_small) (defScope s__law_small) [] [] (He.ga K "_law_small") fd
  g__law_small : mg "_law_small" = some (.ref (He.ga K "_law_small"))
  d__law_all : ∃ fd, FunD K "_law_all" "_law_all" (defArgs s__law_all) (defBody s__law_all) (defScope s__law_all) [] [] (He.ga K "_law_all") fd
  g__law_all : mg "_law_all" = some (.ref (He.ga K "_law_all"))
  d_law : ∃ fd, FunD K "law" "law" (defArgs s_law) (defBody s_law) (defScope s_law) [] [] (He.ga K "law") fd
  g_law : mg "law" = some (.ref (He.ga K "law"))
  x_DigitError : Xc K mg "DigitError"
  x_InvalidBase : Xc K mg "InvalidBase"
  x_InvalidRow : Xc K mg "InvalidRow"
  x_InvalidLength : Xc K mg "InvalidLength"
  x_InvalidNumber : Xc K mg "InvalidNumber"
  x_InvalidSteps : Xc K mg "InvalidSteps"
  x_InvalidPlace : Xc K mg "InvalidPlace"
  x_InvalidDigit : Xc K mg "InvalidDigit"
  x_InvalidText : Xc K mg "InvalidText"
  x_TooLarge : Xc K mg "TooLarge"
  x_TooGreat : Xc K mg "TooGreat"
  x_NothingToUndo : Xc K mg "NothingToUndo"
  e_DigitError : PySem.W.exmOne K (.ref (He.ga K "DigitError")) (.ref (He.ga K "DigitError")) = some true
  e_InvalidBase : PySem.W.exmOne K (.ref (He.ga K "InvalidBase")) (.ref (He.ga K "DigitError")) = some true
  e_InvalidRow : PySem.W.exmOne K (.ref (He.ga K "InvalidRow")) (.ref (He.ga K "DigitError")) = some true
  e_InvalidLength : PySem.W.exmOne K (.ref (He.ga K "InvalidLength")) (.ref (He.ga K "DigitError")) = some true
  e_InvalidNumber : PySem.W.exmOne K (.ref (He.ga K "InvalidNumber")) (.ref (He.ga K "DigitError")) = some true
  e_InvalidSteps : PySem.W.exmOne K (.ref (He.ga K "InvalidSteps")) (.ref (He.ga K "DigitError")) = some true
  e_InvalidPlace : PySem.W.exmOne K (.ref (He.ga K "InvalidPlace")) (.ref (He.ga K "DigitError")) = some true
  e_InvalidDigit : PySem.W.exmOne K (.ref (He.ga K "InvalidDigit")) (.ref (He.ga K "DigitError")) = some true
  e_InvalidText : PySem.W.exmOne K (.ref (He.ga K "InvalidText")) (.ref (He.ga K "DigitError")) = some true
  e_TooLarge : PySem.W.exmOne K (.ref (He.ga K "TooLarge")) (.ref (He.ga K "DigitError")) = some true
  e_TooGreat : PySem.W.exmOne K (.ref (He.ga K "TooGreat")) (.ref (He.ga K "DigitError")) = some true
  e_NothingToUndo : PySem.W.exmOne K (.ref (He.ga K "NothingToUndo")) (.ref (He.ga K "DigitError")) = some true
end DD

namespace DD
open PySem L2
variable {P : Program} {w : World} {K : PySem.W.Frag} {mg : Str → Option Value} {base : Heap}
theorem sc_is_whole : FnScope ["value", "low", "high"] ["value", "low", "high"] (defScope s_is_whole) := ⟨rfl, rfl, rfl, by decide +kernel, rfl, by decide +kernel, by decide +kernel⟩
abbrev sp_is_whole (K : PySem.W.Frag) : Sp := spF (α := PyData × Int × Int) (fun x => [x.1, .int x.2.1, .int x.2.2]) (fun _ => True) (fun x => .rt (.bool (isW x.1 x.2.1 x.2.2)))
theorem ok_is_whole (T : Txt K mg) : Fc P w K mg base "is_whole" ["value", "low", "high"] 1 (sp_is_whole K) := by
  refine fc_X (st := s_is_whole) T.d_is_whole T.g_is_whole sc_is_whole (fun _ => rfl) (by decide) (fun _ _ _ _ _ _ us hl => match us, hl with | [_, _, _], _ => rfl) fun cdv A outer s H E hr O y hd => ?_
  obtain ⟨v, lo, hi⟩ := y
  refine dss_one (ds_retd (d := .bool (isInt v && (!isBool v && isW v lo hi))) (de_and (de_isi rfl T.n_isinstance rfl T.n_int b_int (de_var 0 rfl rfl (.inl rfl)) (kit_int v)) fun h1 =>
    de_and (de_not (de_isi rfl T.n_isinstance rfl T.n_bool b_bool (de_var 0 rfl rfl (.inl rfl)) (kit_bool v))) fun h2 => de_one ?_) ?_)
  · cases v with
    | int i => exact de_chain op_le op_le (de_var 1 rfl rfl (.inl rfl)) (de_var 0 rfl rfl (.inl rfl)) (fun _ => (de_var 2 rfl rfl (.inl rfl))) rb_le (fun _ => rb_le)
    | bool b => cases h2
    | _ => cases h1
  · show Out.rt _ = Out.rt _
    cases v <;> rfl

theorem sc_need_base : FnScope ["base"] ["base"] (defScope s_need_base) := ⟨rfl, rfl, rfl, by decide +kernel, rfl, by decide +kernel, by decide +kernel⟩
abbrev sp_need_base (K : PySem.W.Frag) : Sp := spF (α := PyData) (fun x => [x]) (fun _ => True) (fun x => fNB K x)
theorem ok_need_base (T : Txt K mg) : Fc P w K mg base "need_base" ["base"] 2 (sp_need_base K) := by
  refine fc_X (st := s_need_base) T.d_need_base T.g_need_base sc_need_base (fun _ => rfl) (by decide) (fun _ _ _ _ _ _ us hl => match us, hl with | [_], _ => rfl) fun cdv A outer s H E hr O y hd => ?_
  refine dss_one (ds_ifd (k := !isW y 2 12) (dt_not (dt_val (de_f (y, 2, 12) (ok_is_whole T) rfl (da_cons (de_var 0 rfl rfl (.inl rfl)) (da_cons de_int (da_cons de_int da_nil))) trivial rfl))) (fun h => dss_one (ds_raise T.x_InvalidBase ?_ rfl)) fun h => dss_nil ?_)
  · show Out.ex _ = fNB K y
    unfold fNB
    cases e : isW y 2 12 with
    | true => rw [e] at h; cases h
    | false => rfl
  · show Out.rt _ = fNB K y
    unfold fNB
    cases e : isW y 2 12 with
    | true => rfl
    | false => rw [e] at h; cases h

theorem sc_good : FnScope ["base", "value", "one"] ["base", "value"] (defScope s_good) := ⟨rfl, rfl, rfl, by decide +kernel, rfl, by decide +kernel, by decide +kernel⟩
abbrev sp_good (K : PySem.W.Frag) : Sp := spF (α := Int × PyData) (fun x => [.int x.1, x.2]) (fun _ => True) (fun x => .rt (.bool (rowOk x.1 x.2)))
theorem ok_good (T : Txt K mg) : Fc P w K mg base "good" ["base", "value"] 2 (sp_good K) := by
  refine fc_X (st := s_good) T.d_good T.g_good sc_good (fun _ => rfl) (by decide) (fun _ _ _ _ _ _ us hl => match us, hl with | [_, _], _ => rfl) fun cdv A outer s H E hr O y hd => ?_
  obtain ⟨b, v⟩ := y
  refine dss_one (ds_retd (d := .bool (rowOk b v)) ?_ rfl)
  cases v with
  | tuple ds =>
    refine DE.to (de_and (k := true) (de_isi rfl T.n_isinstance rfl T.n_tuple b_tuple (de_var 1 rfl rfl (.inl rfl)) rfl) fun _ => de_and (k := decide ((1 : Int) ≤ ds.length) && decide ((ds.length : Int) ≤ 8)) (de_chain op_le op_le de_int (de_lenT rfl T.n_len (de_var 1 rfl rfl (.inl rfl))) (fun _ => de_int) rb_le fun _ => rb_le) fun h => de_one (P := fun x => x = .bool (ds.all fun d => isW d 0 (b - 1))) ?_) ?_
    · rw [Bool.and_eq_true, decide_eq_true_iff, decide_eq_true_iff] at h
      refine DE.to (de_all (bs := ds.map fun d => isW d 0 (b - 1)) rfl T.n_all (DE.to (de_lc 2 (fun d => .bool (isW d 0 (b - 1))) sc_good.nd (blkOk_by (by show blkC ["base", "value", "one"] (defScope s_good) _ _ = true; decide +kernel)) (dit_tup (de_var 1 rfl rfl (.inl rfl))) (by omega) (fun s H Cc cl fp => .inl rfl) rfl (fun k d hd s H Cc cl fp O' le' => de_f (d, 0, b - 1) (ok_is_whole T) rfl (da_cons (de_var 2 rfl rfl (.inl rfl)) (da_cons de_int (da_cons (de_sub (de_var 0 rfl rfl (.inr (.inl rfl))) de_int) da_nil))) trivial rfl) (fun a => rfl) (fun d a => rfl) (fun s H Cc cl fp => .inr rfl)) ?_)) ?_
      · rw [List.map_map]; rfl
      · rw [List.all_map]; rfl
    · rw [Bool.true_and]; rfl
  | _ => exact DE.to (de_and (k := false) (k' := false) (de_isi rfl T.n_isinstance rfl T.n_tuple b_tuple (de_var 1 rfl rfl (.inl rfl)) rfl) fun h => by cases h) rfl

theorem sc_need_row : FnScope ["base", "row"] ["base", "row"] (defScope s_need_row) := ⟨rfl, rfl, rfl, by decide +kernel, rfl, by decide +kernel, by decide +kernel⟩
abbrev sp_need_row (K : PySem.W.Frag) : Sp := spF (α := PyData × PyData) (fun x => [x.1, x.2]) (fun _ => True) (fun x => fNR K x.1 x.2)
theorem ok_need_row (T : Txt K mg) : Fc P w K mg base "need_row" ["base", "row"] 3 (sp_need_row K) := by
  refine fc_X (st := s_need_row) T.d_need_row T.g_need_row sc_need_row (fun _ => rfl) (by decide) (fun _ _ _ _ _ _ us hl => match us, hl with | [_, _], _ => rfl) fun cdv A outer s H E hr O y hd => ?_
  obtain ⟨b, v⟩ := y
  refine dss_cons (ds_call b (ok_need_base T) rfl (da_cons (de_var 0 rfl rfl (.inl rfl)) da_nil) trivial ?_)
  show thenO (fNB K b) _ _
  unfold fNB
  cases h : isW b 2 12 with
  | false =>
    rw [if_neg (by decide)]
    show Out.ex _ = fNR K b v
    unfold fNR
    rw [h, if_neg (by decide)]
  | true =>
    rw [if_pos rfl]
    obtain ⟨i, rfl, hi⟩ := base_iff.mp h
    refine dss_one (ds_ifd (dt_not (dt_val (de_f (i, v) (ok_good T) rfl (da_cons (de_var 0 rfl rfl (.inl rfl)) (da_cons (de_var 1 rfl rfl (.inl rfl)) da_nil)) trivial rfl))) (fun q => dss_one (ds_raise T.x_InvalidRow ?_ rfl)) fun q => dss_nil ?_)
    · show Out.ex _ = fNR K (.int i) v
      unfold fNR
      have q : rowOk i v = false := by cases e : rowOk i v with | false => rfl | true => rw [e] at q; cases q
      rw [h, if_pos rfl, q, if_neg (by decide)]; rfl
    · show Out.rt _ = fNR K (.int i) v
      unfold fNR
      have q : rowOk i v = true := by cases e : rowOk i v with | true => rfl | false => rw [e] at q; cases q
      rw [h, if_pos rfl, q, if_pos rfl]

theorem sc_need_length : FnScope ["base", "length"] ["base", "length"] (defScope s_need_length) := ⟨rfl, rfl, rfl, by decide +kernel, rfl, by decide +kernel, by decide +kernel⟩
abbrev sp_need_length (K : PySem.W.Frag) : Sp := spF (α := PyData × PyData) (fun x => [x.1, x.2]) (fun _ => True) (fun x => fNL K x.1 x.2)
theorem ok_need_length (T : Txt K mg) : Fc P w K mg base "need_length" ["base", "length"] 3 (sp_need_length K) := by
  refine fc_X (st := s_need_length) T.d_need_length T.g_need_length sc_need_length (fun _ => rfl) (by decide) (fun _ _ _ _ _ _ us hl => match us, hl with | [_, _], _ => rfl) fun cdv A outer s H E hr O y hd => ?_
  obtain ⟨b, v⟩ := y
  refine dss_cons (ds_call b (ok_need_base T) rfl (da_cons (de_var 0 rfl rfl (.inl rfl)) da_nil) trivial ?_)
  show thenO (fNB K b) _ _
  unfold fNB
  cases h : isW b 2 12 with
  | false =>
    rw [if_neg (by decide)]
    show Out.ex _ = fNL K b v
    unfold fNL
    rw [h, if_neg (by decide)]
  | true =>
    rw [if_pos rfl]
    refine dss_one (ds_ifd (dt_not (dt_val (de_f (v, 1, 8) (ok_is_whole T) rfl (da_cons (de_var 1 rfl rfl (.inl rfl)) (da_cons de_int (da_cons de_int da_nil))) trivial rfl))) (fun q => dss_one (ds_raise T.x_InvalidLength ?_ rfl)) fun q => dss_nil ?_)
    · show Out.ex _ = fNL K b v
      unfold fNL
      have q : isW v 1 8 = false := by cases e : isW v 1 8 with | false => rfl | true => rw [e] at q; cases q
      rw [h, if_pos rfl, q, if_neg (by decide)]; rfl
    · show Out.rt _ = fNL K b v
      unfold fNL
      have q : isW v 1 8 = true := by cases e : isW v 1 8 with | true => rfl | false => rw [e] at q; cases q
      rw [h, if_pos rfl, q, if_pos rfl]

theorem sc_power : FnScope ["base", "length", "found", "turn"] ["base", "length"] (defScope s_power) := ⟨rfl, rfl, rfl, by decide +kernel, rfl, by decide +kernel, by decide +kernel⟩
abbrev sp_power (K : PySem.W.Frag) : Sp := spF (α := Int × Nat) (fun x => [.int x.1, .int x.2]) (fun x => Base x.1 ∧ x.2 ≤ 8) (fun x => .rt (.int (x.1 ^ x.2)))
theorem ok_power (T : Txt K mg) : Fc P w K mg base "power" ["base", "length"] 1 (sp_power K) := by
  refine fc_X (st := s_power) T.d_power T.g_power sc_power (fun _ => rfl) (by decide) (fun _ _ _ _ _ _ us hl => match us, hl with | [_, _], _ => rfl) fun cdv A outer s H E hr O y hd => ?_
  obtain ⟨b, n⟩ := y
  obtain ⟨hb, hn⟩ := hd
  refine dss_cons (ds_setd 2 de_int ?_ sc_power.nd rfl (.inl rfl))
  refine dss_cons (ds_for (dit_range rfl T.n_range (de_var 1 rfl rfl (.inl rfl)) (by have : n ≤ 8 := hn; omega)) (fun _ k ρ => ∃ sv, ρ = [.dat (.int b), .dat (.int n), .dat (.int (b ^ k)), sv]) (fun _ _ => ⟨.no, by rw [Int.pow_zero]; rfl⟩) (fun ds k d ρ' e hk _ => dg_name 3 sc_power.nd rfl (.inl rfl)) ?_ ?_ (passes_of rfl))
  · rintro ds k d ρ' rfl hk ⟨sv, rfl⟩
    refine dss_one (ds_setd 2 (de_mul (de_var 2 rfl rfl (.inl rfl)) (de_var 0 rfl rfl (.inl rfl)) (.inr (by obtain ⟨h1, h2⟩ := hb; simp only at h1 h2; omega))) ⟨.dat d, ?_⟩ sc_power.nd rfl (.inl rfl))
    rw [Int.pow_succ]
    rfl
  · rintro ds ρ' rfl ⟨sv, rfl⟩
    refine dss_one (ds_retd (de_var 2 rfl rfl (.inl rfl)) ?_)
    show Out.rt _ = Out.rt _
    rw [rangeD_len]
    rfl

theorem sc_need_small : FnScope ["base", "length"] ["base", "length"] (defScope s_need_small) := ⟨rfl, rfl, rfl, by decide +kernel, rfl, by decide +kernel, by decide +kernel⟩
abbrev sp_need_small (K : PySem.W.Frag) : Sp := spF (α := Int × Nat) (fun x => [.int x.1, .int x.2]) (fun x => Base x.1 ∧ x.2 ≤ 8) (fun x => fNS K x.1 x.2)
theorem ok_need_small (T : Txt K mg) : Fc P w K mg base "need_small" ["base", "length"] 2 (sp_need_small K) := by
  refine fc_X (st := s_need_small) T.d_need_small T.g_need_small sc_need_small (fun _ => rfl) (by decide) (fun _ _ _ _ _ _ us hl => match us, hl with | [_, _], _ => rfl) fun cdv A outer s H E hr O y hd => ?_
  obtain ⟨b, n⟩ := y
  refine dss_one (ds_ifd (dt_cmp op_gt rfl (de_f (b, n) (ok_power T) rfl (da_cons (de_var 0 rfl rfl (.inl rfl)) (da_cons (de_var 1 rfl rfl (.inl rfl)) da_nil)) hd rfl) de_int rb_gt) (fun q => dss_one (ds_raise T.x_TooLarge ?_ rfl)) fun q => dss_nil ?_)
  · show Out.ex _ = fNS K b n
    unfold fNS
    rw [if_pos (of_decide_eq_true q)]; rfl
  · show Out.rt _ = fNS K b n
    unfold fNS
    rw [if_neg (of_decide_eq_false q)]

theorem sc_need_both : FnScope ["base", "length"] ["base", "length"] (defScope s_need_both) := ⟨rfl, rfl, rfl, by decide +kernel, rfl, by decide +kernel, by decide +kernel⟩
abbrev sp_need_both (K : PySem.W.Frag) : Sp := spF (α := PyData × PyData) (fun x => [x.1, x.2]) (fun _ => True) (fun x => fNB2 K x.1 x.2)
theorem ok_need_both (T : Txt K mg) : Fc P w K mg base "need_both" ["base", "length"] 4 (sp_need_both K) := by
  refine fc_X (st := s_need_both) T.d_need_both T.g_need_both sc_need_both (fun _ => rfl) (by decide) (fun _ _ _ _ _ _ us hl => match us, hl with | [_, _], _ => rfl) fun cdv A outer s H E hr O y hd => ?_
  obtain ⟨b, v⟩ := y
  refine dss_cons (ds_call (b, v) (ok_need_length T) rfl (da_cons (de_var 0 rfl rfl (.inl rfl)) (da_cons (de_var 1 rfl rfl (.inl rfl)) da_nil)) trivial ?_)
  show thenO (fNL K b v) _ _
  rcases fNL_cases (K := K) b v with ⟨bi, n, rfl, rfl, hb, hn, e⟩ | ⟨c, e⟩
  · rw [e]
    obtain ⟨m, rfl⟩ := Int.eq_ofNat_of_zero_le (by omega : 0 ≤ n)
    refine dss_one (ds_call (bi, m) (ok_need_small T) rfl (da_cons (de_var 0 rfl rfl (.inl rfl)) (da_cons (de_var 1 rfl rfl (.inl rfl)) da_nil)) ⟨hb, by show m ≤ 8; omega⟩ ?_)
    show thenO (fNS K bi m) _ _
    have e2 : fNB2 K (.int bi) (.int (m : Int)) = fNS K bi m := by unfold fNB2; rw [e]; rfl
    unfold fNS
    unfold fNS at e2
    split
    · rename_i h; rw [if_pos h] at e2; exact e2.symm
    · rename_i h; rw [if_neg h] at e2; exact e2.symm
  · rw [e]
    exact (fNB2_ex e).symm

theorem sc_number_from : FnScope ["base", "row", "found", "digit"] ["base", "row"] (defScope s_number_from) := ⟨rfl, rfl, rfl, by decide +kernel, rfl, by decide +kernel, by decide +kernel⟩
abbrev sp_number_from (K : PySem.W.Frag) : Sp := spF (α := Int × Bool × List Int) (fun x => [.int x.1, sq x.2.1 x.2.2]) (fun x => Base x.1 ∧ x.2.2.length ≤ 8 ∧ Dg x.1 x.2.2) (fun x => .rt (.int (numI x.1 x.2.2)))
theorem ok_number_from (T : Txt K mg) : Fc P w K mg base "number_from" ["base", "row"] 1 (sp_number_from K) := by
  refine fc_X (st := s_number_from) T.d_number_from T.g_number_from sc_number_from (fun _ => rfl) (by decide) (fun _ _ _ _ _ _ us hl => match us, hl with | [_, _], _ => rfl) fun cdv A outer s H E hr O y hd => ?_
  obtain ⟨b, t, ns⟩ := y
  obtain ⟨hb, hn, hd⟩ := hd
  simp only at hb hn hd
  refine dss_cons (ds_setd 2 de_int ?_ sc_number_from.nd rfl (.inl rfl))
  have it : ∀ (C : Ct) Ξ ρ tg e, DEd C Ξ ρ e (sq t ns) → DItd C Ξ ρ tg e (iv ns) := fun C Ξ ρ tg e h => by
    cases t with
    | true => exact dit_tup h
    | false => exact dit_list h
  refine dss_cons (ds_for (it _ _ _ _ _ (de_var 1 rfl rfl (.inl rfl))) (fun _ k ρ => ∃ sv, ρ = [.dat (.int b), .dat (sq t ns), .dat (.int (numI b (ns.take k))), sv]) (fun _ _ => ⟨.no, rfl⟩) (fun ds k d ρ' e hk _ => dg_name 3 sc_number_from.nd rfl (.inl rfl)) ?_ ?_ (passes_of rfl))
  · rintro ds k d ρ' rfl hk ⟨sv, rfl⟩
    obtain ⟨n, hk2, rfl⟩ := iv_at hk
    refine dss_one (ds_setd 2 (de_add (de_mul (de_var 2 rfl rfl (.inl rfl)) (de_var 0 rfl rfl (.inl rfl)) (.inr (by obtain ⟨h1, h2⟩ := hb; omega))) (de_var 3 rfl rfl (.inl rfl))) ⟨.dat (.int n), ?_⟩ sc_number_from.nd rfl (.inl rfl))
    rw [take_snoc hk2, numI_app]
    rfl
  · rintro ds ρ' rfl ⟨sv, rfl⟩
    refine dss_one (ds_retd (de_var 2 rfl rfl (.inl rfl)) ?_)
    show Out.rt _ = Out.rt _
    rw [iv_len, List.take_length]

theorem sc_written : FnScope ["base", "length", "number", "found", "turn", "digit"] ["base", "length", "number"] (defScope s_written) := ⟨rfl, rfl, rfl, by decide +kernel, rfl, by decide +kernel, by decide +kernel⟩
abbrev sp_written (K : PySem.W.Frag) : Sp := spF (α := Int × Nat × Int) (fun x => [.int x.1, .int x.2.1, .int x.2.2]) (fun x => Base x.1 ∧ x.2.1 ≤ 8) (fun x => .rt (tI (wrI x.1 x.2.1 x.2.2 [])))
theorem ok_written (T : Txt K mg) : Fc P w K mg base "written" ["base", "length", "number"] 1 (sp_written K) := by
  refine fc_X (st := s_written) T.d_written T.g_written sc_written (fun _ => rfl) (by decide) (fun _ _ _ _ _ _ us hl => match us, hl with | [_, _, _], _ => rfl) fun cdv A outer s H E hr O y hd => ?_
  obtain ⟨b, n, m⟩ := y
  obtain ⟨hb, hn⟩ := hd
  simp only at hb hn
  refine dss_cons (ds_setd 3 (de_tup da_nil) ?_ sc_written.nd rfl (.inl rfl))
  refine dss_cons (ds_for (dit_range rfl T.n_range (de_var 1 rfl rfl (.inl rfl)) (by simp only; omega)) (fun _ k ρ => k ≤ n ∧ ∃ m' acc s1 s2, wrI b (n - k) m' acc = wrI b n m [] ∧ acc.length = k ∧ ρ = [.dat (.int b), .dat (.int n), .dat (.int m'), .dat (tI acc), s1, s2]) (fun _ _ => ⟨Nat.zero_le _, m, [], .no, .no, rfl, rfl, rfl⟩) (fun ds k d ρ' e hk _ => dg_name 4 sc_written.nd rfl (.inl rfl)) ?_ ?_ (passes_of rfl))
  · rintro ds k d ρ' rfl hk ⟨hk1, m', acc, s1, s2, e, el, rfl⟩
    have hlt : k < n := by
      have := (List.getElem?_eq_some_iff.mp hk).1
      rw [rangeD_len] at this
      exact this
    obtain ⟨j, hj⟩ : ∃ j, n - k = j + 1 := ⟨n - k - 1, by omega⟩
    rw [hj] at e
    refine dss_cons (ds_pard 2 5 (da_cons (de_div (de_var 2 rfl rfl (.inl rfl)) (de_var 0 rfl rfl (.inl rfl)) ⟨by have := hb.1; omega, ?_⟩) (da_cons (de_mod (de_var 2 rfl rfl (.inl rfl)) (de_var 0 rfl rfl (.inl rfl)) (by have := hb.1; omega)) da_nil)) ?_ sc_written.nd rfl rfl (by decide) rfl rfl rfl)
    · have := hb.1
      have h2 : b.natAbs ≤ 12 := by have := hb.2; omega
      have : b.natAbs.log2 ≤ b.natAbs := by
        rcases Nat.eq_zero_or_pos b.natAbs with z | z
        · rw [z]; decide
        · exact Nat.le_of_lt (Nat.lt_of_lt_of_le Nat.lt_two_pow_self (Nat.log2_self_le (by omega)))
      omega
    refine dss_one (ds_setd 3 (de_catT (ys := iv acc) (de_tup (da_cons (de_var 5 rfl rfl (.inl rfl)) da_nil) (by show 1 ≤ _; omega)) (de_var 3 rfl rfl (.inl rfl)) (by rw [iv_len]; show 1 + acc.length ≤ _; omega)) ⟨hlt, m' / b, m' % b :: acc, _, _, ?_, by rw [List.length_cons, el], rfl⟩ sc_written.nd rfl (.inl rfl))
    have : n - (k + 1) = j := by omega
    rw [this]
    exact e
  · rintro ds ρ' rfl ⟨_, m', acc, s1, s2, e, el, rfl⟩
    refine dss_one (ds_retd (de_var 3 rfl rfl (.inl rfl)) ?_)
    show Out.rt _ = Out.rt _
    rw [rangeD_len, show n - (n : Int).toNat = 0 by omega] at e
    rw [← e]
    rfl

theorem sc_falling_of : FnScope ["row"] ["row"] (defScope s_falling_of) := ⟨rfl, rfl, rfl, by decide +kernel, rfl, by decide +kernel, by decide +kernel⟩
abbrev sp_falling_of (K : PySem.W.Frag) : Sp := spF (α := List Int) (fun x => [tI x]) (fun _ => True) (fun x => .rt (tI (falI x)))
theorem ok_falling_of (T : Txt K mg) : Fc P w K mg base "falling_of" ["row"] 1 (sp_falling_of K) := by
  refine fc_X (st := s_falling_of) T.d_falling_of T.g_falling_of sc_falling_of (fun _ => rfl) (by decide) (fun _ _ _ _ _ _ us hl => match us, hl with | [_], _ => rfl) fun cdv A outer s H E hr O y hd => ?_
  refine dss_one (ds_retd (DE.to (de_tupRev rfl T.n_tuple rfl T.n_reversed (de_sortT (Ct.un _) rfl T.n_sorted (de_var 0 rfl rfl (.inl rfl)) (can_iv _))) ?_) rfl)
  rw [sort_iv, iv_rev]
  rfl

theorem sc_stepped : FnScope ["base", "row"] ["base", "row"] (defScope s_stepped) := ⟨rfl, rfl, rfl, by decide +kernel, rfl, by decide +kernel, by decide +kernel⟩
abbrev sp_stepped (K : PySem.W.Frag) : Sp := spF (α := Int × List Int) (fun x => [.int x.1, tI x.2]) (fun x => Base x.1 ∧ Row x.1 x.2) (fun x => .rt (tI (stepI x.1 x.2)))
theorem ok_stepped (T : Txt K mg) : Fc P w K mg base "stepped" ["base", "row"] 3 (sp_stepped K) := by
  refine fc_X (st := s_stepped) T.d_stepped T.g_stepped sc_stepped (fun _ => rfl) (by decide) (fun _ _ _ _ _ _ us hl => match us, hl with | [_, _], _ => rfl) fun cdv A outer s H E hr O y hd => ?_
  obtain ⟨b, ns⟩ := y
  obtain ⟨hb, hr⟩ := hd
  simp only at hb hr
  have hl := hr.1
  refine dss_one (ds_retd (de_f (b, ns.length, numI b (falI ns) - numI b (srtI ns)) (ok_written T) rfl (da_cons (de_var 0 rfl rfl (.inl rfl)) (da_cons (DE.to (de_lenT rfl T.n_len (de_var 1 rfl rfl (.inl rfl))) (by rw [iv_len])) (da_cons (de_sub (de_f (b, true, falI ns) (ok_number_from T) rfl (da_cons (de_var 0 rfl rfl (.inl rfl)) (da_cons (de_f ns (ok_falling_of T) rfl (da_cons (de_var 1 rfl rfl (.inl rfl)) da_nil) trivial rfl) da_nil)) ⟨hb, by rw [falI_len]; exact hl.2, hr.2.fal⟩ rfl) (de_f (b, false, srtI ns) (ok_number_from T) rfl (da_cons (de_var 0 rfl rfl (.inl rfl)) (da_cons (DE.to (de_sortT (Ct.un _) rfl T.n_sorted (de_var 1 rfl rfl (.inl rfl)) (can_iv _)) (by rw [sort_iv]; rfl)) da_nil)) ⟨hb, by rw [srtI_len]; exact hl.2, hr.2.srt⟩ rfl)) da_nil))) ⟨hb, hl.2⟩ rfl) rfl)

theorem sc_step : FnScope ["base", "row"] ["base", "row"] (defScope s_step) := ⟨rfl, rfl, rfl, by decide +kernel, rfl, by decide +kernel, by decide +kernel⟩
abbrev sp_step (K : PySem.W.Frag) : Sp := spF (α := PyData × PyData) (fun x => [x.1, x.2]) (fun _ => True) (fun x => fRow K (fun b ns => .rt (tI (stepI b ns))) x.1 x.2)
theorem ok_step (T : Txt K mg) : Fc P w K mg base "step" ["base", "row"] 4 (sp_step K) := by
  refine fc_X (st := s_step) T.d_step T.g_step sc_step (fun _ => rfl) (by decide) (fun _ _ _ _ _ _ us hl => match us, hl with | [_, _], _ => rfl) fun cdv A outer s H E hr O y hd => ?_
  obtain ⟨b, v⟩ := y
  refine dss_cons (ds_call (b, v) (ok_need_row T) rfl (da_cons (de_var 0 rfl rfl (.inl rfl)) (da_cons (de_var 1 rfl rfl (.inl rfl)) da_nil)) trivial (thenR (fun c h => (fRow_ex h).symm) ?_))
  rintro bi ns rfl rfl hb hr
  exact dss_one (ds_retd (de_f (bi, ns) (ok_stepped T) rfl (da_cons (de_var 0 rfl rfl (.inl rfl)) (da_cons (de_var 1 rfl rfl (.inl rfl)) da_nil)) ⟨hb, hr⟩ rfl) (rowF hb hr rfl))

theorem sc_course_of : FnScope ["base", "row", "places", "found"] ["base", "row"] (defScope s_course_of) := ⟨rfl, rfl, rfl, by decide +kernel, rfl, by decide +kernel, by decide +kernel⟩
abbrev sp_course_of (K : PySem.W.Frag) : Sp := spF (α := Int × List Int) (fun x => [.int x.1, tI x.2]) (fun x => Base x.1 ∧ Row x.1 x.2) (fun x => .rt (.tuple [.list (rowsD x.1 x.2 (crs x.1 x.2).1), .int ((crs x.1 x.2).2 : Int)]))
theorem ok_course_of (T : Txt K mg) : Fc P w K mg base "course_of" ["base", "row"] 4 (sp_course_of K) := by
  refine fc_X (st := s_course_of) T.d_course_of T.g_course_of sc_course_of (fun _ => rfl) (by decide) (fun _ _ _ _ _ _ us hl => match us, hl with | [_, _], _ => rfl) fun cdv A outer s H E hr O y hd => ?_
  obtain ⟨b, r⟩ := y
  obtain ⟨hb, hr'⟩ := hd
  simp only at hb hr'
  have b1 : 1 ≤ b := by have := hb.1; omega
  refine dss_cons (ds_newDL 2 3 (fun p q hpq => ?_) sc_course_of.nd rfl rfl (by decide) (by show 2 < 4; omega) (by show 3 < 4; omega) rfl rfl rfl)
  refine dss_cons (ds_while (I := fun m ρ => ∃ k p q, m = 20738 - k ∧ Far b r k ∧ ρ = [.dat (.int b), .dat (tI (orb b r k)), .dic p (placesD b r k), .own q (rowsD b r k)]) 20738 ⟨0, p, q, rfl, fun i j _ hj => absurd hj (Nat.not_lt_zero _), rfl⟩
    (B := fun n ρ t => ∃ k p q, n = 20738 - k ∧ Far b r k ∧ ρ = [.dat (.int b), .dat (tI (orb b r k)), .dic p (placesD b r k), .own q (rowsD b r k)] ∧ t = !((placesD b r k).find? fun z => decide (z.1 = orb b r k)).isSome) ?_ ?_ ?_ (passes_of rfl))
  · rintro m ρ' ⟨k, p, q, rfl, hf, rfl⟩
    exact DT.imp (dt_notInO 2 rfl rfl (.inl rfl) (de_var 1 rfl rfl (.inl rfl))) fun t e => ⟨k, p, q, rfl, hf, rfl, e⟩
  · rintro m ρ' - ⟨k, p, q, rfl, hf, rfl, ht⟩
    have hnone : ((placesD b r k).find? fun z => decide (z.1 = orb b r k)) = none := by
      cases e : (placesD b r k).find? fun z => decide (z.1 = orb b r k) with
      | none => rfl
      | some z => rw [e] at ht; cases ht
    have hno := places_none hnone
    have hf1 : Far b r (k + 1) := fun i j hij hj => by
      rcases Nat.lt_or_ge j k with h | h
      · exact hf i j hij h
      · have : j = k := by omega
        subst this
        exact hno i hij
    have hbd := far_bound hb hr' hf1
    refine dss_cons (ds_dputO 2 rfl rfl (.inl rfl) (de_lenO 3 rfl rfl (.inl rfl) rfl T.n_len) (de_var 1 rfl rfl (.inl rfl)) hnone (by rw [placesD_len]; omega) ?_)
    refine dss_cons (ds_appendO 3 rfl rfl (.inl rfl) (de_var 1 rfl rfl (.inl rfl)) (by rw [rowsD_len]; omega) ?_)
    refine dss_one (ds_setd 1 (de_f (b, orb b r k) (ok_stepped T) rfl (da_cons (de_var 0 rfl rfl (.inl rfl)) (da_cons (de_var 1 rfl rfl (.inl rfl)) da_nil)) ⟨hb, orb_row b1 hr' k⟩ rfl) ⟨20738 - (k + 1), by omega, k + 1, p, q, rfl, hf1, ?_⟩ sc_course_of.nd rfl (.inl rfl))
    rw [rowsD_succ, placesD_succ, rowsD_len]
    rfl
  · rintro m ρ' - ⟨k, p, q, rfl, hf, rfl, ht⟩
    obtain ⟨z, hz⟩ : ∃ z, ((placesD b r k).find? fun z => decide (z.1 = orb b r k)) = some z := by
      cases e : (placesD b r k).find? fun z => decide (z.1 = orb b r k) with
      | none => rw [e] at ht; cases ht
      | some z => exact ⟨z, rfl⟩
    obtain ⟨j, hj, e1, e2⟩ := places_some hz
    obtain ⟨u1, u2⟩ := crs_uniq hb hr' (Course.mk hf hj e1.symm)
    refine dss_one (ds_retO 3 rfl rfl (.inl rfl) (DE.to (de_dgetO 2 rfl rfl (.inl rfl) (de_var 1 rfl rfl (.inl rfl)) hz) e2) ?_)
    show Out.rt _ = Out.rt _
    simp only
    rw [← u1, ← u2]

theorem sc_fate_of : FnScope ["base", "row", "found", "place"] ["base", "row"] (defScope s_fate_of) := ⟨rfl, rfl, rfl, by decide +kernel, rfl, by decide +kernel, by decide +kernel⟩
abbrev sp_fate_of (K : PySem.W.Frag) : Sp := spF (α := Int × List Int) (fun x => [.int x.1, tI x.2]) (fun x => Base x.1 ∧ Row x.1 x.2) (fun x => .rt (fateD x.1 x.2))
theorem ok_fate_of (T : Txt K mg) : Fc P w K mg base "fate_of" ["base", "row"] 5 (sp_fate_of K) := by
  refine fc_X (st := s_fate_of) T.d_fate_of T.g_fate_of sc_fate_of (fun _ => rfl) (by decide) (fun _ _ _ _ _ _ us hl => match us, hl with | [_, _], _ => rfl) fun cdv A outer s H E hr O y hd => ?_
  obtain ⟨b, r⟩ := y
  obtain ⟨hb, hr⟩ := hd
  simp only at hb hr
  have hle := crs_le hb hr
  refine dss_cons (ds_unp2 2 3 (de_f (b, r) (ok_course_of T) rfl (da_cons (de_var 0 rfl rfl (.inl rfl)) (da_cons (de_var 1 rfl rfl (.inl rfl)) da_nil)) ⟨hb, hr⟩ rfl) ?_ sc_fate_of.nd rfl rfl (.inl rfl) (.inl rfl))
  refine dss_one (ds_retd (de_tup (da_cons (de_var 3 rfl rfl (.inl rfl)) (da_cons (de_sub ?_ (de_var 3 rfl rfl (.inl rfl))) da_nil)) (by show 2 ≤ _; omega)) rfl)
  exact DE.to (de_lenL rfl T.n_len (de_var 2 rfl rfl (.inl rfl))) (by rw [rowsD_len])

theorem sc_circle_of : FnScope ["base", "row", "found", "place", "some", "first"] ["base", "row"] (defScope s_circle_of) := ⟨rfl, rfl, rfl, by decide +kernel, rfl, by decide +kernel, by decide +kernel⟩
abbrev sp_circle_of (K : PySem.W.Frag) : Sp := spF (α := Int × List Int) (fun x => [.int x.1, tI x.2]) (fun x => Base x.1 ∧ Row x.1 x.2) (fun x => .rt (circD x.1 x.2))
theorem ok_circle_of (T : Txt K mg) : Fc P w K mg base "circle_of" ["base", "row"] 5 (sp_circle_of K) := by
  refine fc_X (st := s_circle_of) T.d_circle_of T.g_circle_of sc_circle_of (fun _ => rfl) (by decide) (fun _ _ _ _ _ _ us hl => match us, hl with | [_, _], _ => rfl) fun cdv A outer s H E hr O y hd => ?_
  obtain ⟨b, r⟩ := y
  obtain ⟨hb, hr⟩ := hd
  simp only at hb hr
  have hle := crs_le hb hr
  have c := crs_ok hb hr
  have hlt := c.lt
  obtain ⟨i0, h1, h2, h3, x, ds, e, em⟩ := circ_ex hb hr
  have hlen : ((rowsD b r (crs b r).1).drop (crs b r).2).length = (crs b r).1 - (crs b r).2 := by rw [List.length_drop, rowsD_len]
  have har : AllRows (x :: ds) := e ▸ rows_drop
  refine dss_cons (ds_unp2 2 3 (de_f (b, r) (ok_course_of T) rfl (da_cons (de_var 0 rfl rfl (.inl rfl)) (da_cons (de_var 1 rfl rfl (.inl rfl)) da_nil)) ⟨hb, hr⟩ rfl) ?_ sc_circle_of.nd rfl rfl (.inl rfl) (.inl rfl))
  refine dss_cons (ds_setd 4 (d := .list (x :: ds)) (DE.to (de_slL (de_var 2 rfl rfl (.inl rfl)) (do_some (de_var 3 rfl rfl (.inl rfl))) do_none) (by rw [cutD_from (by show (crs b r).2 ≤ (rowsD b r (crs b r).1).length; rw [rowsD_len]; omega)]; exact congrArg PyData.list e)) ?_ sc_circle_of.nd rfl (.inl rfl))
  refine dss_cons (ds_setd 5 (d := .int ((i0 - (crs b r).2 : Nat) : Int)) (de_index (i0 - (crs b r).2) (d := tI (orb b r i0)) (z := tI (orb b r i0)) (Nat.lt_of_le_of_lt (Nat.add_le_add_left (by decide : 65 ≤ 100) _) (Ct.un _)) (de_var 4 rfl rfl (.inl rfl)) (DE.to (de_minR har rfl T.n_min (de_var 4 rfl rfl (.inl rfl))) em) (sh_rows har) (shT _) (by rw [← e, List.getElem?_drop, show (crs b r).2 + (i0 - (crs b r).2) = i0 by omega, rowsD_at h2]) (by rw [eqvT, decide_eq_true_eq]) (fun m z' hm hz => ?_)) ?_ sc_circle_of.nd rfl (.inl rfl))
  · rw [← e, List.getElem?_drop, rowsD_at (by omega)] at hz
    injection hz with hz
    rw [← hz, eqvT, decide_eq_false_iff_not]
    exact c.far _ _ (by omega) h2
  refine dss_one (ds_retd (d := circD b r) (DE.to (de_tupleL rfl T.n_tuple (de_catL (de_slL (de_var 4 rfl rfl (.inl rfl)) (do_some (de_var 5 rfl rfl (.inl rfl))) do_none) (de_slL (de_var 4 rfl rfl (.inl rfl)) do_none (do_some (de_var 5 rfl rfl (.inl rfl)))) ?_)) ?_) rfl)
  · rw [← e, cutD_from (by rw [hlen]; omega), cutD_to (by rw [hlen]; omega), ← List.length_append, circ_rot c h1 h2]
    unfold circR
    rw [List.length_map, List.length_range]
    omega
  · rw [← e, cutD_from (by rw [hlen]; omega), cutD_to (by rw [hlen]; omega), circ_rot c h1 h2, circD_eq (c.circ h1 h2 h3)]

noncomputable def fRound (K : PySem.W.Frag) (b v : PyData) : Out := match fNR K b v with
  | .rt _ => .rt (circD (unI b) (unT v))
  | o => o
theorem fRound_ok {b : Int} {ns : List Int} (hb : Base b) (h : Row b ns) : fRound K (.int b) (tI ns) = .rt (circD b ns) := by
  unfold fRound
  rw [fNR_ok hb h]
  show Out.rt (circD b (unT (tI ns))) = _
  rw [unT_tI]
theorem sc_round_of : FnScope ["base", "row"] ["base", "row"] (defScope s_round_of) := ⟨rfl, rfl, rfl, by decide +kernel, rfl, by decide +kernel, by decide +kernel⟩
abbrev sp_round_of (K : PySem.W.Frag) : Sp := spF (α := PyData × PyData) (fun x => [x.1, x.2]) (fun _ => True) (fun x => fRound K x.1 x.2)
theorem ok_round_of (T : Txt K mg) : Fc P w K mg base "round_of" ["base", "row"] 6 (sp_round_of K) := by
  refine fc_X (st := s_round_of) T.d_round_of T.g_round_of sc_round_of (fun _ => rfl) (by decide) (fun _ _ _ _ _ _ us hl => match us, hl with | [_, _], _ => rfl) fun cdv A outer s H E hr O y hd => ?_
  obtain ⟨b, v⟩ := y
  refine dss_cons (ds_call (b, v) (ok_need_row T) rfl (da_cons (de_var 0 rfl rfl (.inl rfl)) (da_cons (de_var 1 rfl rfl (.inl rfl)) da_nil)) trivial (thenR (fun c h => ?_) ?_))
  · have h' : fNR K b v = .ex c := h
    show Out.ex c = fRound K b v
    unfold fRound
    rw [h']
  rintro bi ns rfl rfl hb hr
  refine dss_one (ds_retd (de_f (bi, ns) (ok_circle_of T) rfl (da_cons (de_var 0 rfl rfl (.inl rfl)) (da_cons (de_var 1 rfl rfl (.inl rfl)) da_nil)) ⟨hb, hr⟩ rfl) ?_)
  exact (fRound_ok hb hr).symm

theorem sc_is_in_round : FnScope ["base", "row"] ["base", "row"] (defScope s_is_in_round) := ⟨rfl, rfl, rfl, by decide +kernel, rfl, by decide +kernel, by decide +kernel⟩
abbrev sp_is_in_round (K : PySem.W.Frag) : Sp := spF (α := PyData × PyData) (fun x => [x.1, x.2]) (fun _ => True) (fun x => fRow K (fun b ns => .rt (.bool (decide ((crs b ns).2 = 0)))) x.1 x.2)
theorem ok_is_in_round (T : Txt K mg) : Fc P w K mg base "is_in_round" ["base", "row"] 6 (sp_is_in_round K) := by
  refine fc_X (st := s_is_in_round) T.d_is_in_round T.g_is_in_round sc_is_in_round (fun _ => rfl) (by decide) (fun _ _ _ _ _ _ us hl => match us, hl with | [_, _], _ => rfl) fun cdv A outer s H E hr O y hd => ?_
  obtain ⟨b, v⟩ := y
  refine dss_cons (ds_call (b, v) (ok_need_row T) rfl (da_cons (de_var 0 rfl rfl (.inl rfl)) (da_cons (de_var 1 rfl rfl (.inl rfl)) da_nil)) trivial (thenR (fun c h => (fRow_ex h).symm) ?_))
  rintro bi ns rfl rfl hb hr
  refine dss_one (ds_retd (DE.to (de_eqI (x := ((crs bi ns).2 : Int)) (y := 0) (de_ixT (ds := [.int ((crs bi ns).2 : Int), .int (((crs bi ns).1 : Int) - (crs bi ns).2)]) (i := 0) (de_f (bi, ns) (ok_fate_of T) rfl (da_cons (de_var 0 rfl rfl (.inl rfl)) (da_cons (de_var 1 rfl rfl (.inl rfl)) da_nil)) ⟨hb, hr⟩ rfl) de_int rfl) de_int) ?_) (rowF hb hr rfl))
  congr 1
  rw [decide_eq_decide]
  omega

theorem sc_all_falling : FnScope ["base", "length", "found", "size", "longer", "row", "many", "digit", "more"] ["base", "length"] (defScope s_all_falling) := ⟨rfl, rfl, rfl, by decide +kernel, rfl, by decide +kernel, by decide +kernel⟩
abbrev sp_all_falling (K : PySem.W.Frag) : Sp := spF (α := Int × Nat) (fun x => [.int x.1, .int x.2]) (fun x => Base x.1 ∧ x.2 ≤ 8 ∧ x.1 ^ x.2 ≤ 10000) (fun x => .rt (.list (falD x.1 x.2)))
theorem ok_all_falling (T : Txt K mg) : Fc P w K mg base "all_falling" ["base", "length"] 1 (sp_all_falling K) := by
  refine fc_X (st := s_all_falling) T.d_all_falling T.g_all_falling sc_all_falling (fun _ => rfl) (by decide) (fun _ _ _ _ _ _ us hl => match us, hl with | [_, _], _ => rfl) fun cdv A outer s H E hr O y hd => ?_
  obtain ⟨b, n⟩ := y
  obtain ⟨hb, hn, hp⟩ := hd
  simp only at hb hn hp
  have b2 := hb.1
  have b12 := hb.2
  refine dss_cons (ds_setd 2 (d := .list (falD b 0)) (de_lst (da_cons (de_tup (da_cons (de_tup da_nil) (da_cons de_int da_nil)) (by show 2 ≤ _; omega)) da_nil) (by show 1 ≤ _; omega)) ?_ sc_all_falling.nd rfl (.inl rfl))
  refine dss_cons (ds_for (dit_range2 rfl T.n_range de_int (de_add (de_var 1 rfl rfl (.inl rfl)) de_int) (by simp only; omega)) (fun _ k ρ => ∃ s3 s4 s5 s6 s7 s8, ρ = [.dat (.int b), .dat (.int n), .dat (.list (falD b k)), s3, s4, s5, s6, s7, s8]) (fun _ _ => ⟨.no, .no, .no, .no, .no, .no, rfl⟩) (fun ds k d ρ' e hk _ => dg_name 3 sc_all_falling.nd rfl (.inl rfl)) ?_ ?_ (passes_of rfl))
  · rintro ds k d ρ' rfl hk ⟨s3, s4, s5, s6, s7, s8, rfl⟩
    have hk1 := (List.getElem?_eq_some_iff.mp hk).1
    rw [rangeD_len] at hk1
    have hk3 := rangeD_at (lo := 1) hk1
    rw [hk3] at hk
    injection hk with hk
    subst hk
    have hkn : k + 1 ≤ n := by simp only at hk1; omega
    have hpk : b ^ (k + 1) ≤ 10000 := Int.le_trans (pow_mono (by omega) hkn) hp
    have hlen1 := fal_len (b := b) (by omega) (k + 1)
    have hlenk : (falN b (k + 1)).length ≤ 10000 := by omega
    refine dss_cons (ds_newL 4 (fun q => ?_) sc_all_falling.nd rfl (by show 4 < 9; omega) (.inl rfl))
    refine dss_cons (ds_for (js := [5, 6]) (ρ1 := fun ρ' d => (ρ'.set 5 (.dat (fstD d))).set 6 (.dat (sndD d))) (dit_list (de_var 2 rfl rfl (.inl rfl))) (fun _ i ρ => ∃ s5 s6 s7 s8, ρ = [.dat (.int b), .dat (.int n), .dat (.list (falD b k)), .dat (.int (1 + (k : Nat))), .own q (((falN b k).take i).flatMap (extF b k) |>.map pairD), s5, s6, s7, s8]) (fun ds e => ⟨s5, s6, s7, s8, rfl⟩) ?_ ?_ ?_ (passes_of rfl))
    · rintro ds i d ρ' rfl hi _
      unfold falD at hi
      rw [List.getElem?_map] at hi
      cases hz : (falN b k)[i]? with
      | none => rw [hz] at hi; cases hi
      | some z =>
        rw [hz] at hi
        injection hi with hi
        subst hi
        exact dg_tup (dgs_cons (dg_name 5 sc_all_falling.nd rfl (.inl rfl)) (dgs_cons (dg_name 6 sc_all_falling.nd rfl (.inl rfl)) dgs_nil))
    · rintro ds i d ρ' rfl hi ⟨s5, s6, s7, s8, rfl⟩
      unfold falD at hi
      rw [List.getElem?_map] at hi
      cases hz : (falN b k)[i]? with
      | none => rw [hz] at hi; cases hi
      | some z =>
        rw [hz] at hi
        injection hi with hi
        subst hi
        have hfz := fal_ok (List.mem_of_getElem? hz)
        have htop := top_le hfz
        have htop0 := top_ge (by omega) hfz
        have hsum := flat_take_le (extF b k) (falN b k) (i + 1)
        rw [flat_take_succ _ hz, List.length_append, ext_len] at hsum
        have hsum2 : ((falN b k).flatMap (extF b k)).length ≤ 10000 := hlenk
        refine dss_one (ds_for (dit_range (i := topI b z.1) rfl T.n_range (de_ifd (k := !decide (z.1 = [])) (dt_neT (x := z.1) (y := []) (de_var 5 rfl rfl (.inl rfl)) (de_tup da_nil)) (fun h => DE.to (de_add (de_ixT (de_var 5 rfl rfl (.inl rfl)) (de_neg de_int) (atI_last (by simpa using h))) de_int) ?_) (fun h => DE.to (de_var 0 rfl rfl (.inl rfl)) ?_)) (by omega))
          (fun _ j ρ => ∃ s7 s8, ρ = [.dat (.int b), .dat (.int n), .dat (.list (falD b k)), .dat (.int (1 + (k : Nat))), .own q ((((falN b k).take i).flatMap (extF b k) ++ (extF b k z).take j).map pairD), .dat (tI z.1), .dat (.int z.2), s7, s8]) (fun ds e => ⟨s7, s8, by rw [List.take_zero, List.append_nil]; rfl⟩) (fun ds k d ρ' e hk _ => dg_name 7 sc_all_falling.nd rfl (.inl rfl)) ?_ ?_ (passes_of rfl))
        · unfold topI; rw [if_neg (by simpa using h)]
        · unfold topI; rw [if_pos (by simpa using h)]
        · rintro ds j d ρ' rfl hj ⟨s7, s8, rfl⟩
          have hj1 := (List.getElem?_eq_some_iff.mp hj).1
          rw [rangeD_len] at hj1
          have hj3 := rangeD_at (lo := 0) hj1
          rw [hj3] at hj
          injection hj with hj
          subst hj
          rw [show (0 : Int) + (j : Nat) = ((j : Nat) : Int) by omega]
          refine dss_more 8 5 7 6 3 4 (ns := z.1) (d := (j : Int)) (m := z.2) (s := 1 + (k : Nat)) rfl rfl rfl rfl rfl ⟨by decide, by decide, by decide, by decide⟩ (by show 8 < 9; omega) sc_all_falling.nd rfl rfl rfl rfl rfl rfl rfl (.inl rfl) (.inl rfl) (.inl rfl) (.inl rfl) (.inl rfl) (.inr (by omega)) (by rw [hfz.len]; omega) ?_ ?_
          · rw [List.length_map, List.length_append, List.length_take, ext_len]; omega
          · refine ⟨.dat (.int (j : Int)), .dat (tI (z.1 ++ [(j : Int)])), ?_⟩
            have et : (extF b k z).take (j + 1) = (extF b k z).take j ++ [(z.1 ++ [(j : Int)], z.2 * ((k : Int) + 1) / (((z.1 ++ [(j : Int)]).count (j : Int) : Nat) : Int))] := by
              rw [List.take_succ]
              unfold extF
              rw [List.getElem?_map, List.getElem?_range hj1]
              rfl
            rw [et, ← List.append_assoc, show (1 : Int) + (k : Nat) = (k : Int) + 1 by omega]
            simp only [List.map_append]
            rfl
        · rintro ds ρ' rfl ⟨s7, s8, rfl⟩
          refine ⟨.dat (tI z.1), .dat (.int z.2), s7, s8, ?_⟩
          rw [flat_take_succ _ hz, rangeD_len, ← ext_len b k z, List.take_length]
    · rintro ds ρ' rfl ⟨s5, s6, s7, s8, rfl⟩
      refine dss_frzL 4 rfl (dss_one (ds_setd 2 (de_var 4 rfl rfl (.inl rfl)) ⟨.dat (.int (1 + (k : Nat))), .dat (.list (falD b (k + 1))), s5, s6, s7, s8, ?_⟩ sc_all_falling.nd rfl (.inl rfl)))
      rw [falD_len, List.take_length]
      rfl
  · rintro ds ρ' rfl ⟨s3, s4, s5, s6, s7, s8, rfl⟩
    refine dss_one (ds_retd (de_var 2 rfl rfl (.inl rfl)) ?_)
    show Out.rt _ = Out.rt _
    rw [rangeD_len]
    simp only
    rw [show ((n : Int) + 1 - 1).toNat = n by omega]

theorem sc_all_circles : FnScope ["base", "length", "known", "circles", "start", "many", "row", "course", "place", "one", "number", "steps"] ["base", "length"] (defScope s_all_circles) := ⟨rfl, rfl, rfl, by decide +kernel, rfl, by decide +kernel, by decide +kernel⟩
abbrev sp_all_circles (K : PySem.W.Frag) : Sp := spX (α := Int × Nat) (fun x => [.int x.1, .int x.2]) (fun x => Base x.1 ∧ (1 ≤ x.2 ∧ x.2 ≤ 8) ∧ x.1 ^ x.2 ≤ 10000) (fun x o => ∃ cs kv, AllC x.1 x.2 cs kv ∧ o = .rt (.tuple [.list (cs.map (cirD x.1)), dctD (kvD kv)]))
theorem ok_all_circles (T : Txt K mg) : Fc P w K mg base "all_circles" ["base", "length"] 4 (sp_all_circles K) := by
  refine fc_X (st := s_all_circles) T.d_all_circles T.g_all_circles sc_all_circles (fun _ => rfl) (by decide) (fun _ _ _ _ _ _ us hl => match us, hl with | [_, _], _ => rfl) fun cdv A outer s H E hr O y hd => ?_
  obtain ⟨b, n⟩ := y
  obtain ⟨hb, hn, hp⟩ := hd
  simp only at hb hn hp
  have b1 : 1 ≤ b := by have := hb.1; omega
  refine dss_cons (ds_newDL 2 3 (fun q p hqp => ?_) sc_all_circles.nd rfl rfl (by decide) (by show 2 < 12; omega) (by show 3 < 12; omega) rfl rfl rfl)
  refine dss_cons (ds_for (js := [4, 5]) (ρ1 := fun ρ' d => (ρ'.set 4 (.dat (fstD d))).set 5 (.dat (sndD d))) (dit_list (de_f (b, n) (ok_all_falling T) rfl (da_cons (de_var 0 rfl rfl (.inl rfl)) (da_cons (de_var 1 rfl rfl (.inl rfl)) da_nil)) ⟨hb, hn.2, hp⟩ rfl))
    (fun _ i ρ => ∃ cs kv s4 s5 s6 s7 s8 s9 s10 s11, KOk b n cs kv ∧ (∀ z ∈ (falN b n).take i, stepI b z.1 ∈ keysK kv) ∧ ρ = [.dat (.int b), .dat (.int n), .dic q (kvD kv), .own p (cs.map (cirD b)), s4, s5, s6, s7, s8, s9, s10, s11]) (fun _ _ => ⟨[], [], .no, .no, .no, .no, .no, .no, .no, .no, KOk.nil b n, (fun z hz => by rw [List.take_zero] at hz; cases hz), rfl⟩) ?_ ?_ ?_ (passes_of rfl))
  · rintro ds i d ρ' rfl hi _
    simp only at hi
    unfold falD at hi
    rw [List.getElem?_map] at hi
    cases hz : (falN b n)[i]? with
    | none => rw [hz] at hi; cases hi
    | some z =>
      rw [hz] at hi
      injection hi with hi
      subst hi
      exact dg_tup (dgs_cons (dg_name 4 sc_all_circles.nd rfl (.inl rfl)) (dgs_cons (dg_name 5 sc_all_circles.nd rfl (.inl rfl)) dgs_nil))
  · rintro ds i d ρ' rfl hi ⟨cs, kv, s4, s5, s6, s7, s8, s9, s10, s11, hK, hA, rfl⟩
    simp only at hi
    unfold falD at hi
    rw [List.getElem?_map] at hi
    cases hz : (falN b n)[i]? with
    | none => rw [hz] at hi; cases hi
    | some z =>
    rw [hz] at hi
    injection hi with hi
    subst hi
    have hfz := fal_ok (List.mem_of_getElem? hz)
    have hrz := hfz.row hn.1 hn.2
    obtain ⟨r0, hr0⟩ : ∃ r0, stepI b z.1 = r0 := ⟨_, rfl⟩
    have hr0r : Row b r0 := hr0 ▸ hrz.step b1
    have hr0l : r0.length = n := by rw [← hr0, stepI_len]; exact hfz.len
    have hbnd := hK.bound hb hp
    refine dss_cons (ds_newVL 6 7 (d := tI r0) (de_f (b, z.1) (ok_stepped T) rfl (da_cons (de_var 0 rfl rfl (.inl rfl)) (da_cons (de_var 4 rfl rfl (.inl rfl)) da_nil)) ⟨hb, hrz⟩ (by rw [hr0])) (fun c => ?_) sc_all_circles.nd rfl rfl (by decide) (by show 7 < 12; omega) rfl rfl rfl)
    refine dss_cons (ds_while (I := fun m ρ => ∃ k c, m = 20738 - k ∧ Far b r0 k ∧ (∀ i, i < k → orb b r0 i ∉ keysK kv) ∧ ρ = [.dat (.int b), .dat (.int n), .dic q (kvD kv), .own p (cs.map (cirD b)), .dat (tI z.1), .dat (.int z.2), .dat (tI (orb b r0 k)), .own c (rowsD b r0 k), s8, s9, s10, s11]) 20738 ⟨0, c, rfl, fun i j _ hj => absurd hj (Nat.not_lt_zero _), fun i hi => absurd hi (Nat.not_lt_zero _), rfl⟩
      (B := fun m ρ t => ∃ k c, m = 20738 - k ∧ Far b r0 k ∧ (∀ i, i < k → orb b r0 i ∉ keysK kv) ∧ ρ = [.dat (.int b), .dat (.int n), .dic q (kvD kv), .own p (cs.map (cirD b)), .dat (tI z.1), .dat (.int z.2), .dat (tI (orb b r0 k)), .own c (rowsD b r0 k), s8, s9, s10, s11] ∧ t = (!decide (orb b r0 k ∈ keysK kv) && !(rowsD b r0 k).any fun z => PyData.eqv z (tI (orb b r0 k)))) ?_ ?_ ?_ (passes_of rfl))
    · rintro m ρ' ⟨k, c, rfl, hf, hno, rfl⟩
      refine DT.imp (dt_w (dw_and (DT.to (dt_notInO 2 rfl rfl (.inl rfl) (de_var 6 rfl rfl (.inl rfl))) (by rw [kv_dec])) fun _ => dw_and1 (dt_view 7 rfl (dt_cmp (op_notInD (Nat.lt_of_le_of_lt (Nat.add_le_add_left (by decide : 65 ≤ 100) _) (Ct.un _))) rfl (de_var 6 rfl rfl (.inl rfl)) (de_var 7 rfl rfl (.inl rfl)) (rb_niL (shT _) (sh_rows (rows_all b r0 k))))))) fun t e => ⟨k, c, rfl, hf, hno, rfl, e⟩
    · rintro m ρ' - ⟨k, c, rfl, hf, hno, rfl, ht⟩
      obtain ⟨t1, t2⟩ := Bool.and_eq_true_iff.mp ht.symm
      have t1 : orb b r0 k ∉ keysK kv := by simpa using t1
      have t2 : ¬ ∃ i, i < k ∧ orb b r0 i = orb b r0 k := fun h => by rw [(rows_any b r0 (orb b r0 k) k).mpr h] at t2; cases t2
      have hf1 : Far b r0 (k + 1) := fun i j hij hj e => by
        rcases Nat.lt_or_ge j k with h | h
        · exact hf i j hij h e
        · have : j = k := by omega
          subst this
          exact t2 ⟨i, hij, e⟩
      have hbd := far_bound hb hr0r hf1
      refine dss_cons (ds_appendO 7 rfl rfl (.inl rfl) (de_var 6 rfl rfl (.inl rfl)) (by rw [rowsD_len]; omega) ?_)
      refine dss_one (ds_setd 6 (de_f (b, orb b r0 k) (ok_stepped T) rfl (da_cons (de_var 0 rfl rfl (.inl rfl)) (da_cons (de_var 6 rfl rfl (.inl rfl)) da_nil)) ⟨hb, orb_row b1 hr0r k⟩ rfl) ⟨20738 - (k + 1), by omega, k + 1, c, rfl, hf1, fun i hi => ?_, ?_⟩ sc_all_circles.nd rfl (.inl rfl))
      · rcases Nat.lt_or_ge i k with h | h
        · exact hno i h
        · have : i = k := by omega
          subst this
          exact t1
      · rw [rowsD_succ]
        rfl
    rintro m ρ' - ⟨k, c, rfl, hf, hno, rfl, ht⟩
    have hbd := far_bound hb hr0r hf
    refine dss_frzL 7 rfl ?_
    refine dss_ifQ (k := !decide (orb b r0 k ∈ keysK kv)) (I := fun ρ => ∃ cs' kv' k' s8 s9, KOk b n cs' kv' ∧ (∀ x ∈ keysK kv, x ∈ keysK kv') ∧ orb b r0 k' ∈ keysK kv' ∧ (∀ i, i < k' → orb b r0 i ∉ keysK kv') ∧ Far b r0 k' ∧ ρ = [.dat (.int b), .dat (.int n), .dic q (kvD kv'), .own p (cs'.map (cirD b)), .dat (tI z.1), .dat (.int z.2), .dat (tI (orb b r0 k)), .dat (.list (rowsD b r0 k')), s8, s9, s10, s11])
      (DT.to (dt_notInO 2 rfl rfl (.inl rfl) (de_var 6 rfl rfl (.inl rfl))) (by rw [kv_dec])) (fun h F' hF' => ?_) (fun h => ⟨cs, kv, k, s8, s9, hK, fun x hx => hx, by simpa using h, hno, hf, rfl⟩) ?_
    · have hk : orb b r0 k ∉ keysK kv := by simpa using h
      have t2 : ((rowsD b r0 k).any fun z => PyData.eqv z (tI (orb b r0 k))) = true := by
        rw [h, Bool.true_and] at ht
        cases e : (rowsD b r0 k).any fun z => PyData.eqv z (tI (orb b r0 k)) with
        | true => rfl
        | false => rw [e] at ht; cases ht
      obtain ⟨j, hj, ej⟩ := (rows_any b r0 (orb b r0 k) k).mp t2
      have hC : Course b r0 k j := ⟨hf, hj, ej.symm⟩
      refine dss_cons (ds_setd 8 (d := .int (j : Int)) (de_index j (d := tI (orb b r0 k)) (z := tI (orb b r0 j)) (Nat.lt_of_le_of_lt (Nat.add_le_add_left (by decide : 65 ≤ 100) _) (Ct.un _)) (de_var 7 rfl rfl (.inl rfl)) (de_var 6 rfl rfl (.inl rfl)) (sh_rows (rows_all b r0 k)) (shT _) (rowsD_at hj) (by rw [eqvT, ej]; exact decide_eq_true rfl) (fun m z' hm hz' => ?_)) ?_ sc_all_circles.nd rfl (.inl rfl))
      · obtain ⟨_, rfl⟩ := rowsD_ofNat hz'
        rw [eqvT, decide_eq_false_iff_not, ← ej]
        exact hf m j hm hj
      refine dss_cons (ds_for (dit_list (ds := (rowsD b r0 k).drop j) (DE.to (de_slL (de_var 7 rfl rfl (.inl rfl)) (do_some (de_var 8 rfl rfl (.inl rfl))) do_none) (by rw [cutD_from (by rw [rowsD_len]; omega)]))) (fun _ i ρ => ∃ s9, ρ = [.dat (.int b), .dat (.int n), .dic q (kvD (kv ++ (newK b r0 cs.length j k).take i)), .own p (cs.map (cirD b)), .dat (tI z.1), .dat (.int z.2), .dat (tI (orb b r0 k)), .dat (.list (rowsD b r0 k)), .dat (.int (j : Int)), s9, s10, s11]) (fun _ _ => ⟨s9, by rw [List.take_zero, List.append_nil]; rfl⟩) (fun ds k d ρ' e hk _ => dg_name 9 sc_all_circles.nd rfl (.inl rfl)) ?_ ?_ (passes_of rfl))
      · rintro ds i d ρ' rfl hi ⟨s9, rfl⟩
        rw [List.getElem?_drop] at hi
        obtain ⟨hi1, rfl⟩ := rowsD_ofNat hi
        refine dss_one (ds_dputO 2 rfl rfl (.inl rfl) (d := .tuple [.int (cs.length : Int), .int 0]) (by
          refine de_tup (da_cons ?_ (da_cons de_int da_nil)) (by show 2 ≤ _; omega)
          exact DE.to (de_lenO 3 rfl rfl (.inl rfl) rfl T.n_len) (by rw [List.length_map])) (de_var 9 rfl rfl (.inl rfl)) (kv_none fun hm => ?_) ?_ ⟨.dat (tI (orb b r0 (j + i))), ?_⟩)
        · rw [keysK_app] at hm
          rcases List.mem_append.mp hm with h1 | h1
          · exact hno _ hi1 h1
          · obtain ⟨i', h2, _, h3⟩ := newK_mem h1
            exact hf (j + i') (j + i) (by omega) hi1 h3.symm
        · rw [kvD_len, List.length_append, List.length_take]; omega
        · rw [newK_take _ _ _ _ _ _ (by omega), ← List.append_assoc, kvD_app (kv ++ _)]
          rfl
      rintro ds ρ' rfl ⟨s9', rfl⟩
      rw [List.length_drop, rowsD_len, ← newK_len b r0 cs.length j k, List.take_length]
      have hcl := hK.cl
      refine dss_cons (ds_appendO 3 rfl rfl (.inl rfl) (d := cirD b (orb b r0 j, k - j)) (DE.to (de_slL (de_var 7 rfl rfl (.inl rfl)) (do_some (de_var 8 rfl rfl (.inl rfl))) do_none) (by rw [cutD_from (by rw [rowsD_len]; omega), rows_circR b r0 (by omega)]; rfl)) (by rw [List.length_map]; omega) ?_)
      refine dss_one (ds_setd 7 (d := .list (rowsD b r0 j)) (DE.to (de_slL (de_var 7 rfl rfl (.inl rfl)) do_none (do_some (de_var 8 rfl rfl (.inl rfl)))) (by rw [cutD_to (by rw [rowsD_len]; omega), rows_take b r0 (by omega)])) ?_ sc_all_circles.nd rfl (.inl rfl))
      refine hF' _ ⟨cs ++ [(orb b r0 j, k - j)], kv ++ newK b r0 cs.length j k, j, .dat (.int (j : Int)), s9', hK.round hb hr0r hr0l hC hno, fun x hx => by rw [keysK_app]; exact List.mem_append_left _ hx, ?_, fun i hi hm => ?_, fun i i' h1 h2 => hf i i' h1 (by omega), ?_⟩
      · exact ((hK.round hb hr0r hr0l hC hno).cyc (orb b r0 j, k - j) (by simp)).2.2.2
      · rw [keysK_app] at hm
        rcases List.mem_append.mp hm with h1 | h1
        · exact hno i (by omega) h1
        · rw [newK_keys] at h1
          obtain ⟨i', h2, h3⟩ := List.mem_map.mp h1
          have h2 := List.mem_range.mp h2
          exact hf i (j + i') (by omega) (by omega) h3.symm
      · rw [List.map_append]
        rfl
    rintro ρ ⟨cs', kv', k', s8', s9', hK', hsub, hk', hno', hfar, rfl⟩
    have hbnd' := hK'.bound hb hp
    refine dss_one (ds_for (dit_revL rfl T.n_reversed (de_var 7 rfl rfl (.inl rfl))) (fun _ i ρ => ∃ kv'' s9 s10 s11, KOk b n cs' kv'' ∧ (∀ x ∈ keysK kv', x ∈ keysK kv'') ∧ orb b r0 (k' - i) ∈ keysK kv'' ∧ (∀ i', i' < k' - i → orb b r0 i' ∉ keysK kv'') ∧ ρ = [.dat (.int b), .dat (.int n), .dic q (kvD kv''), .own p (cs'.map (cirD b)), .dat (tI z.1), .dat (.int z.2), .dat (tI (orb b r0 k)), .dat (.list (rowsD b r0 k')), s8', s9, s10, s11]) (fun _ _ => ⟨kv', s9', s10, s11, hK', fun x hx => hx, hk', hno', rfl⟩) (fun ds k d ρ' e hk _ => dg_name 9 sc_all_circles.nd rfl (.inl rfl)) ?_ ?_ (passes_of rfl))
    · rintro ds i d ρ' rfl hi ⟨kv'', t9, t10, t11, hK2, hsub2, hk2, hno2, rfl⟩
      have hi1 := (List.getElem?_eq_some_iff.mp hi).1
      rw [List.length_reverse, rowsD_len] at hi1
      rw [List.getElem?_reverse (by rw [rowsD_len]; exact hi1), rowsD_len] at hi
      obtain ⟨_, rfl⟩ := rowsD_ofNat hi
      have hst : stepI b (orb b r0 (k' - 1 - i)) = orb b r0 (k' - i) := by rw [show k' - i = k' - 1 - i + 1 by omega]; rfl
      obtain ⟨y, hy, ey, hz2⟩ := kv_some hk2
      have hrow2 := orb_row b1 hr0r (k' - 1 - i)
      have hnew := hno2 (k' - 1 - i) (by omega)
      have hbnd2 := hK2.bound hb hp
      refine dss_cons (ds_unp2 10 11 (d := .int (y.2.1 : Int)) (d' := .int (y.2.2 : Int)) (DE.to (de_dgetO (z := (y.1, PyData.tuple [.int (y.2.1 : Int), .int (y.2.2 : Int)])) 2 rfl rfl (.inl rfl) (de_f (b, orb b r0 (k' - 1 - i)) (ok_stepped T) rfl (da_cons (de_var 0 rfl rfl (.inl rfl)) (da_cons (de_var 9 rfl rfl (.inl rfl)) da_nil)) ⟨hb, hrow2⟩ (by rw [hst])) hz2) rfl) ?_ sc_all_circles.nd rfl rfl (.inl rfl) (.inl rfl))
      refine dss_one (ds_dputO 2 rfl rfl (.inl rfl) (d := .tuple [.int (y.2.1 : Int), .int (y.2.2 + 1 : Nat)]) (de_tup (da_cons (de_var 10 rfl rfl (.inl rfl)) (da_cons (DE.to (de_add (de_var 11 rfl rfl (.inl rfl)) de_int) (by rw [Int.natCast_add]; rfl)) da_nil)) (by show 2 ≤ _; omega)) (de_var 9 rfl rfl (.inl rfl)) (kv_none hnew) (by rw [kvD_len]; omega) ⟨kv'' ++ [(orb b r0 (k' - 1 - i), y.2.1, y.2.2 + 1)], .dat (tI (orb b r0 (k' - 1 - i))), .dat (.int (y.2.1 : Int)), .dat (.int (y.2.2 : Int)), hK2.add hb hrow2 (by rw [orb_len]; exact hr0l) hnew hy (by rw [ey, hst]), fun x hx => by rw [keysK_app]; exact List.mem_append_left _ (hsub2 x hx), ?_, fun i' hi' hm => ?_, ?_⟩)
      · rw [keysK_app]
        exact List.mem_append_right _ (by rw [show k' - (i + 1) = k' - 1 - i by omega]; exact List.mem_singleton.mpr rfl)
      · rw [keysK_app] at hm
        rcases List.mem_append.mp hm with h1 | h1
        · exact hno2 i' (by omega) h1
        · have h1 : orb b r0 i' = orb b r0 (k' - 1 - i) := List.mem_singleton.mp h1
          exact hfar i' (k' - 1 - i) (by omega) (by omega) h1
      · rw [kvD_app]
        rfl
    · rintro ds ρ' rfl ⟨kv'', t9, t10, t11, hK2, hsub2, hk2, hno2, rfl⟩
      rw [List.length_reverse, rowsD_len, Nat.sub_self] at hk2
      refine ⟨cs', kv'', .dat (tI z.1), .dat (.int z.2), .dat (tI (orb b r0 k)), .dat (.list (rowsD b r0 k')), s8', t9, t10, t11, hK2, fun w hw => ?_, rfl⟩
      rw [List.take_succ, hz] at hw
      rcases List.mem_append.mp hw with h1 | h1
      · exact hsub2 _ (hsub _ (hA w h1))
      · have h1 : w = z := by simpa using h1
        rw [h1, hr0]
        exact hk2
  · rintro ds ρ' rfl ⟨cs, kv, s4, s5, s6, s7, s8, s9, s10, s11, hK, hA, rfl⟩
    refine dss_frzD 2 rfl (dss_frzL 3 rfl ?_)
    refine dss_one (ds_retd (de_tup (da_cons (de_var 3 rfl rfl (.inl rfl)) (da_cons (de_var 2 rfl rfl (.inl rfl)) da_nil)) (by show 2 ≤ _; omega)) ⟨cs, kv, ⟨hK, fun z hz => hA z ?_⟩, rfl⟩)
    simp only
    rw [falD_len, List.take_length]
    exact hz

theorem sc_turned : FnScope ["some", "first"] ["some"] (defScope s_turned) := ⟨rfl, rfl, rfl, by decide +kernel, rfl, by decide +kernel, by decide +kernel⟩
abbrev sp_turned (K : PySem.W.Frag) : Sp := spF (α := Int × List Int × Nat) (fun x => [cirD x.1 x.2]) (fun x => Base x.1 ∧ Row x.1 x.2.1 ∧ Cyc x.1 x.2.1 x.2.2) (fun x => .rt (circD x.1 x.2.1))
theorem ok_turned (T : Txt K mg) : Fc P w K mg base "turned" ["some"] 1 (sp_turned K) := by
  refine fc_X (st := s_turned) T.d_turned T.g_turned sc_turned (fun _ => rfl) (by decide) (fun _ _ _ _ _ _ us hl => match us, hl with | [_], _ => rfl) fun cdv A outer s H E hr O y hd => ?_
  obtain ⟨b, m, L⟩ := y
  obtain ⟨hb, hr', c⟩ := hd
  simp only at hb hr' c
  have hc := c.crs hb hr'
  obtain ⟨i0, h1, h2, h3, x, ds, e, em⟩ := circ_ex hb hr'
  rw [hc] at h1 h2 h3 e
  simp only at h1 h2 h3 e
  have eC : circR b m L = x :: ds := by
    have := rows_circR b m (j := 0) (k := L) (Nat.zero_le _)
    rw [← e, this]
    rfl
  have e0 : cirD b (m, L) = .list (x :: ds) := by unfold cirD; rw [← eC]
  have hlen : (x :: ds).length = L := by rw [← eC, circR_len]
  have har : AllRows (x :: ds) := eC ▸ circR_rows
  have at_ : ∀ i, i < L → (x :: ds)[i]? = some (tI (orb b m i)) := fun i hi => by
    rw [← e, List.getElem?_drop, Nat.zero_add, rowsD_at hi]
  have cc : Course b m L 0 := c.far
  have hf : DSs (fnC P w K mg base ["some", "first"] "turned" (defScope s_turned) (He.ga K "turned") cdv A outer s H E 0 hr O) (outF fun o => o = Out.rt (circD b m)) [.dat (.list (x :: ds)), .no] (defBody s_turned) := by
    refine dss_cons (ds_setd 1 (d := .int (i0 : Int)) (de_index i0 (d := tI (orb b m i0)) (z := tI (orb b m i0)) (Nat.lt_of_le_of_lt (Nat.add_le_add_left (by decide : 65 ≤ 100) _) (Ct.un _)) (de_var 0 rfl rfl (.inl rfl)) (DE.to (de_minR har rfl T.n_min (de_var 0 rfl rfl (.inl rfl))) em) (sh_rows har) (shT _) (at_ i0 h2) (by rw [eqvT, decide_eq_true_eq]) (fun k z' hk hz => ?_)) ?_ sc_turned.nd rfl (.inl rfl))
    · rw [at_ k (by omega)] at hz
      injection hz with hz
      rw [← hz, eqvT, decide_eq_false_iff_not]
      exact cc.far _ _ hk h2
    have hrot : (x :: ds).drop i0 ++ (x :: ds).take i0 = circR b (orb b m i0) L := by
      have := circ_rot cc (Nat.zero_le i0) h2
      rw [e, Nat.sub_zero, Nat.sub_zero] at this
      exact this
    refine dss_one (ds_retd (d := circD b m) (DE.to (de_tupleL rfl T.n_tuple (de_catL (de_slL (de_var 0 rfl rfl (.inl rfl)) (do_some (de_var 1 rfl rfl (.inl rfl))) do_none) (de_slL (de_var 0 rfl rfl (.inl rfl)) do_none (do_some (de_var 1 rfl rfl (.inl rfl)))) ?_)) ?_) rfl)
    · rw [cutD_from (by rw [hlen]; omega), cutD_to (by rw [hlen]; omega), ← List.length_append, hrot, circR_len]
      have := crs_le hb hr'
      rw [hc] at this
      have this : L ≤ 20737 := this
      omega
    · rw [cutD_from (by rw [hlen]; omega), cutD_to (by rw [hlen]; omega), hrot, circD_eq (cc.circ (Nat.zero_le _) h2 h3)]
      rfl
  show DSs _ _ [.dat (cirD b (m, L)), .no] _
  rw [e0]
  exact hf

theorem sc_rounds : FnScope ["base", "length", "some"] ["base", "length"] (defScope s_rounds) := ⟨rfl, rfl, rfl, by decide +kernel, rfl, by decide +kernel, by decide +kernel⟩
abbrev sp_rounds (K : PySem.W.Frag) : Sp := spF (α := PyData × PyData) (fun x => [x.1, x.2]) (fun _ => True) (fun x => fTab K (fun b n => .rt (.tuple (roundsL b n))) x.1 x.2)
theorem ok_rounds (T : Txt K mg) : Fc P w K mg base "rounds" ["base", "length"] 5 (sp_rounds K) := by
  refine fc_X (st := s_rounds) T.d_rounds T.g_rounds sc_rounds (fun _ => rfl) (by decide) (fun _ _ _ _ _ _ us hl => match us, hl with | [_, _], _ => rfl) fun cdv A outer s H E hr O y hd => ?_
  obtain ⟨b, v⟩ := y
  refine dss_cons (ds_call (b, v) (ok_need_both T) rfl (da_cons (de_var 0 rfl rfl (.inl rfl)) (da_cons (de_var 1 rfl rfl (.inl rfl)) da_nil)) trivial (thenB (fun c h => (fTab_ex h).symm) ?_))
  rintro bi n rfl rfl hs
  have hb := hs.hb
  refine dss_one (ds_retd (d := .tuple (roundsL bi n)) (de_tupleL rfl T.n_tuple ?_) (by show Out.rt _ = fTab K _ (.int bi) (.int (n : Int)); rw [fTab_ok hs]))
  refine de_sortLP (Pd := fun ds => ∃ cs kv, AllC bi n cs kv ∧ ds = rdsL bi cs) (Ct.un _) rfl T.n_sorted ?_ ?_
  · refine DE.imp (de_lcG (js := [2]) (Pd := fun ds => ∃ cs kv, AllC bi n cs kv ∧ ds = cs.map (cirD bi)) (ρ1 := fun d => [.dat (.int bi), .dat (.int n), .dat d]) (fun _ => true) (fun d e => e = circD bi (headR d)) sc_rounds.nd (blkOk_by (own := [("some", 2)]) (by show blkC ["base", "length", "some"] (defScope s_rounds) _ _ = true; decide +kernel)) (dit_listG ?_) ?_ ?_ (by decide) (fun a => rfl)) ?_
    · refine de_ixTP (i := 0) (Pa := fun d => ∃ cs kv, AllC bi n cs kv ∧ d = .tuple [.list (cs.map (cirD bi)), dctD (kvD kv)]) ?_ de_int ?_
      · exact de_cx (bi, n) (ok_all_circles T) (Nat.le_of_ble_eq_true rfl) rfl (da_cons (de_var 0 rfl rfl (.inl rfl)) (da_cons (de_var 1 rfl rfl (.inl rfl)) da_nil)) ⟨hb, hs.hn, hs.hp⟩ (fun d ⟨cs, kv, h1, h2⟩ => ⟨cs, kv, h1, by injection h2⟩) (fun c ⟨cs, kv, h1, h2⟩ => by cases h2)
      · rintro x ⟨cs, kv, h1, rfl⟩
        exact ⟨_, _, rfl, rfl, _, rfl, cs, kv, h1, rfl⟩
    · rintro ds ⟨cs, kv, h1, rfl⟩
      have h2 := h1.ok.bound hb hs.hp
      have h3 := h1.ok.cl
      rw [List.length_map]; omega
    · rintro ds ⟨cs, kv, h1, rfl⟩ k d hk s H Cc cl fp O' le'
      obtain ⟨c, hc, rfl⟩ := cs_at hk
      obtain ⟨g1, g2, g3, _⟩ := h1.ok.cyc c (List.mem_of_getElem? hc)
      refine ⟨fun a => rfl, dg_name 2 sc_rounds.nd rfl (.inl rfl), dts_nil, fun _ => ?_⟩
      exact de_f (bi, c) (ok_turned T) rfl (da_cons (de_var 2 rfl rfl (.inl rfl)) da_nil) ⟨hb, g1, g3⟩ (by rw [head_cirD g3.pos])
    · rintro d ⟨ds, es, ⟨cs, kv, h1, rfl⟩, mk, rfl⟩
      unfold Made at mk
      rw [List.filter_eq_self.mpr (fun _ _ => rfl)] at mk
      exact ⟨_, rfl, cs, kv, h1, by rw [paired_map mk, h1.heads]⟩
  · rintro ds ⟨cs, kv, h1, rfl⟩
    exact ⟨can_rounds (h1.rds_T hb), by rw [h1.sort hb hs.hn]⟩

theorem sc_fixed_rows : FnScope ["base", "length", "some"] ["base", "length"] (defScope s_fixed_rows) := ⟨rfl, rfl, rfl, by decide +kernel, rfl, by decide +kernel, by decide +kernel⟩
abbrev sp_fixed_rows (K : PySem.W.Frag) : Sp := spF (α := PyData × PyData) (fun x => [x.1, x.2]) (fun _ => True) (fun x => fTab K (fun b n => .rt (.tuple (fixedL b n))) x.1 x.2)
theorem ok_fixed_rows (T : Txt K mg) : Fc P w K mg base "fixed_rows" ["base", "length"] 5 (sp_fixed_rows K) := by
  refine fc_X (st := s_fixed_rows) T.d_fixed_rows T.g_fixed_rows sc_fixed_rows (fun _ => rfl) (by decide) (fun _ _ _ _ _ _ us hl => match us, hl with | [_, _], _ => rfl) fun cdv A outer s H E hr O y hd => ?_
  obtain ⟨b, v⟩ := y
  refine dss_cons (ds_call (b, v) (ok_need_both T) rfl (da_cons (de_var 0 rfl rfl (.inl rfl)) (da_cons (de_var 1 rfl rfl (.inl rfl)) da_nil)) trivial (thenB (fun c h => (fTab_ex h).symm) ?_))
  rintro bi n rfl rfl hs
  have hb := hs.hb
  refine dss_one (ds_retd (d := .tuple (fixedL bi n)) (de_tupleL rfl T.n_tuple ?_) (by show Out.rt _ = fTab K _ (.int bi) (.int (n : Int)); rw [fTab_ok hs]))
  refine de_sortLP (Pd := fun ds => ∃ cs kv, AllC bi n cs kv ∧ ds = ((cs.map (cirD bi)).filter fun d => decide (lenD d = 1)).map fun d => tI (headR d)) (Ct.un _) rfl T.n_sorted ?_ ?_
  · refine DE.imp (de_lcG (js := [2]) (Pd := fun ds => ∃ cs kv, AllC bi n cs kv ∧ ds = cs.map (cirD bi)) (ρ1 := fun d => [.dat (.int bi), .dat (.int n), .dat d]) (fun d => decide (lenD d = 1)) (fun d e => e = tI (headR d)) sc_fixed_rows.nd (blkOk_by (own := [("some", 2)]) (by show blkC ["base", "length", "some"] (defScope s_fixed_rows) _ _ = true; decide +kernel)) (dit_listG ?_) ?_ ?_ (by decide) (fun a => rfl)) ?_
    · refine de_ixTP (i := 0) (Pa := fun d => ∃ cs kv, AllC bi n cs kv ∧ d = .tuple [.list (cs.map (cirD bi)), dctD (kvD kv)]) ?_ de_int ?_
      · exact de_cx (bi, n) (ok_all_circles T) (Nat.le_of_ble_eq_true rfl) rfl (da_cons (de_var 0 rfl rfl (.inl rfl)) (da_cons (de_var 1 rfl rfl (.inl rfl)) da_nil)) ⟨hb, hs.hn, hs.hp⟩ (fun d ⟨cs, kv, h1, h2⟩ => ⟨cs, kv, h1, by injection h2⟩) (fun c ⟨cs, kv, h1, h2⟩ => by cases h2)
      · rintro x ⟨cs, kv, h1, rfl⟩
        exact ⟨_, _, rfl, rfl, _, rfl, cs, kv, h1, rfl⟩
    · rintro ds ⟨cs, kv, h1, rfl⟩
      have h2 := h1.ok.bound hb hs.hp
      have h3 := h1.ok.cl
      rw [List.length_map]; omega
    · rintro ds ⟨cs, kv, h1, rfl⟩ k d hk s H Cc cl fp O' le'
      obtain ⟨c, hc, rfl⟩ := cs_at hk
      obtain ⟨g1, g2, g3, _⟩ := h1.ok.cyc c (List.mem_of_getElem? hc)
      obtain ⟨ds', e⟩ := circR_cons bi c.1 g3.pos
      refine ⟨fun a => rfl, dg_name 2 sc_fixed_rows.nd rfl (.inl rfl), dts_one (DT.to (dt_eqI (x := (c.2 : Int)) (y := 1) (DE.to (de_lenL (ds := circR bi c.1 c.2) rfl T.n_len (de_var 2 rfl rfl (.inl rfl))) (by rw [circR_len])) de_int) ?_), fun _ => ?_⟩
      · show decide ((c.2 : Int) = 1) = decide (lenD (cirD bi c) = 1)
        rw [len_cirD, decide_eq_decide]; omega
      · refine de_ixL (ds := circR bi c.1 c.2) (i := 0) (de_var 2 rfl rfl (.inl rfl)) de_int ?_
        rw [head_cirD g3.pos, e]
        exact atI_head _ _
    · rintro d ⟨ds, es, ⟨cs, kv, h1, rfl⟩, mk, rfl⟩
      unfold Made at mk
      exact ⟨_, rfl, cs, kv, h1, by rw [paired_map mk]⟩
  · rintro ds ⟨cs, kv, h1, rfl⟩
    obtain ⟨f1, f2⟩ := h1.fixed hb hs.hn
    exact ⟨f2, by rw [f1]⟩

def anyI : PyData → Prop := fun d => ∃ i, d = .int i
/-! ## _law_cell -/
theorem sc__law_cell : FnScope ["_law_script", "_law_k"] ["_law_script", "_law_k"] (defScope s__law_cell) := ⟨rfl, rfl, rfl, by decide +kernel, rfl, by decide +kernel, by decide +kernel⟩
theorem toDI {C : Ct} {Ξ : Addr → Prop} {ρ : Rho} {e : Expr} {i : Int} (h : DEd C Ξ ρ e (.int i)) : DI C Ξ ρ e fun _ => True := h.imp fun _ e => ⟨i, e, trivial⟩
theorem DE.any {C : Ct} {Ξ : Addr → Prop} {ρ : Rho} {e : Expr} {A : Int → Prop} (h : DI C Ξ ρ e A) : DE C Ξ ρ e anyI := h.imp fun _ ⟨i, e, _⟩ => ⟨i, e⟩
abbrev sp__law_cell (K : PySem.W.Frag) : Sp := spS (α := Nat) (fun k => [.int k]) (fun ns _ => ns.length ≤ 100) (fun _ => anyI) K
theorem ok__law_cell (T : Txt K mg) : Fc P w K mg base "_law_cell" ["_law_script", "_law_k"] 1 (sp__law_cell K) := by
  refine fc_S (st := s__law_cell) T.d__law_cell T.g__law_cell sc__law_cell (fun _ => rfl) (by decide) (fun _ _ _ _ _ _ us hl => match us, hl with | [_, _], _ => rfl) fun cdv A outer s H E hr O y a ns hd hq => ?_
  refine dss_cons (ds_ifd (de_nilS 0 rfl rfl hq rfl (.inl rfl)) (fun h => dss_one (ds_ret (DE.any (toDI (de_mul (de_var 1 rfl rfl (.inl rfl)) de_int (.inr (by decide))))) fun d r => ⟨d, rfl, r⟩)) fun h => dss_nil ?_)
  have hne : ns ≠ [] := of_decide_eq_false h
  have hl : 0 < ns.length := List.length_pos_iff.mpr hne
  have hlen : ns.length ≤ 100 := hd
  have h1 : (0 : Int) ≤ (y : Int) % ns.length ∧ (y : Int) % ns.length < ns.length := ⟨Int.emod_nonneg _ (by omega), Int.emod_lt_of_pos _ (by omega)⟩
  obtain ⟨n, hn⟩ : ∃ n, atI ns ((y : Int) % ns.length) = some n := by
    refine ⟨ns[((y : Int) % ns.length).toNat]'(by omega), ?_⟩
    unfold atI ixN
    rw [if_pos h1.1, if_pos (by omega)]
    exact List.getElem?_eq_getElem _
  refine dss_one (ds_ret (DE.any (toDI (de_add (de_ixScr 0 hn rfl rfl hq rfl (.inl rfl) (de_mod (de_var 1 rfl rfl (.inl rfl)) (de_lenScr 0 rfl rfl hq rfl (.inl rfl) rfl T.n_len) (by omega))) (de_mul (de_div (de_var 1 rfl rfl (.inl rfl)) (de_lenScr 0 rfl rfl hq rfl (.inl rfl) rfl T.n_len) ⟨by omega, ?_⟩) de_int (.inr (by decide)))))) fun d r => ⟨d, rfl, r⟩)
  have : ((ns.length : Int).natAbs).log2 ≤ ns.length := by
    rw [Int.natAbs_natCast]
    exact Nat.le_of_lt (Nat.lt_of_lt_of_le Nat.lt_two_pow_self (Nat.log2_self_le (by omega)))
  omega
/-! ## _law_drawn -/
theorem sc__law_drawn : FnScope ["_law_cell_here", "_law_k", "_law_more"] ["_law_cell_here", "_law_k"] (defScope s__law_drawn) := ⟨rfl, rfl, rfl, by decide +kernel, rfl, by decide +kernel, by decide +kernel⟩
abbrev sp__law_drawn (K : PySem.W.Frag) : Sp := spX (α := Int × Int) (fun x => [.int x.1, .int x.2]) (fun _ => True) (fun _ o => ∃ i : Int, o = .rt (.int i))
theorem ok__law_drawn (T : Txt K mg) : Fc P w K mg base "_law_drawn" ["_law_cell_here", "_law_k"] 1 (sp__law_drawn K) := by
  refine fc_X (st := s__law_drawn) T.d__law_drawn T.g__law_drawn sc__law_drawn (fun _ => rfl) (by decide) (fun _ _ _ _ _ _ us hl => match us, hl with | [_, _], _ => rfl) fun cdv A outer s H E hr O y hd => ?_
  obtain ⟨c, k⟩ := y
  have lg : ∀ {m b : Int} {n : Nat}, 0 ≤ m → m < b → b = 2 ^ n → m.natAbs.log2 ≤ n := fun {m b n} h0 h1 hb => by
    by_cases hz : m.natAbs = 0
    · rw [hz]; exact Nat.zero_le _
    · have : m.natAbs < 2 ^ n := by
        have : (m.natAbs : Int) < (2 ^ n : Nat) := by rw [Int.natAbs_of_nonneg h0]; rw [hb] at h1; simpa using h1
        exact Int.ofNat_lt.mp this
      exact Nat.le_of_lt ((Nat.log2_lt hz).mpr this)
  refine dss_cons (ds_set 2 (P := fun d => ∃ m : Int, d = .int m ∧ 0 ≤ m ∧ m < 340282366920938463463374607431768211507) ((de_mod (de_add (de_mul (de_var 0 rfl rfl (.inl rfl)) de_int (.inr (by decide))) (de_mul (de_add (de_var 1 rfl rfl (.inl rfl)) de_int) de_int (.inr (by decide)))) de_int (by decide)).imp fun d e => ⟨_, e, Int.emod_nonneg _ (by decide), Int.emod_lt_of_pos _ (by decide)⟩) ?_ sc__law_drawn.nd rfl (.inl rfl))
  rintro d ⟨m, rfl, m0, m1⟩
  have l1 := lg (b := 2 ^ 130) (n := 130) m0 (by omega) (by simp)
  refine dss_cons (ds_set 2 (P := fun d => ∃ m : Int, d = .int m ∧ 0 ≤ m ∧ m < 340282366920938463463374607431768211297) ((de_mod (de_mulW (de_var 2 rfl rfl (.inl rfl)) (de_var 2 rfl rfl (.inl rfl)) (show m.natAbs.log2 + m.natAbs.log2 < 1000000 by omega)) de_int (by decide)).imp fun d e => ⟨_, e, Int.emod_nonneg _ (by decide), Int.emod_lt_of_pos _ (by decide)⟩) ?_ sc__law_drawn.nd rfl (.inl rfl))
  rintro d ⟨m2, rfl, n0, n1⟩
  have k0 : 0 ≤ m2 % 18446744073709551557 ∧ m2 % 18446744073709551557 < 18446744073709551557 := ⟨Int.emod_nonneg _ (by decide), Int.emod_lt_of_pos _ (by decide)⟩
  have k1 : 0 ≤ m2 / 18446744073709551557 ∧ m2 / 18446744073709551557 < 2 ^ 70 := ⟨Int.ediv_nonneg n0 (by decide), Int.ediv_lt_of_lt_mul (by decide) (by omega)⟩
  have b1 := lg (m := m2 % 18446744073709551557 + 1) (b := 2 ^ 65) (n := 65) (by omega) (by omega) (by simp)
  have b2 := lg (m := m2 / 18446744073709551557 + 1) (b := 2 ^ 71) (n := 71) (by omega) (by omega) (by simp)
  have b3 := lg (m := m2) (b := 2 ^ 130) (n := 130) n0 (by omega) (by simp)
  have b4 : ((m2 % 18446744073709551557 + 1) * (m2 / 18446744073709551557 + 1)).natAbs.log2 ≤ 136 := by
    refine lg (b := 2 ^ 136) (Int.mul_nonneg (by omega) (by omega)) ?_ (by simp)
    have : (m2 % 18446744073709551557 + 1) * (m2 / 18446744073709551557 + 1) ≤ 18446744073709551557 * (m2 / 18446744073709551557 + 1) := Int.mul_le_mul_of_nonneg_right (by omega) (by omega)
    omega
  refine dss_cons (ds_set 2 (P := anyI) ((de_mulW (de_mulW (de_add (de_mod (de_var 2 rfl rfl (.inl rfl)) de_int (by decide)) de_int) (de_add (de_div (de_var 2 rfl rfl (.inl rfl)) de_int ⟨by decide, by decide +kernel⟩) de_int) (show _ + _ < 1000000 by omega)) (de_var 2 rfl rfl (.inl rfl)) (show _ + _ < 1000000 by omega)).imp fun d e => ⟨_, e⟩) ?_ sc__law_drawn.nd rfl (.inl rfl))
  rintro d ⟨m3, rfl⟩
  exact dss_one (ds_ret (DE.any (toDI (de_mod (de_var 2 rfl rfl (.inl rfl)) de_int (by decide)))) fun d r => by obtain ⟨i, e⟩ := r; exact ⟨i, by rw [e]⟩)
/-! ## _law_roll -/
theorem log_small {m : Int} (h0 : 0 < m) (h1 : m ≤ 1000000) : m.natAbs.log2 < 9000 := by
  have : m.natAbs.log2 ≤ 20 := by
    have := (Nat.log2_lt (n := m.natAbs) (k := 21) (by omega)).mpr (by omega)
    omega
  omega
theorem sc__law_roll : FnScope ["_law_dice", "_law_many", "_law_told_here"] ["_law_dice", "_law_many"] (defScope s__law_roll) := ⟨rfl, rfl, rfl, by decide +kernel, rfl, by decide +kernel, by decide +kernel⟩
abbrev sp__law_roll : Sp := spC (α := Int) (fun m => [.int m]) (fun m => 0 < m ∧ m ≤ 1000000) (fun m d => ∃ r : Int, d = .int r ∧ 0 ≤ r ∧ r < m)
theorem ok__law_roll (T : Txt K mg) : Fc P w K mg base "_law_roll" ["_law_dice", "_law_many"] 2 sp__law_roll := by
  refine fc_C (st := s__law_roll) T.d__law_roll T.g__law_roll sc__law_roll (fun _ => rfl) (by decide) (fun _ _ _ _ _ _ us hl => match us, hl with | [_, _], _ => rfl) fun cdv A outer s H E hr O m a hd hc => ?_
  obtain ⟨h0, h1⟩ := hd
  have hU : (dicC P w K mg base ["_law_dice", "_law_many", "_law_told_here"] "_law_roll" (defScope s__law_roll) (He.ga K "_law_roll") cdv A outer s H E 1 hr O a).U a = true := beq_self_eq_true a
  refine dss_cons (ds_if (B := fun _ => True) ((dt_cmpI op_ge rfl (di_cell 0 (by decide) (by decide) rfl hU hc rfl (.inl rfl) de_int) (de_pow de_int de_int ⟨by decide, by decide, by decide⟩) (fun i _ => rb_ge)).imp fun _ _ => trivial) (fun _ => ?_) fun _ => dss_nil ?_)
  · refine dss_cons (ds_set 2 (P := fun d => ∃ r : Int, d = .int r ∧ 0 ≤ r ∧ r < m) ((di_mod (di_cell 0 (by decide) (by decide) rfl hU hc rfl (.inl rfl) de_int) (DE.toI (de_var 1 rfl rfl (.inl rfl))) (fun j e => by rw [e]; exact h0)).imp fun d ⟨k, e, i, j, _, ej, ek⟩ => ⟨k, e, by rw [ek, ej]; exact ⟨Int.emod_nonneg _ (by omega), Int.emod_lt_of_pos _ h0⟩⟩) ?_ sc__law_roll.nd rfl (.inl rfl))
    rintro d ⟨r, rfl, r0, r1⟩
    refine dss_cons (ds_cell 0 (by decide) (by decide) rfl hU hc rfl (.inl rfl) (di_div (di_cell 0 (by decide) (by decide) rfl hU hc rfl (.inl rfl) de_int) (de_var 1 rfl rfl (.inl rfl)) ⟨h0, log_small h0 h1⟩) ?_)
    exact dss_one (ds_retd (de_var 2 rfl rfl (.inl rfl)) ⟨_, rfl, r, rfl, r0, r1⟩)
  · refine dss_cons (ds_cell 0 (by decide) (by decide) rfl hU hc rfl (.inl rfl) ((di_add (di_cell 0 (by decide) (by decide) rfl hU hc rfl (.inl rfl) de_int) (DE.toI de_int)).imp fun d ⟨k, e, _⟩ => ⟨k, e, trivial⟩) ?_)
    refine dss_one (ds_ret (P := fun d => ∃ r : Int, d = .int r ∧ 0 ≤ r ∧ r < m) ((di_mod (di_div (A := fun _ => True) (C := dicC P w K mg base ["_law_dice", "_law_many", "_law_told_here"] "_law_roll" (defScope s__law_roll) (He.ga K "_law_roll") cdv A outer s H E 1 hr O a) ?_ de_int ⟨by decide, by decide +kernel⟩) (DE.toI (de_var 1 rfl rfl (.inl rfl))) (fun j e => by rw [e]; exact h0)).imp fun d ⟨k, e, i, j, _, ej, ek⟩ => ⟨k, e, by rw [ek, ej]; exact ⟨Int.emod_nonneg _ (by omega), Int.emod_lt_of_pos _ h0⟩⟩) fun d r => ⟨d, rfl, r⟩)
    exact di_call2 (ok__law_drawn T) (Nat.le_of_ble_eq_true rfl) rfl (di_cell 0 (by decide) (by decide) rfl hU hc rfl (.inl rfl) de_int) (di_cell 0 (by decide) (by decide) rfl hU hc rfl (.inl rfl) de_int) (fun i j => trivial)
/-! ## _law_rounds -/
theorem sc__law_rounds : FnScope ["_law_script", "_law_most", "_law_k"] ["_law_script", "_law_most"] (defScope s__law_rounds) := ⟨rfl, rfl, rfl, by decide +kernel, rfl, by decide +kernel, by decide +kernel⟩
abbrev sp__law_rounds (K : PySem.W.Frag) : Sp := spS (α := Int) (fun m => [.int m]) (fun ns m => ns.length ≤ 100 ∧ 1 ≤ m ∧ m ≤ 100) (fun _ d => ∃ cs : List Int, d = .list (cs.map dcD)) K
theorem ok__law_rounds (T : Txt K mg) : Fc P w K mg base "_law_rounds" ["_law_script", "_law_most"] 2 (sp__law_rounds K) := by
  refine fc_S (st := s__law_rounds) T.d__law_rounds T.g__law_rounds sc__law_rounds (fun _ => rfl) (by decide) (fun _ _ _ _ _ _ us hl => match us, hl with | [_, _], _ => rfl) fun cdv A outer s H E hr O m a ns hd hq => ?_
  obtain ⟨hl, h1, h2⟩ := hd
  refine dss_one (ds_ret (P := fun d => ∃ cs : List Int, d = .list (cs.map dcD)) (DE.imp (de_lcG (js := [2]) (ρ1 := fun d => [.raw (.ref a), .dat (.int m), .dat d]) (fun _ => true) (fun d e => ∃ c, e = dcD c) sc__law_rounds.nd (blkOk_by (own := [("_law_k", 2)]) (by show blkC ["_law_script", "_law_most", "_law_k"] (defScope s__law_rounds) _ _ = true; decide +kernel)) (dit_range rfl T.n_range (de_max2 rfl T.n_max de_int (de_min2 rfl T.n_min (de_var 1 rfl rfl (.inl rfl)) (de_lenScr 0 rfl rfl hq rfl (.inr (.inl rfl)) rfl T.n_len))) ?_) ?_ ?_ (fun j h => h) (fun a => rfl)) ?_) fun d h => ⟨d, rfl, h⟩)
  · split <;> split <;> omega
  · rintro ds rfl
    rw [rangeD_len]
    split <;> split <;> omega
  · rintro ds rfl k d hk s H Cc cl fp O' le'
    obtain ⟨hk1, hk2⟩ := List.getElem?_eq_some_iff.mp hk
    rw [rangeD_len] at hk1
    have hk3 := rangeD_at (lo := 0) hk1
    rw [hk3] at hk
    injection hk with hk
    subst hk
    rw [show (0 : Int) + (k : Nat) = ((k : Nat) : Int) by omega]
    refine ⟨fun a => rfl, dg_name 2 sc__law_rounds.nd rfl (.inl rfl), dts_nil, fun _ => ?_⟩
    refine DE.imp (de_lstG (P := fun l => ∃ c : Int, l = [.int c, .int 0]) (da_consG (P1 := anyI) (de_scr 0 (ns := ns) k (ok__law_cell T) rfl rfl hq rfl rfl (.inr (.inl rfl)) (da_cons (de_var 2 rfl rfl (.inl rfl)) da_nil) hl (fun d h => h)) fun d ⟨c, ec⟩ => da_consG (P1 := fun d => d = .int 0) de_int fun d' e' => da_nilG ⟨[d, d'], rfl, c, by rw [ec, e']⟩) (fun l ⟨c, e⟩ => by rw [e]; show 2 ≤ _; omega)) fun d ⟨l, e, c, e2⟩ => ⟨c, by rw [e, e2]; rfl⟩
  · rintro d ⟨ds, es, hds, m, rfl⟩
    unfold Made at m
    rw [List.filter_eq_self.mpr (fun _ _ => rfl)] at m
    suffices h : ∃ cs : List Int, es = cs.map dcD by obtain ⟨cs, e⟩ := h; exact ⟨cs, by rw [e]⟩
    clear hds
    induction m with
    | nil => exact ⟨[], rfl⟩
    | cons r _ ih =>
      obtain ⟨c, e⟩ := r
      obtain ⟨cs, e2⟩ := ih
      exact ⟨c :: cs, by rw [e, e2]; rfl⟩
/-! ## _law_any_base -/
def LBase (b : Int) : Prop := b ∈ ([2, 3, 4, 5, 7, 10, 11, 12] : List Int)
theorem LBase.b {b : Int} (h : LBase b) : Base b := by
  unfold LBase at h
  simp only [List.mem_cons, List.not_mem_nil, or_false] at h
  unfold Base
  omega
theorem sc__law_any_base : FnScope ["_law_dice"] ["_law_dice"] (defScope s__law_any_base) := ⟨rfl, rfl, rfl, by decide +kernel, rfl, by decide +kernel, by decide +kernel⟩
abbrev sp__law_any_base : Sp := spC (α := Unit) (fun m => []) (fun m => True) (fun m d => ∃ b : Int, d = .int b ∧ LBase b)
theorem ok__law_any_base (T : Txt K mg) : Fc P w K mg base "_law_any_base" ["_law_dice"] 3 sp__law_any_base := by
  refine fc_C (st := s__law_any_base) T.d__law_any_base T.g__law_any_base sc__law_any_base (fun _ => rfl) (by decide) (fun _ _ _ _ _ _ us hl => match us, hl with | [_], _ => rfl) fun cdv A outer s H E hr O m a hd hc => ?_
  have hU : (dicC P w K mg base ["_law_dice"] "_law_any_base" (defScope s__law_any_base) (He.ga K "_law_any_base") cdv A outer s H E 2 hr O a).U a = true := beq_self_eq_true a
  refine dss_one (ds_ret (P := fun d => ∃ b : Int, d = .int b ∧ LBase b) (de_ixLI (A := fun i => 0 ≤ i ∧ i < 9) (de_lst (da_cons de_int (da_cons de_int (da_cons de_int (da_cons de_int (da_cons de_int (da_cons de_int (da_cons de_int (da_cons de_int (da_cons de_int da_nil)))))))))) ((de_dice 0 9 (ok__law_roll T) rfl hU hc rfl rfl (.inl rfl) (da_cons de_int da_nil) (by decide) (fun d h => h)).imp fun d ⟨r, e, h⟩ => ⟨r, e, h⟩) fun i hi => ?_) fun d h => ⟨d, rfl, h⟩)
  have hc : i = 0 ∨ i = 1 ∨ i = 2 ∨ i = 3 ∨ i = 4 ∨ i = 5 ∨ i = 6 ∨ i = 7 ∨ i = 8 := by omega
  rcases hc with rfl | rfl | rfl | rfl | rfl | rfl | rfl | rfl | rfl
  · exact ⟨_, rfl, 2, rfl, by unfold LBase; simp⟩
  · exact ⟨_, rfl, 3, rfl, by unfold LBase; simp⟩
  · exact ⟨_, rfl, 4, rfl, by unfold LBase; simp⟩
  · exact ⟨_, rfl, 5, rfl, by unfold LBase; simp⟩
  · exact ⟨_, rfl, 7, rfl, by unfold LBase; simp⟩
  · exact ⟨_, rfl, 10, rfl, by unfold LBase; simp⟩
  · exact ⟨_, rfl, 10, rfl, by unfold LBase; simp⟩
  · exact ⟨_, rfl, 11, rfl, by unfold LBase; simp⟩
  · exact ⟨_, rfl, 12, rfl, by unfold LBase; simp⟩

theorem sc__law_written : FnScope ["_law_base", "_law_size", "_law_number", "_law_found", "_law_turn"] ["_law_base", "_law_size", "_law_number"] (defScope s__law_written) := ⟨rfl, rfl, rfl, by decide +kernel, rfl, by decide +kernel, by decide +kernel⟩
abbrev sp__law_written (K : PySem.W.Frag) : Sp := spF (α := Int × Nat × Int) (fun x => [.int x.1, .int x.2.1, .int x.2.2]) (fun x => Base x.1 ∧ x.2.1 ≤ 8) (fun x => .rt (tI (wrI x.1 x.2.1 x.2.2 [])))
theorem ok__law_written (T : Txt K mg) : Fc P w K mg base "_law_written" ["_law_base", "_law_size", "_law_number"] 1 (sp__law_written K) := by
  refine fc_X (st := s__law_written) T.d__law_written T.g__law_written sc__law_written (fun _ => rfl) (by decide) (fun _ _ _ _ _ _ us hl => match us, hl with | [_, _, _], _ => rfl) fun cdv A outer s H E hr O y hd => ?_
  obtain ⟨b, n, m⟩ := y
  obtain ⟨hb, hn⟩ := hd
  simp only at hb hn
  have b2 := hb.1
  refine dss_cons (ds_setd 3 (de_lst da_nil) ?_ sc__law_written.nd rfl (.inl rfl))
  refine dss_cons (ds_for (dit_range rfl T.n_range (de_var 1 rfl rfl (.inl rfl)) (by simp only; omega)) (fun _ k ρ => k ≤ n ∧ ∃ m' acc s1, wrI b (n - k) m' acc = wrI b n m [] ∧ acc.length = k ∧ ρ = [.dat (.int b), .dat (.int n), .dat (.int m'), .dat (lI acc), s1]) (fun _ _ => ⟨Nat.zero_le _, m, [], .no, rfl, rfl, rfl⟩) (fun ds k d ρ' e hk _ => dg_name 4 sc__law_written.nd rfl (.inl rfl)) ?_ ?_ (passes_of rfl))
  · rintro ds k d ρ' rfl hk ⟨hk1, m', acc, s1, e, el, rfl⟩
    have hlt : k < n := by
      have := (List.getElem?_eq_some_iff.mp hk).1
      rw [rangeD_len] at this
      exact this
    obtain ⟨j, hj⟩ : ∃ j, n - k = j + 1 := ⟨n - k - 1, by omega⟩
    rw [hj] at e
    refine dss_cons (ds_setd 3 (de_catL (ys := iv acc) (de_lst (da_cons (de_mod (de_var 2 rfl rfl (.inl rfl)) (de_var 0 rfl rfl (.inl rfl)) (by omega)) da_nil) (by show 1 ≤ _; omega)) (de_var 3 rfl rfl (.inl rfl)) (by rw [iv_len]; show 1 + acc.length ≤ _; omega)) ?_ sc__law_written.nd rfl (.inl rfl))
    refine dss_one (ds_setd 2 (de_div (de_var 2 rfl rfl (.inl rfl)) (de_var 0 rfl rfl (.inl rfl)) ⟨by omega, log_small (by omega) (by have := hb.2; omega)⟩) ⟨hlt, m' / b, m' % b :: acc, _, ?_, by rw [List.length_cons, el], rfl⟩ sc__law_written.nd rfl (.inl rfl))
    have : n - (k + 1) = j := by omega
    rw [this]
    exact e
  · rintro ds ρ' rfl ⟨_, m', acc, s1, e, el, rfl⟩
    refine dss_one (ds_retd (de_tupleL rfl T.n_tuple (de_var 3 rfl rfl (.inl rfl))) ?_)
    show Out.rt _ = Out.rt _
    rw [rangeD_len, show n - (n : Int).toNat = 0 by omega] at e
    rw [← e]
    rfl

theorem sc__law_step : FnScope ["_law_base", "_law_row", "_law_some", "_law_total", "_law_at"] ["_law_base", "_law_row"] (defScope s__law_step) := ⟨rfl, rfl, rfl, by decide +kernel, rfl, by decide +kernel, by decide +kernel⟩
abbrev sp__law_step (K : PySem.W.Frag) : Sp := spF (α := Int × List Int) (fun x => [.int x.1, tI x.2]) (fun x => Base x.1 ∧ Row x.1 x.2) (fun x => .rt (tI (stepI x.1 x.2)))
theorem ok__law_step (T : Txt K mg) : Fc P w K mg base "_law_step" ["_law_base", "_law_row"] 2 (sp__law_step K) := by
  refine fc_X (st := s__law_step) T.d__law_step T.g__law_step sc__law_step (fun _ => rfl) (by decide) (fun _ _ _ _ _ _ us hl => match us, hl with | [_, _], _ => rfl) fun cdv A outer s H E hr O y hd => ?_
  obtain ⟨b, ns⟩ := y
  obtain ⟨hb, hr⟩ := hd
  simp only at hb hr
  have hl := hr.1
  have hsl := srtI_len ns
  refine dss_cons (ds_pard 2 3 (d := lI (srtI ns)) (da_cons (DE.to (de_sortT (Ct.un _) rfl T.n_sorted (de_var 1 rfl rfl (.inl rfl)) (can_iv _)) (by rw [sort_iv])) (da_cons de_int da_nil)) ?_ sc__law_step.nd rfl rfl (by decide) rfl rfl rfl)
  refine dss_cons (ds_for (dit_range rfl T.n_range (de_lenL rfl T.n_len (de_var 2 rfl rfl (.inl rfl))) (by rw [iv_len, hsl]; omega)) (fun _ k ρ => ∃ sv, ρ = [.dat (.int b), .dat (tI ns), .dat (lI (srtI ns)), .dat (.int (numI b ((difI (srtI ns)).take k))), sv]) (fun _ _ => ⟨.no, rfl⟩) (fun ds k d ρ' e hk _ => dg_name 4 sc__law_step.nd rfl (.inl rfl)) ?_ ?_ (passes_of rfl))
  · rintro ds k d ρ' rfl hk ⟨sv, rfl⟩
    obtain ⟨hk1, _⟩ := List.getElem?_eq_some_iff.mp hk
    rw [rangeD_len, iv_len, hsl] at hk1
    have hk3 := rangeD_at (lo := 0) (n := ((iv (srtI ns)).length : Int).toNat) (k := k) (by rw [iv_len, hsl]; exact hk1)
    rw [hk3] at hk
    injection hk with hk
    subst hk
    rw [show (0 : Int) + (k : Nat) = ((k : Nat) : Int) by omega]
    refine dss_one (ds_setd 3 (de_sub (de_add (de_mul (de_var 3 rfl rfl (.inl rfl)) (de_var 0 rfl rfl (.inl rfl)) (.inr (by obtain ⟨h1, h2⟩ := hb; omega))) (de_ixL (de_var 2 rfl rfl (.inl rfl)) (de_sub (de_neg de_int) (de_var 4 rfl rfl (.inl rfl))) (atI_neg (by rw [iv_len, hsl]; omega) (by rw [iv_len]; exact iv_getD (by omega))))) (de_ixL (de_var 2 rfl rfl (.inl rfl)) (de_var 4 rfl rfl (.inl rfl)) (atI_pos (iv_getD (by omega))))) ⟨.dat (.int k), ?_⟩ sc__law_step.nd rfl (.inl rfl))
    have e : (difI (srtI ns))[k]? = some (gapAt (srtI ns) k) := by
      unfold difI
      rw [List.getElem?_map, List.getElem?_range (by omega)]
      rfl
    rw [take_snoc e, numI_app]
    unfold gapAt
    rw [← Int.add_sub_assoc]
    rfl
  · rintro ds ρ' rfl ⟨sv, rfl⟩
    rw [rangeD_len, iv_len, hsl, show ((ns.length : Int)).toNat = (difI (srtI ns)).length by unfold difI; rw [List.length_map, List.length_range, hsl]; omega, List.take_length]
    refine dss_one (ds_retd (de_f (b, ns.length, numI b (difI (srtI ns))) (ok__law_written T) rfl (da_cons (de_var 0 rfl rfl (.inl rfl)) (da_cons (DE.to (de_lenT rfl T.n_len (de_var 1 rfl rfl (.inl rfl))) (by rw [iv_len])) (da_cons (de_var 3 rfl rfl (.inl rfl)) da_nil))) ⟨hb, hl.2⟩ rfl) ?_)
    show Out.rt _ = Out.rt _
    rw [step_dif]

theorem sc__law_course : FnScope ["_law_base", "_law_row", "_law_places", "_law_found"] ["_law_base", "_law_row"] (defScope s__law_course) := ⟨rfl, rfl, rfl, by decide +kernel, rfl, by decide +kernel, by decide +kernel⟩
abbrev sp__law_course (K : PySem.W.Frag) : Sp := spF (α := Int × List Int) (fun x => [.int x.1, tI x.2]) (fun x => Base x.1 ∧ Row x.1 x.2) (fun x => .rt (.tuple [.list (rowsD x.1 x.2 (crs x.1 x.2).1), .int ((crs x.1 x.2).2 : Int)]))
theorem ok__law_course (T : Txt K mg) : Fc P w K mg base "_law_course" ["_law_base", "_law_row"] 3 (sp__law_course K) := by
  refine fc_X (st := s__law_course) T.d__law_course T.g__law_course sc__law_course (fun _ => rfl) (by decide) (fun _ _ _ _ _ _ us hl => match us, hl with | [_, _], _ => rfl) fun cdv A outer s H E hr O y hd => ?_
  obtain ⟨b, r⟩ := y
  obtain ⟨hb, hr'⟩ := hd
  simp only at hb hr'
  have b1 : 1 ≤ b := by have := hb.1; omega
  refine dss_cons (ds_newDL 2 3 (fun p q hpq => ?_) sc__law_course.nd rfl rfl (by decide) (by show 2 < 4; omega) (by show 3 < 4; omega) rfl rfl rfl)
  refine dss_cons (ds_while (I := fun m ρ => ∃ k p q, m = 20738 - k ∧ Far b r k ∧ ρ = [.dat (.int b), .dat (tI (orb b r k)), .dic p (placesD b r k), .own q (rowsD b r k)]) 20738 ⟨0, p, q, rfl, fun i j _ hj => absurd hj (Nat.not_lt_zero _), rfl⟩
    (B := fun n ρ t => ∃ k p q, n = 20738 - k ∧ Far b r k ∧ ρ = [.dat (.int b), .dat (tI (orb b r k)), .dic p (placesD b r k), .own q (rowsD b r k)] ∧ t = !((placesD b r k).find? fun z => decide (z.1 = orb b r k)).isSome) ?_ ?_ ?_ (passes_of rfl))
  · rintro m ρ' ⟨k, p, q, rfl, hf, rfl⟩
    exact DT.imp (dt_notInO 2 rfl rfl (.inl rfl) (de_var 1 rfl rfl (.inl rfl))) fun t e => ⟨k, p, q, rfl, hf, rfl, e⟩
  · rintro m ρ' - ⟨k, p, q, rfl, hf, rfl, ht⟩
    have hnone : ((placesD b r k).find? fun z => decide (z.1 = orb b r k)) = none := by
      cases e : (placesD b r k).find? fun z => decide (z.1 = orb b r k) with
      | none => rfl
      | some z => rw [e] at ht; cases ht
    have hno := places_none hnone
    have hf1 : Far b r (k + 1) := fun i j hij hj => by
      rcases Nat.lt_or_ge j k with h | h
      · exact hf i j hij h
      · have : j = k := by omega
        subst this
        exact hno i hij
    have hbd := far_bound hb hr' hf1
    refine dss_cons (ds_dputO 2 rfl rfl (.inl rfl) (de_lenO 3 rfl rfl (.inl rfl) rfl T.n_len) (de_var 1 rfl rfl (.inl rfl)) hnone (by rw [placesD_len]; omega) ?_)
    refine dss_cons (ds_appendO 3 rfl rfl (.inl rfl) (de_var 1 rfl rfl (.inl rfl)) (by rw [rowsD_len]; omega) ?_)
    refine dss_one (ds_setd 1 (de_f (b, orb b r k) (ok__law_step T) rfl (da_cons (de_var 0 rfl rfl (.inl rfl)) (da_cons (de_var 1 rfl rfl (.inl rfl)) da_nil)) ⟨hb, orb_row b1 hr' k⟩ rfl) ⟨20738 - (k + 1), by omega, k + 1, p, q, rfl, hf1, ?_⟩ sc__law_course.nd rfl (.inl rfl))
    rw [rowsD_succ, placesD_succ, rowsD_len]
    rfl
  · rintro m ρ' - ⟨k, p, q, rfl, hf, rfl, ht⟩
    obtain ⟨z, hz⟩ : ∃ z, ((placesD b r k).find? fun z => decide (z.1 = orb b r k)) = some z := by
      cases e : (placesD b r k).find? fun z => decide (z.1 = orb b r k) with
      | none => rw [e] at ht; cases ht
      | some z => exact ⟨z, rfl⟩
    obtain ⟨j, hj, e1, e2⟩ := places_some hz
    obtain ⟨u1, u2⟩ := crs_uniq hb hr' (Course.mk hf hj e1.symm)
    refine dss_one (ds_retO 3 rfl rfl (.inl rfl) (DE.to (de_dgetO 2 rfl rfl (.inl rfl) (de_var 1 rfl rfl (.inl rfl)) hz) e2) ?_)
    show Out.rt _ = Out.rt _
    simp only
    rw [← u1, ← u2]

theorem sc__law_round : FnScope ["_law_base", "_law_row", "_law_found", "_law_place", "_law_some", "_law_first"] ["_law_base", "_law_row"] (defScope s__law_round) := ⟨rfl, rfl, rfl, by decide +kernel, rfl, by decide +kernel, by decide +kernel⟩
abbrev sp__law_round (K : PySem.W.Frag) : Sp := spF (α := Int × List Int) (fun x => [.int x.1, tI x.2]) (fun x => Base x.1 ∧ Row x.1 x.2) (fun x => .rt (circD x.1 x.2))
theorem ok__law_round (T : Txt K mg) : Fc P w K mg base "_law_round" ["_law_base", "_law_row"] 4 (sp__law_round K) := by
  refine fc_X (st := s__law_round) T.d__law_round T.g__law_round sc__law_round (fun _ => rfl) (by decide) (fun _ _ _ _ _ _ us hl => match us, hl with | [_, _], _ => rfl) fun cdv A outer s H E hr O y hd => ?_
  obtain ⟨b, r⟩ := y
  obtain ⟨hb, hr⟩ := hd
  simp only at hb hr
  have hle := crs_le hb hr
  have c := crs_ok hb hr
  have hlt := c.lt
  obtain ⟨i0, h1, h2, h3, x, ds, e, em⟩ := circ_ex hb hr
  have hlen : ((rowsD b r (crs b r).1).drop (crs b r).2).length = (crs b r).1 - (crs b r).2 := by rw [List.length_drop, rowsD_len]
  have har : AllRows (x :: ds) := e ▸ rows_drop
  refine dss_cons (ds_unp2 2 3 (de_f (b, r) (ok__law_course T) rfl (da_cons (de_var 0 rfl rfl (.inl rfl)) (da_cons (de_var 1 rfl rfl (.inl rfl)) da_nil)) ⟨hb, hr⟩ rfl) ?_ sc__law_round.nd rfl rfl (.inl rfl) (.inl rfl))
  refine dss_cons (ds_setd 4 (d := .list (x :: ds)) (DE.to (de_slL (de_var 2 rfl rfl (.inl rfl)) (do_some (de_var 3 rfl rfl (.inl rfl))) do_none) (by rw [cutD_from (by show (crs b r).2 ≤ (rowsD b r (crs b r).1).length; rw [rowsD_len]; omega)]; exact congrArg PyData.list e)) ?_ sc__law_round.nd rfl (.inl rfl))
  refine dss_cons (ds_setd 5 (d := .int ((i0 - (crs b r).2 : Nat) : Int)) (de_index (i0 - (crs b r).2) (d := tI (orb b r i0)) (z := tI (orb b r i0)) (Nat.lt_of_le_of_lt (Nat.add_le_add_left (by decide : 65 ≤ 100) _) (Ct.un _)) (de_var 4 rfl rfl (.inl rfl)) (DE.to (de_minR har rfl T.n_min (de_var 4 rfl rfl (.inl rfl))) em) (sh_rows har) (shT _) (by rw [← e, List.getElem?_drop, show (crs b r).2 + (i0 - (crs b r).2) = i0 by omega, rowsD_at h2]) (by rw [eqvT, decide_eq_true_eq]) (fun m z' hm hz => ?_)) ?_ sc__law_round.nd rfl (.inl rfl))
  · rw [← e, List.getElem?_drop, rowsD_at (by omega)] at hz
    injection hz with hz
    rw [← hz, eqvT, decide_eq_false_iff_not]
    exact c.far _ _ (by omega) h2
  refine dss_one (ds_retd (d := circD b r) (DE.to (de_tupleL rfl T.n_tuple (de_catL (de_slL (de_var 4 rfl rfl (.inl rfl)) (do_some (de_var 5 rfl rfl (.inl rfl))) do_none) (de_slL (de_var 4 rfl rfl (.inl rfl)) do_none (do_some (de_var 5 rfl rfl (.inl rfl)))) ?_)) ?_) rfl)
  · rw [← e, cutD_from (by rw [hlen]; omega), cutD_to (by rw [hlen]; omega), ← List.length_append, circ_rot c h1 h2]
    unfold circR
    rw [List.length_map, List.length_range]
    omega
  · rw [← e, cutD_from (by rw [hlen]; omega), cutD_to (by rw [hlen]; omega), circ_rot c h1 h2, circD_eq (c.circ h1 h2 h3)]

/-! ## _law_small -/
theorem sc__law_small : FnScope ["_law_dice", "_law_most", "_law_base", "_law_size", "_law_turn", "_law_whole", "_law_at"] ["_law_dice", "_law_most"] (defScope s__law_small) := ⟨rfl, rfl, rfl, by decide +kernel, rfl, by decide +kernel, by decide +kernel⟩
abbrev sp__law_small : Sp := spC (α := Int) (fun m => [.int m]) (fun m => 12 ≤ m ∧ m ≤ 10000) (fun m d => ∃ (b : Int) (n : Nat), d = .tuple [.int b, .int (n : Int)] ∧ LBase b ∧ (1 ≤ n ∧ n ≤ 7) ∧ b ^ n ≤ m)
theorem ok__law_small (T : Txt K mg) : Fc P w K mg base "_law_small" ["_law_dice", "_law_most"] 4 sp__law_small := by
  refine fc_C (st := s__law_small) T.d__law_small T.g__law_small sc__law_small (fun _ => rfl) (by decide) (fun _ _ _ _ _ _ us hl => match us, hl with | [_, _], _ => rfl) fun cdv A outer s H E hr O m a hd hc => ?_
  obtain ⟨hm1, hm2⟩ := hd
  have hU : (dicC P w K mg base ["_law_dice", "_law_most", "_law_base", "_law_size", "_law_turn", "_law_whole", "_law_at"] "_law_small" (defScope s__law_small) (He.ga K "_law_small") cdv A outer s H E 3 hr O a).U a = true := beq_self_eq_true a
  refine dss_cons (ds_par 2 3 (P2 := fun d d' => (∃ b : Int, d = .int b ∧ LBase b) ∧ d' = .int 1) (da_consG (P1 := fun d => ∃ b : Int, d = .int b ∧ LBase b) (de_dice 0 () (ok__law_any_base T) rfl hU hc rfl rfl (.inl rfl) da_nil trivial (fun d h => h)) fun d hd => da_consG (P1 := fun d => d = .int 1) de_int fun d' e => da_nilG ⟨[d, d'], rfl, d, d', rfl, hd, e⟩) ?_ sc__law_small.nd rfl rfl (by decide) rfl rfl rfl)
  rintro d d' ⟨⟨b, rfl, hlb⟩, rfl⟩
  have hb := hlb.b
  have b2 := hb.1
  have b12 := hb.2
  refine dss_cons (ds_for (dit_rangeG (A := fun i => 0 ≤ i ∧ i < 7) rfl T.n_range (DE.imp (de_dice 0 7 (ok__law_roll T) rfl hU hc rfl rfl (.inl rfl) (da_cons de_int da_nil) (by decide) (fun d h => h)) fun d ⟨r, e, h⟩ => ⟨r, e, h⟩) (fun i h => by omega)) (fun _ k ρ => ∃ (n : Nat) (s4 s5 s6 : SV), 1 ≤ n ∧ n ≤ k + 1 ∧ b ^ n ≤ m ∧ ρ = [.raw (.ref a), .dat (.int m), .dat (.int b), .dat (.int (n : Int)), s4, s5, s6]) (fun _ _ => ⟨1, .no, .no, .no, Nat.le_refl _, Nat.le_refl _, by rw [Int.pow_succ, Int.pow_zero]; omega, rfl⟩) (fun ds k d ρ' e hk _ => dg_name 4 sc__law_small.nd rfl (.inl rfl)) ?_ ?_ (passes_of rfl))
  · rintro ds k d ρ' ⟨i, ⟨i0, i1⟩, rfl⟩ hk ⟨n, s4, s5, s6, h1, h2, h3, rfl⟩
    have hk1 := (List.getElem?_eq_some_iff.mp hk).1
    rw [rangeD_len] at hk1
    have hpb := pow_bd hb (k := n + 1) (by omega)
    refine dss_cons (ds_setd 5 de_int ?_ sc__law_small.nd rfl (.inl rfl))
    refine dss_cons (ds_for (dit_range rfl T.n_range (de_add (de_var 3 rfl rfl (.inl rfl)) de_int) (by omega)) (fun _ j ρ => ∃ s6, ρ = [.raw (.ref a), .dat (.int m), .dat (.int b), .dat (.int (n : Int)), .dat d, .dat (.int (b ^ j)), s6]) (fun _ _ => ⟨s6, by rw [Int.pow_zero]; rfl⟩) (fun ds k d ρ' e hk _ => dg_name 6 sc__law_small.nd rfl (.inl rfl)) ?_ ?_ (passes_of rfl))
    · rintro ds j d2 ρ' rfl hj ⟨s6, rfl⟩
      refine dss_one (ds_setd 5 (de_mul (de_var 5 rfl rfl (.inl rfl)) (de_var 2 rfl rfl (.inl rfl)) (.inr (by omega))) ⟨.dat d2, ?_⟩ sc__law_small.nd rfl (.inl rfl))
      rw [Int.pow_succ]
      rfl
    rintro ds ρ' rfl ⟨s6, rfl⟩
    rw [rangeD_len, show ((n : Int) + 1).toNat = n + 1 by omega]
    refine dss_one (ds_setd 3 (d := .int ((if b ^ (n + 1) ≤ m then n + 1 else n : Nat) : Int)) (de_ifd (k := decide (b ^ (n + 1) ≤ m)) (dt_cmp op_le rfl (de_var 5 rfl rfl (.inl rfl)) (de_var 1 rfl rfl (.inl rfl)) rb_le) (fun h => DE.to (de_add (de_var 3 rfl rfl (.inl rfl)) de_int) (by rw [if_pos (of_decide_eq_true h), Int.natCast_add]; rfl)) (fun h => DE.to (de_var 3 rfl rfl (.inl rfl)) (by rw [if_neg (of_decide_eq_false h)]))) ⟨_, _, _, _, ?_, ?_, ?_, rfl⟩ sc__law_small.nd rfl (.inl rfl))
    · split <;> omega
    · split <;> omega
    · split
      · assumption
      · exact h3
  · rintro ds ρ' ⟨i, ⟨i0, i1⟩, rfl⟩ ⟨n, s4, s5, s6, h1, h2, h3, rfl⟩
    rw [rangeD_len] at h2
    exact dss_one (ds_retd (de_tup (da_cons (de_var 2 rfl rfl (.inl rfl)) (da_cons (de_var 3 rfl rfl (.inl rfl)) da_nil)) (by show 2 ≤ _; omega)) ⟨_, rfl, b, n, rfl, hlb, ⟨h1, by omega⟩, h3⟩)

theorem sc__law_all : FnScope ["_law_base", "_law_size", "_law_found", "_law_turn", "_law_longer", "_law_some", "_law_digit"] ["_law_base", "_law_size"] (defScope s__law_all) := ⟨rfl, rfl, rfl, by decide +kernel, rfl, by decide +kernel, by decide +kernel⟩
abbrev sp__law_all (K : PySem.W.Frag) : Sp := spF (α := Int × Nat) (fun x => [.int x.1, .int x.2]) (fun x => Base x.1 ∧ x.2 ≤ 8 ∧ x.1 ^ x.2 ≤ 10000) (fun x => .rt (.list ((allL x.1 x.2).map tI)))
theorem ok__law_all (T : Txt K mg) : Fc P w K mg base "_law_all" ["_law_base", "_law_size"] 1 (sp__law_all K) := by
  refine fc_X (st := s__law_all) T.d__law_all T.g__law_all sc__law_all (fun _ => rfl) (by decide) (fun _ _ _ _ _ _ us hl => match us, hl with | [_, _], _ => rfl) fun cdv A outer s H E hr O y hd => ?_
  obtain ⟨b, n⟩ := y
  obtain ⟨hb, hn, hp⟩ := hd
  simp only at hb hn hp
  have b1 : 1 ≤ b := by have := hb.1; omega
  have b12 := hb.2
  refine dss_cons (ds_setd 2 (d := .list ((allL b 0).map tI)) (de_lst (da_cons (de_tup da_nil) da_nil) (by show 1 ≤ _; omega)) ?_ sc__law_all.nd rfl (.inl rfl))
  refine dss_cons (ds_for (dit_range rfl T.n_range (de_var 1 rfl rfl (.inl rfl)) (by simp only; omega)) (fun _ k ρ => ∃ s3 s4 s5, s3.addr = none ∧ s4.addr = none ∧ s5.addr = none ∧ ρ = [.dat (.int b), .dat (.int n), .dat (.list ((allL b k).map tI)), s3, s4, s5, .no]) (fun _ _ => ⟨.no, .no, .no, rfl, rfl, rfl, rfl⟩) (fun ds k d ρ' e hk _ => dg_name 3 sc__law_all.nd rfl (.inl rfl)) ?_ ?_ (passes_of rfl))
  · rintro ds k d ρ' rfl hk ⟨s3, s4, s5, _, _, h5, rfl⟩
    have hk1 := (List.getElem?_eq_some_iff.mp hk).1
    rw [rangeD_len] at hk1
    have hkn : k + 1 ≤ n := by simp only at hk1; omega
    have hpk : b ^ (k + 1) ≤ 10000 := Int.le_trans (pow_mono b1 hkn) hp
    have hlen : (allL b (k + 1)).length ≤ 10000 := by rw [allL_R b1, allR_len]; omega
    refine dss_cons (ds_setd 4 (d := .list []) (de_lst da_nil) ?_ sc__law_all.nd rfl (.inl rfl))
    refine dss_cons (ds_for (dit_list (de_var 2 rfl rfl (.inl rfl))) (fun _ i ρ => ∃ s5, s5.addr = none ∧ ρ = [.dat (.int b), .dat (.int n), .dat (.list ((allL b k).map tI)), .dat d, .dat (.list ((((allL b k).take i).flatMap fun r => (List.range b.toNat).map fun (d : Nat) => r ++ [(d : Int)]).map tI)), s5, .no]) (fun ds e => ⟨s5, h5, rfl⟩) (fun ds k d ρ' e hk _ => dg_name 5 sc__law_all.nd rfl (.inr rfl)) ?_ ?_ (passes_of rfl))
    · rintro ds i d2 ρ' rfl hi ⟨s5, h5, rfl⟩
      rw [List.getElem?_map] at hi
      cases hr : (allL b k)[i]? with
      | none => rw [hr] at hi; cases hi
      | some r =>
      rw [hr] at hi
      injection hi with hi
      subst hi
      have hmem : r ∈ allR b k := by rw [← allL_R b1]; exact List.mem_of_getElem? hr
      have hrl := ((allR_mem b1).mp hmem).2
      have hle := flat_take_le (fun r => (List.range b.toNat).map fun (d : Nat) => r ++ [(d : Int)]) (allL b k) (i + 1)
      have hle2 : ((allL b k).flatMap fun r => (List.range b.toNat).map fun (d : Nat) => r ++ [(d : Int)]).length ≤ 10000 := hlen
      rw [flat_take_succ _ hr, List.length_append] at hle
      refine dss_one (ds_setd 4 (d := .list ((((allL b k).take (i + 1)).flatMap fun r => (List.range b.toNat).map fun (d : Nat) => r ++ [(d : Int)]).map tI)) ?_ ⟨_, rfl, rfl⟩ sc__law_all.nd rfl (.inl rfl))
      refine DE.to (de_catL (xs := (((allL b k).take i).flatMap fun r => (List.range b.toNat).map fun (d : Nat) => r ++ [(d : Int)]).map tI) (ys := ((List.range b.toNat).map fun (d : Nat) => r ++ [(d : Int)]).map tI) (de_var 4 rfl rfl (.inl rfl)) ?_ ?_) ?_
      · refine DE.to (de_lc 6 (fun d => tI (r ++ [unI d])) sc__law_all.nd (blkOk_by (by show blkC ["_law_base", "_law_size", "_law_found", "_law_turn", "_law_longer", "_law_some", "_law_digit"] (defScope s__law_all) _ _ = true; decide +kernel)) (dit_range rfl T.n_range (de_var 0 rfl rfl (.inl rfl)) (by (try simp only); omega)) (by rw [rangeD_len]; (try simp only); omega) (fun s H Cc cl fp => .inl rfl) rfl (fun k d hk s H Cc cl fp O' le' => ?_) (fun a => ?_) (fun d a => ?_) (fun s H Cc cl fp => .inr rfl)) ?_
        · have hk1 := (List.getElem?_eq_some_iff.mp hk).1
          rw [rangeD_len] at hk1
          have hk3 := rangeD_at (lo := 0) hk1
          rw [hk3] at hk
          injection hk with hk
          subst hk
          exact DE.to (de_catT (ys := [.int (0 + (k : Nat))]) (de_var 5 rfl rfl (.inr (.inl rfl))) (de_tup (da_cons (de_var 6 rfl rfl (.inl rfl)) da_nil) (by show 1 ≤ _; omega)) (by rw [iv_len]; show r.length + 1 ≤ _; omega)) (by rw [tI, iv_app]; rfl)
        · rfl
        · rfl
        · unfold rangeD
          rw [List.map_map, List.map_map]
          congr 1
          refine List.map_congr_left fun i _ => ?_
          show tI (r ++ [0 + (i : Int)]) = tI (r ++ [(i : Int)])
          rw [Int.zero_add]
      · rw [List.length_map, List.length_map]; omega
      · rw [flat_take_succ _ hr, List.map_append]
    · rintro ds ρ' rfl ⟨s5, h5, rfl⟩
      refine dss_one (ds_setd 2 (de_var 4 rfl rfl (.inl rfl)) ⟨.dat d, .dat (.list ((allL b (k + 1)).map tI)), s5, rfl, rfl, h5, ?_⟩ sc__law_all.nd rfl (.inl rfl))
      rw [List.length_map, List.take_length]
      rfl
  · rintro ds ρ' rfl ⟨s3, s4, s5, _, _, _, rfl⟩
    refine dss_one (ds_retd (de_var 2 rfl rfl (.inl rfl)) ?_)
    show Out.rt _ = Out.rt _
    rw [rangeD_len]
    rfl

open PySem.Spec PyProof.Rows L2H HotX LamX
theorem sc__law_term : FnScope ["_law_e", "_law_flags", "_law_kinds", "_law_flag"] ["_law_e"] (defScope s__law_term) := ⟨rfl, rfl, rfl, by decide +kernel, rfl, by decide +kernel, by decide +kernel⟩
theorem sc__law_told : FnScope ["_law_deed", "_law_e"] ["_law_deed"] (defScope s__law_told) := ⟨rfl, rfl, rfl, by decide +kernel, rfl, by decide +kernel, by decide +kernel⟩
theorem term_body {P : Program} {w : World} {K : PySem.W.Frag} {mg : Str → Option Value} {base : Heap} (T : Txt K mg) (Ex : Exs K mg) {f : Addr} {cdv : Value} {A : Around} {outer : List PySem.Env} {s : Shared} {H : Hp} {a : Addr} {oe : Obj} {x : Str} (hx : x ∈ xnm) (hz : L2N.Zn (.ref (He.ga K x)) none oe) (hf : ∃ vs, oe.data = .fields vs) {k : Nat} (hr : RoomH k (A.deeper (envOfC "_law_term" (defScope s__law_term) s.heap.objs.size f cdv))) (hot : Hot1 A (a, oe)) :
    DSs (hotC C8.CX0 P w K mg base ["_law_e", "_law_flags", "_law_kinds", "_law_flag"] "_law_term" (defScope s__law_term) f cdv A outer s H C8.E0 (a, oe) k hr) (fun o => o = .rt (errD x)) [.raw (.ref a), .no, .no, .no] (defBody s__law_term) := by
  generalize hC : hotC C8.CX0 P w K mg base ["_law_e", "_law_flags", "_law_kinds", "_law_flag"] "_law_term" (defScope s__law_term) f cdv A outer s H C8.E0 (a, oe) k hr = C
  have hotc : HotC C.X := by rw [← hC]; exact ⟨(a, oe), hot, List.mem_cons_self⟩
  have hu := C.un
  subst hC
  have isE : ∀ {F : Out → Prop} (ρ : Rho) (y : Str) (p1 p2 p pos : Pos), y ∈ xnm → gt ρ 0 = .raw (.ref a) → (y == ("__debug__" : Str)) = false → Gl (hotC C8.CX0 P w K mg base ["_law_e", "_law_flags", "_law_kinds", "_law_flag"] "_law_term" (defScope s__law_term) f cdv A outer s H C8.E0 (a, oe) k hr).X y →
      DEd (hotC C8.CX0 P w K mg base ["_law_e", "_law_flags", "_law_kinds", "_law_flag"] "_law_term" (defScope s__law_term) f cdv A outer s H C8.E0 (a, oe) k hr) (xi F) ρ (.Call (.Name "isinstance" p) [.Name "_law_e" p1, .Name y p2] [] pos) (.bool (decide (x = y))) := fun ρ y p1 p2 p pos hy h0 hd hg =>
    de_isE 0 (Ex.c x hx) hz.zc hf List.mem_cons_self h0 rfl (.inl rfl) (pe_glob hg (Ex.g y hy) (v := .ref (He.ga K y)) rfl hd) (fun u r => r) (Ex.k x hx y hy) rfl T.n_isinstance
  have isV : ∀ {F : Out → Prop} (ρ : Rho) (p1 p2 p pos : Pos), gt ρ 0 = .raw (.ref a) →
      DEd (hotC C8.CX0 P w K mg base ["_law_e", "_law_flags", "_law_kinds", "_law_flag"] "_law_term" (defScope s__law_term) f cdv A outer s H C8.E0 (a, oe) k hr) (xi F) ρ (.Call (.Name "isinstance" p) [.Name "_law_e" p1, .Name "ValueError" p2] [] pos) (.bool true) := fun ρ p1 p2 p pos h0 =>
    de_isE 0 (c := .ty "ValueError") (Ex.c x hx) hz.zc hf List.mem_cons_self h0 rfl (.inl rfl) (pe_bltn rfl T.n_ValueError (by decide +kernel) (v := .ty "ValueError") rfl (by decide) (by decide)) (fun u r => r) (Ex.v x hx) rfl T.n_isinstance
  have m0 : ∀ {y : Str}, xnm.contains y = true → y ∈ xnm := fun {y} h => List.contains_iff_mem.mp h
  refine dss_cons (ds_setd 1 (de_lst (da_cons (isE _ "InvalidBase" _ _ _ _ (m0 (by decide +kernel)) rfl (by decide) rfl) (da_cons (isE _ "InvalidRow" _ _ _ _ (m0 (by decide +kernel)) rfl (by decide) rfl) (da_cons (isE _ "InvalidLength" _ _ _ _ (m0 (by decide +kernel)) rfl (by decide) rfl) da_nil))) (by show 3 ≤ _; omega)) ?_ sc__law_term.nd rfl (.inl rfl))
  refine dss_cons (ds_setd 1 (de_catL (de_var 1 rfl rfl (.inl rfl)) (de_lst (da_cons (isE _ "InvalidNumber" _ _ _ _ (m0 (by decide +kernel)) rfl (by decide) rfl) (da_cons (isE _ "InvalidSteps" _ _ _ _ (m0 (by decide +kernel)) rfl (by decide) rfl) (da_cons (isE _ "InvalidPlace" _ _ _ _ (m0 (by decide +kernel)) rfl (by decide) rfl) da_nil))) (by show 3 ≤ _; omega)) (by show 3 + 3 ≤ _; omega)) ?_ sc__law_term.nd rfl (.inl rfl))
  refine dss_cons (ds_setd 1 (de_catL (de_var 1 rfl rfl (.inl rfl)) (de_lst (da_cons (isE _ "InvalidDigit" _ _ _ _ (m0 (by decide +kernel)) rfl (by decide) rfl) (da_cons (isE _ "InvalidText" _ _ _ _ (m0 (by decide +kernel)) rfl (by decide) rfl) (da_cons (isE _ "TooLarge" _ _ _ _ (m0 (by decide +kernel)) rfl (by decide) rfl) da_nil))) (by show 3 ≤ _; omega)) (by show 6 + 3 ≤ _; omega)) ?_ sc__law_term.nd rfl (.inl rfl))
  refine dss_cons (ds_setd 1 (d := .list ((flg x).map .bool)) (DE.to (de_catL (de_var 1 rfl rfl (.inl rfl)) (de_lst (da_cons (isE _ "TooGreat" _ _ _ _ (m0 (by decide +kernel)) rfl (by decide) rfl) (da_cons (isE _ "NothingToUndo" _ _ _ _ (m0 (by decide +kernel)) rfl (by decide) rfl) da_nil)) (by show 2 ≤ _; omega)) (by show 9 + 2 ≤ _; omega)) rfl) ?_ sc__law_term.nd rfl (.inl rfl))
  refine dss_cons (ds_setd 2 (de_lst (da_cons de_str (da_cons de_str (da_cons de_str (da_cons de_str (da_cons de_str (da_cons de_str da_nil))))))) ?_ sc__law_term.nd rfl (.inl rfl))
  refine dss_cons (ds_setd 2 (d := .list (xnm.map .str)) (DE.to (de_catL (de_var 2 rfl rfl (.inl rfl)) (de_lst (da_cons de_str (da_cons de_str (da_cons de_str (da_cons de_str (da_cons de_str da_nil)))))) (by show 6 + 5 ≤ _; omega)) rfl) ?_ sc__law_term.nd rfl (.inl rfl))
  obtain ⟨j, hj, e1, e2, e3⟩ := xnm_ix x hx
  have hj := List.mem_range.mp hj
  have hl : (flg x).length = 11 := rfl
  have sh : SeqAt.shaped (.list ((flg x).map .bool)) = true := rfl
  refine dss_cons (ds_ifd (k := false) (dt_w (dw_or (k := false) (k' := false) (DT.to (dt_cmp (op_neD (by show _ < _; omega)) rfl (de_sumH hotc rfl T.n_sum (DE.to (de_flags 3 hotc sc__law_term.nd (blkOk_by (by show blkC ["_law_e", "_law_flags", "_law_kinds", "_law_flag"] (defScope s__law_term) _ _ = true; decide +kernel)) (de_var 1 rfl rfl (.inl rfl)) (by rw [hl]; decide) (by show 3 < 4; omega) rfl (fun _ _ _ _ _ => rfl) (fun _ _ _ _ _ => rfl) T.n_int) (show PyData.list _ = PyData.list (((flg x).map bI).map .int) by rw [List.map_map]; rfl))) de_int (rb_ne rfl rfl)) (by rw [flg_sum x hx]; rfl)) fun _ => dw_or1 (dt_not (dt_val (isV _ _ _ _ _ rfl))))) (fun h => by cases h) fun _ => dss_nil ?_)
  refine dss_one (ds_retd (de_tup (da_cons de_str (da_cons (de_ixL (de_var 2 rfl rfl (.inl rfl)) (de_index j (d := .bool true) (z := .bool true) (by show _ < _; omega) (de_var 1 rfl rfl (.inl rfl)) de_bl sh rfl ?_ rfl fun m z' hm h => ?_) (atI_map e2)) da_nil)) (by show 2 ≤ _; omega)) rfl)
  · show ((flg x).map PyData.bool)[j]? = _
    unfold flg
    rw [List.getElem?_map, List.getElem?_map, e1]
    show some (PyData.bool (decide (x = x))) = _
    rw [decide_eq_true rfl]
  · unfold flg at h
    rw [List.getElem?_map, List.getElem?_map] at h
    cases q : xnm[m]? with
    | none => rw [q] at h; cases h
    | some y =>
      rw [q] at h
      have h : some (PyData.bool (decide (x = y))) = some z' := h
      have ne : x ≠ y := fun e => e3 m (List.mem_range.mpr hm) (by rw [q, e])
      rw [decide_eq_false ne] at h
      injection h with h
      rw [← h]
      rfl
open PySem.Spec PyProof.Rows L2H HotX LamX
theorem PSs.imp2 {X : Cx} {b : List Stmt} {t t' : TS} (h : PSs X b t) (i : ∀ D σ H, t' D σ H → t D σ H) : PSs X b t' := ⟨fun pins s σ H D I z => h.run pins s σ H D I (i D σ H z)⟩
theorem pe_told {X : Cx} (T : Txt X.K X.mg) (Ex : Exs X.K X.mg) {c P : Addr} {k : Nat} {params : Arguments} {body : Expr} {scope : Scope} {p lpos pos : Pos} {te : Hp → XK → TE} (hg : Gl X "_law_told") (hcode : X.env.code = .ref c) (TB : TabB X.base X.mg c P) (hr : Room (k + 2) X.A) (L : LamS X.env.scope scope) (hdef : defaultsOf params X.env = ([], []))
    (hbind : ∀ (q : Str) (cl : List (Str × Addr)) (pm cv ctv : Value), bindArgs (PySem.W.kla_fn "<lambda>" q params body scope cl pm cv ctv) ⟨[], []⟩ = pure [])
    (hbody : ∀ (A : Around) (outer : List PySem.Env) (s : Shared) (H : Hp) (E : XK) (f c' : Addr), Room k (A.deeper (lamEnv X scope s.heap.objs.size f c')) → PE (lamN X A outer s H E scope f c') body (te H E)) :
    PE X (.Call (.Name "_law_told" p) [.Lambda params body scope lpos] [] pos) (tTold X.K P (X.env.qual ++ "<lambda>") te) := by
  refine ⟨fun pins s σ H Q I ⟨hT, h⟩ => ?_⟩
  obtain ⟨fd, F⟩ := T.d__law_told
  have hb := FunD.bindsN (ps := ["_law_deed"]) F (fun _ _ _ _ _ _ us hl => match us, hl with | [_], _ => rfl)
  obtain ⟨oc, od, dV, kV, doc, pm, an, cdv, ct, osl, rfl, lk, hcg, _, _⟩ := F.ex
  obtain ⟨fd2, F2⟩ := T.d__law_term
  have hb2 := FunD.bindsN (ps := ["_law_e"]) F2 (fun _ _ _ _ _ _ us hl => match us, hl with | [_], _ => rfl)
  refine wpAny_Call_Name_kw (ld_glob I hg T.g__law_told ?_ (by decide))
  refine PySem.W.callWith_K (h₀ := X.base) I.ok.mod.kin F.kp ?_ (by rfl) (by rfl)
  show wpAny _ _ (spliced ((false, eval (.Lambda params body scope lpos) X.env) :: backTo pos (starEach [] X.env))) _ _ s
  refine Calls.spliced_cons (lam_mk I TB hcode hT hdef (L.has I.ok) fun f c' pm' ctv H1 s' I1 lay hf hfn hfr hco => ?_)
  refine Calls.spliced_nil ⟨I1.kIn, ?_⟩
  have h := h H1 lay
  have rc : codeAny (model X.prog X.w) X.A (.call (.ref (He.ga X.K "_law_told")) ⟨[.ref f], []⟩) (CR C8.CX0 X.stack X.prog X.w H1 s' Q C8.E0) s' := by
    refine run_ofS (N := ["_law_deed", "_law_e"]) (ps := ["_law_deed"]) (us := [.ref f]) (vs := [.ref f]) lk hcg sc__law_told hr I1.env0 (by have z := hb s' [.ref f] I1.kIn rfl; exact z) (.cons rfl .nil) rfl fun hr' => ?_
    refine ⟨_, pss_one (L2N.ps_try_as (X := cxOf C8.CX0 X.prog X.w X.K X.mg X.base ["_law_deed", "_law_e"] "_law_told" (defScope s__law_told) (He.ga X.K "_law_told") cdv X.A X.stack s' H1 C8.E0) (c := .ref (He.ga X.K "DigitError")) (i := 1)
      (tb := fun W D σZ HZ => ∃ Ech : XK, σZ[0]? = some (some (.ref f)) ∧ HZ c' = some (CodeO c' (X.env.qual ++ "<lambda>")) ∧ (∀ cls d H', Ech cls d H' → W cls d σZ H') ∧ te HZ Ech σ HZ D.rt)
      (ts := fun a cls d D σ H => σ[1]? = some (some (.ref a)) ∧ ∃ x, x ∈ xnm ∧ cls = .ref (He.ga X.K x) ∧ d = none ∧ ∀ v H'', Same H H'' → At H'' v (errD x) → D.rt v H'')
      rfl rfl sc__law_told.nd rfl rfl ⟨rfl, by decide, .inl T.x_DigitError.g⟩ takes0N (fun W pn xe tk _ => ?_) (fun a oe cls d pn hz hf2 => ?_)), ?_⟩
    · refine ⟨fun pz sz σz Hz D Iz ⟨Ech, z1, z2, z3, z4⟩ => ?_⟩
      exact (pss_one (ps_ret (actN (CXg := C8.CX0) (Eg := C8.E0) (i := 0) (W := W) (E := Ech) (tb := fun H => te H Ech) I1 L hf hfn hfr (hbind _ _ _ _ _) tk hr' (fun A outer s H hr2 => hbody A outer s H Ech f c' hr2) (Ng := ["_law_deed", "_law_e"]) (a := "_law_deed") rfl (.inl rfl)))).run pz sz σz Hz D Iz ⟨z1, z2, z3, z4⟩
    · have hot : Hot1 (X.A.deeper (envOfC "_law_told" (defScope s__law_told) s'.heap.objs.size (He.ga X.K "_law_told") cdv) |>.mark (some (.ref a))) (a, oe) := by
        obtain ⟨vs, hv⟩ := hf2
        exact ⟨rfl, vs, hv, hz.2.2 vs hv⟩
      refine PSs.imp2 (pss_one (ps_ret (pe_callP (p := (a, oe)) (i := 1) (k := 0) (Ng := ["_law_e", "_law_flags", "_law_kinds", "_law_flag"]) (ps := ["_law_e"]) (G := fun v H Q => v = .ref a ∧ ∃ x, x ∈ xnm ∧ cls = .ref (He.ga X.K x) ∧ d = none ∧ ∀ v H'', Same H H'' → At H'' v (errD x) → Q v H'') hot List.mem_cons_self F2 rfl T.g__law_term hb2 sc__law_term rfl ⟨((roomH_of hr').mono (j := 0 + 1) (by omega)).dp, ((roomH_of hr').mono (j := 0 + 1) (by omega)).un⟩ rfl (.inl rfl) (fun cdv2 A2 outer2 s2 H2 Q2 v hr2 hot2 ⟨ev, x, hx, ec, ed, hq⟩ => ?_)))) fun D σ2 H2 ⟨z1, z2⟩ => ⟨_, z1, rfl, z2⟩
      subst ev ec ed
      refine ⟨_, pSs, term_body (P := X.prog) (w := X.w) (base := X.base) T Ex hx hz hf2 hr2 hot2 _ _ H2 (env_raw (C := hotC C8.CX0 X.prog X.w X.K X.mg X.base ["_law_e", "_law_flags", "_law_kinds", "_law_flag"] "_law_term" (defScope s__law_term) (He.ga X.K "_law_term") cdv2 A2 outer2 s2 H2 C8.E0 (a, oe) 0 hr2) (n := 3) (v := .ref a) fun _ => rfl) ⟨fun _ _ _ f => (by cases f), fun d v H' f g r => ?_, fun _ _ _ f => (by cases f), fun _ _ _ f => (by cases f), fun _ _ _ f => (by cases f)⟩⟩
      injection f with f
      subst f
      exact hq v H' g.same (r.up hid_le)
    · refine ⟨_, rfl, hco, fun cls d H' ⟨x, hx, ec, ed, hq⟩ => ⟨true, by rw [ec]; exact Ex.m x hx, fun _ a na => ⟨rfl, x, hx, ec, ed, hq⟩, fun e => by cases e⟩, h⟩
  refine wpAny_call (codeAny_mono rc fun r s2 hq => ?_)
  cases r with
  | error e => exact (show False from hq).elim
  | ok fl =>
    cases fl with
    | ret u => exact I1.after hq
    | next => exact False.elim hq
    | brk => exact False.elim hq
    | cont => exact False.elim hq

/-! ## told, by data -/
def lamCt (C : Ct) (A : Around) (outer : List PySem.Env) (s : Shared) (H : Hp) (E : XK) (scope : Scope) (f c' : Addr) (k : Nat) (hr : Room k (A.deeper (lamEnv C.X scope s.heap.objs.size f c'))) : Ct where
  X := lamN C.X A outer s H E scope f c'
  W := fun cls d _ H => E cls d H
  tk := L2N.takes_of rfl rfl rfl rfl
  O := C.O
  U := C.U
  le := C.le
  base := H
  lv := k
  room := roomH_of hr
  hd := fun _ => hr.hd
theorem gr_laid {U : Addr → Bool} {H H' : Hp} {Pt : Addr} (hU : U Pt = true) (hP : TabS H Pt lamQ) (l : Laid Pt lamQ H H') : Gr U H H' := by
  refine ⟨fun b o hb e => l.keep b o (fun z => by rw [z, hU] at hb; cases hb) e, fun b k hb h => ?_⟩
  obtain ⟨ps0, p0, _⟩ := hP
  by_cases z : b = Pt
  · subst z
    cases k with
    | none => obtain ⟨x, y, h⟩ := h; rw [p0] at h; cases h
    | some q => obtain ⟨e, _⟩ := h; exact ⟨e, by rw [e]; exact l.tab⟩
  · cases k with
    | none => obtain ⟨x, y, h⟩ := h; exact ⟨x, y, l.keep _ _ z h⟩
    | some q =>
      obtain ⟨e, ps, h1, h2, h3⟩ := h
      refine ⟨e, ps, l.keep _ _ z h1, h2, fun pos cv hc => ?_⟩
      obtain ⟨c, e1, e2⟩ := h3 pos cv hc
      exact ⟨c, e1, l.keep _ _ (fun y => by rw [y, p0] at e2; unfold CodeO at e2; cases e2) e2⟩
theorem errD_vis {C : Ct} {ρ : Rho} {σ : L2.St} {H : Hp} {v : V} {x : Str} (E : Env C ρ σ H) (hO : ∀ b, C.O b = true → C.U b = true) (hown : ∀ b, owns ρ b = false) (h : At H v (errD x)) : At (vis C ρ H) v (errD x) := by
  obtain ⟨a, xs, rfl, h1, h2⟩ := h.ref_tup
  have ha : inn C ρ a = false := by
    unfold inn
    rw [hown, Bool.or_false]
    cases e : C.O a with
    | false => rfl
    | true =>
      obtain ⟨k, hk⟩ := E.cell a (hO a e)
      cases k with
      | none => obtain ⟨y, z, hk⟩ := hk; rw [h1] at hk; cases hk
      | some q => obtain ⟨_, ps, hk, _⟩ := hk; rw [h1] at hk; cases hk
  refine .tup ((hid_at ha).trans h1) ?_
  obtain ⟨v1, v2, rfl, r1, r2⟩ := h2.two
  rw [r1.str_inv, r2.str_inv]
  exact .cons (.str _) (.cons (.str _) .nil)
theorem env_lam {C : Ct} {ρ : Rho} {σ : L2.St} {H : Hp} {A : Around} {outer : List PySem.Env} {s : Shared} {E : XK} {scope : Scope} {f c' : Addr} {k : Nat} {hr : Room k (A.deeper (lamEnv C.X scope s.heap.objs.size f c'))} (Ev : Env C ρ σ H) (hown : ∀ b, owns ρ b = false) : Env (lamCt C A outer s H E scope f c' k hr) ρ σ H := by
  refine ⟨Ev.len, fun i => ?_, Ev.cell, Ev.alloc, Gr.refl _ _, Ev.dis⟩
  have q := Ev.slot i
  cases h : gt ρ i with
  | no => trivial
  | dat d => rw [h] at q; exact q
  | raw v => rw [h] at q; exact q
  | own p ds =>
    have : owns ρ p = true := owns_iff.mpr ⟨i, by rw [h]; rfl⟩
    rw [hown] at this; cases this
  | dic p ds =>
    have : owns ρ p = true := owns_iff.mpr ⟨i, by rw [h]; rfl⟩
    rw [hown] at this; cases this
  | thg p th =>
    have : owns ρ p = true := owns_iff.mpr ⟨i, by rw [h]; rfl⟩
    rw [hown] at this; cases this
theorem de_told {C : Ct} {Ξ : Addr → Prop} {ρ : Rho} (T : Txt C.X.K C.X.mg) (Ex : Exs C.X.K C.X.mg) {c Pt : Addr} {k : Nat} {params : Arguments} {body : Expr} {scope : Scope} {Ξ' : Str → Prop} {P : PyData → Prop} {p lpos pos : Pos} (hcode : C.X.env.code = .ref c) (TB : TabB C.X.base C.X.mg c Pt) (hU : C.U Pt = true) (hP : Cell (some lamQ) C.base Pt) (hO : ∀ b, C.O b = true → C.U b = true) (hr : Room (k + 2) C.X.A)
    (hq : C.X.env.qual ++ "<lambda>" = lamQ) (hown : ∀ b, owns ρ b = false) (hg : Gl C.X "_law_told") (L : LamS C.X.env.scope scope) (hdef : defaultsOf params C.X.env = ([], []))
    (hbind : ∀ (q : Str) (cl : List (Str × Addr)) (pm cv ctv : Value), bindArgs (PySem.W.kla_fn "<lambda>" q params body scope cl pm cv ctv) ⟨[], []⟩ = pure [])
    (hbody : ∀ A outer s H E f c' hr', DE (lamCt C A outer s H E scope f c' k hr') (fun a => ∃ x, x ∈ xnm ∧ Ξ' x ∧ a = He.ga C.X.K x) ρ body P) :
    DE C Ξ ρ (.Call (.Name "_law_told" p) [.Lambda params body scope lpos] [] pos) (fun d => P d ∨ ∃ x, x ∈ xnm ∧ Ξ' x ∧ d = errD x) := fun σ H Ev Q q z => by
  have hT : TabS H Pt lamQ := (Ev.gr.cell Pt (some lamQ) hU hP).2
  refine ⟨_, pe_told T Ex hg hcode TB hr L hdef hbind (te := fun H1 E σ1 H2 Q => ∀ (A : Around) (outer : List PySem.Env) (s : Shared) (f c' : Addr), Room k (A.deeper (lamEnv C.X scope s.heap.objs.size f c')) → cE (lamN C.X A outer s H1 E scope f c') body σ1 H2 Q) (fun A outer s H E f c' hr' => ⟨fun pins s' σ' H' Q' I h => pE.run pins s' σ' H' Q' I (h A outer s f c' hr')⟩), by rw [hq]; exact hT, fun H1 lay A outer s f c' hr' => ?_⟩
  rw [hq] at lay
  have g1 := gr_laid hU hT lay
  have E1 := Ev.grow g1
  refine hbody A outer s H1 _ f c' hr' σ H1 (env_lam E1 hown) Q (fun d v H2 pd g r => q d v H2 (.inl pd) (g1.trans g) r) (fun cc H2 ⟨x, hx, hξ, e⟩ g => ⟨x, hx, by rw [e], rfl, fun v H'' ss ra => ?_⟩)
  exact q _ v H'' (.inr ⟨x, hx, hξ, rfl⟩) ((g1.trans g).trans (Gr.of ss)) (errD_vis ((E1.grow g).grow (Gr.of ss)) hO hown ra)
/-- what the law's context gives to its lambdas -/
structure LawOk (C : Ct) (sc : Scope) (k : Nat) : Prop where
  ex : ∃ c Pt : Addr, C.X.env.code = .ref c ∧ TabB C.X.base C.X.mg c Pt ∧ C.U Pt = true ∧ Cell (some lamQ) C.base Pt
  hO : ∀ b, C.O b = true → C.U b = true
  hr : Room (k + 2) C.X.A
  hq : C.X.env.qual ++ "<lambda>" = lamQ
  hs : C.X.env.scope = sc
section
variable {C : Ct} {Ξ : Addr → Prop} {ρ : Rho} {params : Arguments} {body : Expr} {scope sc : Scope} {k : Nat} {p lpos pos : Pos}
theorem told_any {Ξ' : Str → Prop} {P : PyData → Prop} (T : Txt C.X.K C.X.mg) (Ex : Exs C.X.K C.X.mg) (W : LawOk C sc k) (hL : lamSB sc scope = true) (hown : ∀ b, owns ρ b = false) (hg : Gl C.X "_law_told") (hdef : defaultsOf params C.X.env = ([], [])) (hbind : ∀ (q : Str) (cl : List (Str × Addr)) (pm cv ctv : Value), bindArgs (PySem.W.kla_fn "<lambda>" q params body scope cl pm cv ctv) ⟨[], []⟩ = pure [])
    (hbody : ∀ A outer s H E f c' hr', DE (lamCt C A outer s H E scope f c' k hr') (fun a => ∃ x, x ∈ xnm ∧ Ξ' x ∧ a = He.ga C.X.K x) ρ body P) :
    DE C Ξ ρ (.Call (.Name "_law_told" p) [.Lambda params body scope lpos] [] pos) (fun d => P d ∨ ∃ x, x ∈ xnm ∧ Ξ' x ∧ d = errD x) := by
  obtain ⟨c, Pt, h1, h2, h3, h4⟩ := W.ex
  exact de_told T Ex h1 h2 h3 h4 W.hO W.hr W.hq hown hg (lamS_by (by rw [W.hs]; exact hL)) hdef hbind hbody
/-- the lambda returns d -/
theorem told_rt {d : PyData} (T : Txt C.X.K C.X.mg) (Ex : Exs C.X.K C.X.mg) (W : LawOk C sc k) (hL : lamSB sc scope = true) (hown : ∀ b, owns ρ b = false) (hg : Gl C.X "_law_told") (hdef : defaultsOf params C.X.env = ([], [])) (hbind : ∀ (q : Str) (cl : List (Str × Addr)) (pm cv ctv : Value), bindArgs (PySem.W.kla_fn "<lambda>" q params body scope cl pm cv ctv) ⟨[], []⟩ = pure [])
    (hbody : ∀ A outer s H E f c' hr', DEd (lamCt C A outer s H E scope f c' k hr') none' ρ body d) : DEd C Ξ ρ (.Call (.Name "_law_told" p) [.Lambda params body scope lpos] [] pos) d :=
  (told_any (Ξ' := fun _ => False) T Ex W hL hown hg hdef hbind fun A outer s H E f c' hr' σ H' E' Q q z => hbody A outer s H E f c' hr' σ H' E' Q q fun c H2 f _ => f.elim).imp fun d' h => by
    rcases h with h | ⟨_, _, h, _⟩
    · exact h
    · exact h.elim
/-- the lambda raises X -/
theorem told_ex (x : Str) (hx : xnm.contains x = true) (T : Txt C.X.K C.X.mg) (Ex : Exs C.X.K C.X.mg) (W : LawOk C sc k) (hL : lamSB sc scope = true) (hown : ∀ b, owns ρ b = false) (hg : Gl C.X "_law_told") (hdef : defaultsOf params C.X.env = ([], [])) (hbind : ∀ (q : Str) (cl : List (Str × Addr)) (pm cv ctv : Value), bindArgs (PySem.W.kla_fn "<lambda>" q params body scope cl pm cv ctv) ⟨[], []⟩ = pure [])
    (hbody : ∀ A outer s H E f c' hr', DE (lamCt C A outer s H E scope f c' k hr') (fun a => a = He.ga C.X.K x) ρ body fun _ => False) : DEd C Ξ ρ (.Call (.Name "_law_told" p) [.Lambda params body scope lpos] [] pos) (errD x) :=
  (told_any (Ξ' := fun y => y = x) (P := fun _ => False) T Ex W hL hown hg hdef hbind fun A outer s H E f c' hr' σ H' E' Q q z => hbody A outer s H E f c' hr' σ H' E' Q q fun c H2 f g => z c H2 ⟨x, List.contains_iff_mem.mp hx, rfl, f⟩ g).imp fun d' h => by
    rcases h with h | ⟨y, _, h, e⟩
    · exact h.elim
    · rw [e, h]
theorem sh_err (x : Str) (h : PyData.strOk x = true) : SeqAt.shaped (errD x) = true := by
  unfold SeqAt.shaped
  have e : PyData.strOk "error" = true := by decide +kernel
  simp [PyData.canLay0, PyData.canLayAll0, PyData.depth, PyData.depthAll, h, e]
theorem eqv_err (x : Str) : PyData.eqv (errD x) (errD x) = true := by simp [PyData.eqv, PyData.eqvAll]
/-- told(lambda: ..) != ("error", X), the lambda raises X -/
theorem told_ne (x : Str) {j1 j2 kt : Nat} {p1 p2 p3 pos2 : Pos} (hx : xnm.contains x = true) (hok : PyData.strOk x = true) (T : Txt C.X.K C.X.mg) (Ex : Exs C.X.K C.X.mg) (W : LawOk C sc k) (hL : lamSB sc scope = true) (hown : ∀ b, owns ρ b = false) (hg : Gl C.X "_law_told") (hdef : defaultsOf params C.X.env = ([], [])) (hbind : ∀ (q : Str) (cl : List (Str × Addr)) (pm cv ctv : Value), bindArgs (PySem.W.kla_fn "<lambda>" q params body scope cl pm cv ctv) ⟨[], []⟩ = pure [])
    (hbody : ∀ A outer s H E f c' hr', DE (lamCt C A outer s H E scope f c' k hr') (fun a => a = He.ga C.X.K x) ρ body fun _ => False)
    (he1 : starEach [.Constant (.str "error") j1 p1, .Constant (.str x) j2 p2] C.X.env = (false, eval (.Constant (.str "error") j1 p1) C.X.env) :: starEach [.Constant (.str x) j2 p2] C.X.env := by rfl) (he2 : starEach [.Constant (.str x) j2 p2] C.X.env = (false, eval (.Constant (.str x) j2 p2) C.X.env) :: starEach [] C.X.env := by rfl) :
    DTd C Ξ ρ (.Compare (.Call (.Name "_law_told" p) [.Lambda params body scope lpos] [] pos) [.NotEq] [.Tuple [.Constant (.str "error") j1 p1, .Constant (.str x) j2 p2] kt p3] pos2) false :=
  DT.to (dt_neD (sh_err x hok) (sh_err x hok) (told_ex x hx T Ex W hL hown hg hdef hbind hbody) (de_tup (da_cons de_str (da_cons de_str da_nil he2) he1) (by show 2 ≤ _; omega)) rfl) (by rw [eqv_err]; rfl)
end
end DD

namespace DD
open PySem L2
open PySem.Spec PyProof.Rows L2H HotX LamX
variable {P : Program} {w : World} {K : PySem.W.Frag} {mg : Str → Option Value} {base : Heap}
/-! ## the law -/
abbrev lawN : List Str := ["_law_script", "_law_dice", "_law_base", "_law_size", "_law_some", "_law_known", "_law_one", "_law_row"]
theorem sc_law : FnScope lawN ["_law_script"] (defScope s_law) := ⟨rfl, rfl, rfl, by decide +kernel, rfl, by decide +kernel, by decide +kernel⟩
theorem row_srt {b : Int} {r : List Int} (h : Row b r) : Row b (srtI r) := ⟨by rw [srtI_len]; exact h.1, h.2.srt⟩
theorem srt_idem (r : List Int) : srtI (srtI r) = srtI r := srt_perm (srtI_perm r)
def isS (r : List Int) : Bool := decide (r = srtI r)
theorem law_turn (T : Txt K mg) (Ex : Exs K mg) {c Pt : Addr} (TB : TabB base mg c Pt) (A : Around) (outer : List PySem.Env) (s : Shared) (H : Hp) (E : XK) (hr : Room 9 (A.deeper (envOfC "law" (defScope s_law) s.heap.objs.size (He.ga K "law") (.ref c)))) (U : Addr → Bool) (H1 : Hp) (a : Addr) (hUa : U a = true) (hca : Cell none H1 a) (hUP : U Pt = true) (hcP : Cell (some lamQ) H1 Pt) :
    DSs (lawC P w K mg base lawN (defScope s_law) (He.ga K "law") (.ref c) A outer s H E 9 hr U H1) (turnF (fun ρ => ρ.length = lawN.length) fun _ => False) (.no :: .raw (.ref a) :: List.replicate 6 .no) (forBody (defBody s_law)) := by
  have LW : LawOk (lawC P w K mg base lawN (defScope s_law) (He.ga K "law") (.ref c) A outer s H E 9 hr U H1) (defScope s_law) 6 := ⟨⟨c, Pt, rfl, TB, hUP, hcP⟩, fun b h => h, hr.mono (by omega), rfl, rfl⟩
  refine dss_cons (ds_asg (js := [2, 3]) (P := fun d => ∃ (b : Int) (n : Nat), d = .tuple [.int b, .int (n : Int)] ∧ LBase b ∧ (1 ≤ n ∧ n ≤ 7) ∧ b ^ n ≤ 1200) (ρ' := fun d => [.no, .raw (.ref a), .dat (fstD d), .dat (sndD d), .no, .no, .no, .no]) (de_dice 1 1200 (ok__law_small T) rfl hUa hca rfl rfl (.inl rfl) (da_cons de_int da_nil) (by decide) (fun d h => h)) ?_ ?_)
  · rintro d ⟨b, n, rfl, _⟩
    exact dg_tup (dgs_cons (dg_name 2 sc_law.nd rfl (.inr rfl)) (dgs_cons (dg_name 3 sc_law.nd rfl (.inl rfl)) dgs_nil))
  rintro d ⟨b, n, rfl, hlb, hn, hp7⟩
  have hb := hlb.b
  have hLB : b ∈ LB := hlb
  have b2 := hb.1
  have b12 := hb.2
  have b1 : 1 ≤ b := by omega
  have hs : Small b n := ⟨hb, ⟨hn.1, by omega⟩, by omega⟩
  have hlen : (allR b n).length ≤ 1200 := by rw [allR_len]; omega
  have hrowsR : ∀ r ∈ allR b n, Row b r := fun r h => allR_row b1 hs.hn h
  have hrT : ∀ x ∈ roundsL b n, RowsT x := fun x hx => rounds_T hb hs.hn hx
  refine dss_cons (ds_setLc 4 (own := [("_law_row", 7)]) (js := [7]) (Pd := fun ds => ds = (allR b n).map tI) (ρ1 := fun d => [.no, .raw (.ref a), .dat (.int b), .dat (.int (n : Int)), .no, .no, .no, .dat d]) (fun d => isS (unT d)) (fun d e => e = d) sc_law.nd rfl rfl (blkOk_by (own := [("_law_row", 7)]) (by show blkC lawN (defScope s_law) _ _ = true; decide +kernel)) (dit_list (DE.to (de_f (b, n) (ok__law_all T) rfl (da_cons (de_var 2 rfl rfl (.inr (.inl rfl))) (da_cons (de_var 3 rfl rfl (.inl rfl)) da_nil)) ⟨hb, hs.hn.2, hs.hp⟩ rfl) (by rw [allL_R b1]))) (fun ds e => by rw [e, List.length_map]; omega) ?_ (by decide) (fun a => rfl) ?_)
  · rintro ds rfl k d hk s H Cc cl fp O' le'
    rw [List.getElem?_map] at hk
    cases hr : (allR b n)[k]? with
    | none => rw [hr] at hk; cases hk
    | some r =>
    rw [hr] at hk
    injection hk with hk
    subst hk
    exact ⟨fun a => rfl, dg_name 7 sc_law.nd rfl (.inl rfl), dts_one (DT.to (dt_eqD (x := lI r) (y := lI (srtI r)) (shL _) (shL _) (de_listT rfl T.n_list (de_var 7 rfl rfl (.inl rfl))) (DE.to (de_sortT (Ct.un _) rfl T.n_sorted (de_var 7 rfl rfl (.inl rfl)) (can_iv _)) (by rw [sort_iv]))) (by rw [eqvL]; show _ = isS (unT (tI r)); rw [unT_tI]; rfl)), fun _ => (de_var 7 rfl rfl (.inl rfl))⟩
  rintro ds es rfl mk
  have ees : es = ((allR b n).filter isS).map tI := by
    unfold Made at mk
    rw [paired_map (f := fun d => d) mk, List.map_id', List.filter_map]
    congr 1
    refine List.filter_congr fun r _ => ?_
    show isS (unT (tI r)) = _
    rw [unT_tI]
  subst ees
  have hSl : ((allR b n).filter isS).length ≤ 1200 := Nat.le_trans (List.length_filter_le _ _) hlen
  have hSr : ∀ r ∈ (allR b n).filter isS, Row b r ∧ r ∈ allR b n := fun r h => ⟨hrowsR r (List.mem_filter.mp h).1, (List.mem_filter.mp h).1⟩
  refine dss_cons (ds_set 5 (P := fun d => d = .list (roundsL b n)) (DE.imp (de_sortedSetK (ds := ((allR b n).filter isS).map (circD b)) ?_ ?_ rfl T.n_sorted rfl T.n_set (DE.to (de_lc 7 (fun d => circD b (unT d)) sc_law.nd (blkOk_by (by show blkC lawN (defScope s_law) _ _ = true; decide +kernel)) (dit_list (ds := ((allR b n).filter isS).map tI) (de_var 4 rfl rfl (.inl rfl))) (by rw [List.length_map]; omega) (fun s H Cc cl fp => .inl rfl) rfl (fun k d hk s H Cc cl fp O' le' => ?_) (fun a => rfl) (fun d a => rfl) (fun s H Cc cl fp => .inr rfl)) ?_)) fun d ⟨rs, h1, h2, h3⟩ => ?_) ?_ sc_law.nd rfl (.inl rfl))
  · intro d hd
    obtain ⟨r, hr, rfl⟩ := List.mem_map.mp hd
    exact circD_rowsT hb (hSr r hr).1
  · refine few_rounds hb hLB hn hp7 fun d hd => ?_
    obtain ⟨r, hr, rfl⟩ := List.mem_map.mp hd
    exact ⟨r, (hSr r hr).2, rfl⟩
  · rw [List.getElem?_map] at hk
    cases hr : ((allR b n).filter isS)[k]? with
    | none => rw [hr] at hk; cases hk
    | some r =>
    rw [hr] at hk
    injection hk with hk
    subst hk
    rw [unT_tI]
    exact de_f (b, r) (ok__law_round T) rfl (da_cons (de_var 2 rfl rfl (.inr (.inl rfl))) (da_cons (de_var 7 rfl rfl (.inl rfl)) da_nil)) ⟨hb, (hSr r (List.mem_of_getElem? hr)).1⟩ rfl
  · rw [List.map_map]
    congr 1
    exact List.map_congr_left fun r _ => by show circD b (unT (tI r)) = _; rw [unT_tI]
  · rw [h3, sort_rounds hb hs.hn h1 fun x => ?_]
    rw [h2, List.mem_map]
    constructor
    · rintro ⟨r, hr, e⟩; exact ⟨r, (hSr r hr).2, e⟩
    · rintro ⟨r, hr, e⟩
      have hrow := hrowsR r hr
      have hsr := row_srt hrow
      refine ⟨srtI r, List.mem_filter.mpr ⟨(allR_mem b1).mpr ⟨hsr.2, by rw [srtI_len]; exact ((allR_mem b1).mp hr).2⟩, decide_eq_true (srt_idem r).symm⟩, ?_⟩
      rw [← e]
      exact circ_perm hb hsr hrow (srtI_perm r)
  rintro d rfl
  have hrl : (roundsL b n).length ≤ 1200 := by
    have h := nd_map (f := headT) (rounds_nd b n) fun x hx y hy e => by
      obtain ⟨r, hr, rfl⟩ := rounds_mem.mp hx
      obtain ⟨o, ho, rfl⟩ := rounds_mem.mp hy
      obtain ⟨m, L, _, _, e2, e3, _⟩ := circ_head hb (hrowsR r hr)
      obtain ⟨m', L', _, _, e2', e3', _⟩ := circ_head hb (hrowsR o ho)
      rw [e2, e2'] at e
      rw [e3, e3', e]
    have := nd_le h (m := allR b n) fun z hz => by
      obtain ⟨x, hx, rfl⟩ := List.mem_map.mp hz
      obtain ⟨r, hr, rfl⟩ := rounds_mem.mp hx
      obtain ⟨m, L, c, _, e2, _, hm, _⟩ := circ_head hb (hrowsR r hr)
      obtain ⟨i, hi⟩ := c.at_
      rw [e2]
      exact (allR_mem b1).mpr ⟨hm.2, by rw [← hi, orb_len]; exact ((allR_mem b1).mp hr).2⟩
    rw [List.length_map] at this
    omega
  refine dss_no rfl (dt_neS (x := .tuple (roundsL b n)) (sh_rdsT hrT) (de_f (PyData.int b, PyData.int (n : Int)) (ok_rounds T) rfl (da_cons (de_var 2 rfl rfl (.inr (.inl rfl))) (da_cons (de_var 3 rfl rfl (.inl rfl)) da_nil)) trivial (fTab_ok hs)) (de_tupleL rfl T.n_tuple (de_var 5 rfl rfl (.inl rfl)))) ?_
  have hfr : ∀ x ∈ fixedL b n, ∃ r ∈ allR b n, stepI b r = r ∧ x = tI r := fun x hx => fixed_mem.mp hx
  have hfA : AllRows (fixedL b n) := fun x hx => by obtain ⟨r, _, _, e⟩ := hfr x hx; exact ⟨r, e⟩
  refine dss_no rfl (dt_neS (x := .tuple (fixedL b n)) (sh_rowsTup hfA) (de_f (PyData.int b, PyData.int (n : Int)) (ok_fixed_rows T) rfl (da_cons (de_var 2 rfl rfl (.inr (.inl rfl))) (da_cons (de_var 3 rfl rfl (.inl rfl)) da_nil)) trivial (fTab_ok hs)) (DE.to (de_tupleL rfl T.n_tuple (DE.imp (de_lcG (js := [6]) (Pd := fun ds => ds = roundsL b n) (ρ1 := fun d => [.no, .raw (.ref a), .dat (.int b), .dat (.int (n : Int)), .dat (.list (((allR b n).filter isS).map tI)), .dat (.list (roundsL b n)), .dat d, .no]) (fun d => decide (lenT d = 1)) (fun d e => e = tI (headT d)) sc_law.nd (blkOk_by (own := [("_law_one", 6)]) (by show blkC lawN (defScope s_law) _ _ = true; decide +kernel)) (dit_list (de_var 5 rfl rfl (.inl rfl))) (fun ds e => by rw [e]; omega) ?_ (by decide) (fun a => rfl)) (P' := fun d => d = .list (fixedL b n)) ?_)) rfl)) ?_
  · rintro ds rfl k d hk s H Cc cl fp O' le'
    obtain ⟨r, hr, rfl⟩ := rounds_mem.mp (List.mem_of_getElem? hk)
    obtain ⟨m, L, c, e1, e2, e3, hm, e4⟩ := circ_head hb (hrowsR r hr)
    obtain ⟨ds', e5⟩ := circR_cons b m c.pos
    refine ⟨fun a => rfl, dg_name 6 sc_law.nd rfl (.inl rfl), dts_one (DT.to (dt_eqI (x := (L : Int)) (y := 1) (DE.to (de_lenT (ds := circR b m L) rfl T.n_len (DE.to (de_var 6 rfl rfl (.inl rfl)) e1)) (by rw [circR_len])) de_int) ?_), fun _ => ?_⟩
    · show decide ((L : Int) = 1) = decide (lenT (circD b r) = 1)
      rw [e4, decide_eq_decide]; omega
    · exact DE.to (d := tI m) (de_ixT (ds := circR b m L) (i := 0) (DE.to (de_var 6 rfl rfl (.inl rfl)) e1) de_int (by rw [e5]; exact atI_head _ _)) (by rw [e2])
  · rintro d ⟨ds, es, rfl, mk, rfl⟩
    unfold Made at mk
    rw [paired_map mk, fix_heads hb hs.hn]
  have fx : ∀ {C : Ct} {Ξ : Addr → Prop} {ρ : Rho} {e : Expr}, DEd C Ξ ρ e (.tuple (fixedL b n)) → DEd C Ξ ρ e (.tuple (fixedL b n)) := fun h => h
  refine dss_no rfl (DT.to (dt_cmp (op_niT (by have := (lawC P w K mg base lawN (defScope s_law) (He.ga K "law") (.ref c) A outer s H E 9 hr U H1).un; omega)) rfl (DE.to (de_rep (xs := [.int 0]) (k := (n : Int)) (de_tup (da_cons de_int da_nil)) (de_var 3 rfl rfl (.inl rfl)) (by simp) (by omega) (by omega) (by simp)) (by rw [rep_iv, Int.toNat_natCast])) (de_f (PyData.int b, PyData.int (n : Int)) (ok_fixed_rows T) rfl (da_cons (de_var 2 rfl rfl (.inr (.inl rfl))) (da_cons (de_var 3 rfl rfl (.inl rfl)) da_nil)) trivial (fTab_ok hs)) (rb_niT (shT (List.replicate n 0)) (sh_rowsTup hfA))) ?_) ?_
  · rw [show ((fixedL b n).any fun z => PyData.eqv z (tI (List.replicate n 0))) = true from List.any_eq_true.mpr ⟨tI (List.replicate n 0), fixed_mem.mpr ⟨_, (allR_mem b1).mpr ⟨fun m hm => by rw [List.eq_of_mem_replicate hm]; omega, List.length_replicate⟩, step_zero b1 n, rfl⟩, by rw [eqvT]; exact decide_eq_true rfl⟩]
    rfl
  have hfl : (fixedL b n).length ≤ 1200 := by
    rw [← fix_heads hb hs.hn, List.length_map]
    exact Nat.le_trans (List.length_filter_le _ _) hrl
  refine dss_no rfl (DT.to (dt_not (dt_val (de_all (bs := (fixedL b n).map fun _ => true) rfl T.n_all (DE.to (de_lc 7 (fun d => .bool true) sc_law.nd (blkOk_by (by show blkC lawN (defScope s_law) _ _ = true; decide +kernel)) (dit_tup (ds := fixedL b n) (de_f (PyData.int b, PyData.int (n : Int)) (ok_fixed_rows T) rfl (da_cons (de_var 2 rfl rfl (.inr (.inl rfl))) (da_cons (de_var 3 rfl rfl (.inl rfl)) da_nil)) trivial (fTab_ok hs))) (by omega) (fun s H Cc cl fp => .inl rfl) rfl (fun k d hk s H Cc cl fp O' le' => ?_) (fun a => rfl) (fun d a => rfl) (fun s H Cc cl fp => .inr rfl)) ?_)))) (by rw [show ((fixedL b n).map fun _ => true).all id = true by simp]; rfl)) ?_
  · obtain ⟨r, hr, h1, rfl⟩ := hfr d (List.mem_of_getElem? hk)
    have hrow := hrowsR r hr
    exact DE.to (de_eqT (x := stepI b r) (y := r) (de_f (PyData.int b, tI r) (ok_step T) rfl (da_cons (de_var 2 rfl rfl (.inr (.inl rfl))) (da_cons (de_var 7 rfl rfl (.inl rfl)) da_nil)) trivial (fRow_ok hb hrow)) (de_var 7 rfl rfl (.inl rfl))) (by rw [decide_eq_true h1])
  · rw [List.map_map]
    rfl
  refine dss_cons (ds_for (dit_list (ds := roundsL b n) (de_var 5 rfl rfl (.inl rfl))) (fun _ k ρ => ∃ s6 s7, s6.addr = none ∧ s7.addr = none ∧ ρ = [.no, .raw (.ref a), .dat (.int b), .dat (.int (n : Int)), .dat (.list (((allR b n).filter isS).map tI)), .dat (.list (roundsL b n)), s6, s7]) (fun _ _ => ⟨.no, .no, rfl, rfl, rfl⟩) (fun ds k d ρ' e hk _ => dg_name 6 sc_law.nd rfl (.inl rfl)) ?_ ?_ (passes_of rfl))
  · rintro ds k d ρ' rfl hk ⟨s6, s7, _, a7, rfl⟩
    obtain ⟨r, hr, rfl⟩ := rounds_mem.mp (List.mem_of_getElem? hk)
    obtain ⟨m, L, cc, e1, e2, e3, hm, e4⟩ := circ_head hb (hrowsR r hr)
    refine dss_one (ds_for (dit_tup (ds := cutD (circR b m L) none (some 3)) (de_slT (DE.to (de_var 6 rfl rfl (.inl rfl)) e1) do_none (do_some de_int))) (fun _ k ρ => ∃ s7, s7.addr = none ∧ ρ = [.no, .raw (.ref a), .dat (.int b), .dat (.int (n : Int)), .dat (.list (((allR b n).filter isS).map tI)), .dat (.list (roundsL b n)), .dat (circD b r), s7]) (fun _ _ => ⟨s7, a7, rfl⟩) (fun ds k d ρ' e hk _ => dg_name 7 sc_law.nd rfl (.inl rfl)) ?_ ?_ (passes_of rfl))
    · rintro ds j d2 ρ' rfl hj ⟨s7, _, rfl⟩
      obtain ⟨t, ht⟩ : ∃ t, d2 = tI (orb b m t) := by
        have hm2 := cut_sub (List.mem_of_getElem? hj)
        unfold circR at hm2
        obtain ⟨t, _, e⟩ := List.mem_map.mp hm2
        exact ⟨t, e.symm⟩
      subst ht
      have hot := orb_row b1 hm t
      have eqc : circD b (orb b m t) = circD b r := by
        rw [e3]
        exact circD_meet (i := 0) (j := t) hb hot hm rfl
      refine dss_no rfl (DT.to (dt_w (dw_or (dt_neS (x := circD b r) (circD_rowsT hb (hrowsR r hr)).sh (DE.to (de_f (PyData.int b, tI (orb b m t)) (ok_round_of T) rfl (da_cons (de_var 2 rfl rfl (.inr (.inl rfl))) (da_cons (de_var 7 rfl rfl (.inl rfl)) da_nil)) trivial (fRound_ok hb hot)) eqc) (de_var 6 rfl rfl (.inl rfl))) fun _ => dw_or1 (dt_not (dt_val (de_f (PyData.int b, tI (orb b m t)) (ok_is_in_round T) rfl (da_cons (de_var 2 rfl rfl (.inr (.inl rfl))) (da_cons (de_var 7 rfl rfl (.inl rfl)) da_nil)) trivial (fRow_ok hb hot)))))) (by rw [circ_crs hb hm cc t]; rfl)) (dss_nil ⟨_, rfl, rfl⟩)
    · rintro ds ρ' rfl ⟨s7, a7, rfl⟩
      exact ⟨_, s7, rfl, a7, rfl⟩
  rintro ds ρ' rfl ⟨s6, s7, a6, a7, rfl⟩
  have own : ∀ x, owns ([.no, .raw (.ref a), .dat (.int b), .dat (.int (n : Int)), .dat (.list (((allR b n).filter isS).map tI)), .dat (.list (roundsL b n)), s6, s7] : Rho) x = false := fun x => by
    cases s6 <;> first | (cases a6; done) | (cases s7 <;> first | rfl | (cases a7; done))
  have h10 : Base 10 := ⟨by decide, by decide⟩
  refine dss_no rfl (told_ne "TooLarge" (by decide +kernel) (by decide +kernel) T Ex LW (by decide +kernel) own rfl rfl (fun _ _ _ _ _ => rfl) fun A2 outer2 s2 H2 E2 f2 c2 hr2 => dx_f (PyData.int 10, PyData.int ((5 : Nat) : Int)) (ok_rounds T) rfl (da_cons de_int (da_cons de_int da_nil)) trivial (fTab_ex (fNB2_large h10 ⟨by decide, by decide⟩ (by decide))) rfl) ?_
  refine dss_no rfl (told_ne "TooLarge" (by decide +kernel) (by decide +kernel) T Ex LW (by decide +kernel) own rfl rfl (fun _ _ _ _ _ => rfl) fun A2 outer2 s2 H2 E2 f2 c2 hr2 => dx_f (PyData.int 11, PyData.int ((4 : Nat) : Int)) (ok_fixed_rows T) rfl (da_cons de_int (da_cons de_int da_nil)) trivial (fTab_ex (fNB2_large ⟨by decide, by decide⟩ ⟨by decide, by decide⟩ (by decide))) rfl) ?_
  have hs104 : Small 10 4 := ⟨h10, ⟨by decide, by decide⟩, by decide⟩
  refine dss_cons (ds_if (B := fun k => k = false) (dt_rollAnd (DE.imp (P' := fun d => ∃ i : Int, d = .int i) (de_dice 1 6 (ok__law_roll T) rfl hUa hca rfl rfl (.inl rfl) (da_cons de_int da_nil) (by decide) (fun d h => h)) fun d ⟨r, e, h⟩ => ⟨r, e⟩) (dt_neS (x := .tuple [tI [0, 0, 0, 0], tI [6, 1, 7, 4]]) rfl (DE.to (told_rt T Ex LW (by decide +kernel) own rfl rfl (fun _ _ _ _ _ => rfl) fun A2 outer2 s2 H2 E2 f2 c2 hr2 => de_f (PyData.int 10, PyData.int ((4 : Nat) : Int)) (ok_fixed_rows T) rfl (da_cons de_int (da_cons de_int da_nil)) trivial (fTab_ok hs104)) (by rw [fixed_10])) (de_tup (da_cons (de_tup (da_cons de_int (da_cons de_int (da_cons de_int (da_cons de_int da_nil))))) (da_cons (de_tup (da_cons de_int (da_cons de_int (da_cons de_int (da_cons de_int da_nil))))) da_nil)) (by show 2 ≤ _; omega)))) (fun h => by cases h) fun _ => dss_nil ?_)
  have hs28 : Small 2 8 := ⟨⟨by decide, by decide⟩, ⟨by decide, by decide⟩, by decide⟩
  have h28 := rounds_28
  exact dss_no rfl (DT.to (dt_w (dw_or (dt_cmp op_lt rfl (de_lenT (ds := roundsL 2 8) rfl T.n_len (de_f (PyData.int 2, PyData.int ((8 : Nat) : Int)) (ok_rounds T) rfl (da_cons de_int (da_cons de_int da_nil)) trivial (fTab_ok hs28))) de_int rb_lt) fun _ => dw_or1 (told_ne "InvalidLength" (by decide +kernel) (by decide +kernel) T Ex LW (by decide +kernel) own rfl rfl (fun _ _ _ _ _ => rfl) fun A2 outer2 s2 H2 E2 f2 c2 hr2 => dx_f (PyData.int b, PyData.int 9) (ok_rounds T) rfl (da_cons (de_var 2 rfl rfl (.inr (.inr rfl))) (da_cons de_int da_nil)) trivial (fTab_ex (fNB2_ex (fNL_len hb rfl))) rfl))) (by rw [decide_eq_false (by omega)]; rfl)) (dss_nil rfl)
end DD

namespace DD
open PySem L2
open PySem.Spec PyProof.Rows L2H HotX LamX
abbrev R : PySem.W.OpenRow := PySem.W.OpenLaw.row PySem.Challenge.rw_digitdrop_k07_whole_rounds
abbrev hk : PySem.W.Hook := He.hookX 5 fa fn [] tf exB
def ob (s : PySem.W.SharedT) : He.AlX := He.obsX 5 fa fn [] tf exB (HandSHeadRun.getT s)
theorem ob_eq (s : PySem.W.SharedT) : ob s = hk.obs s.abs := He.obsX_eq (HandSHeadRun.getT_eq s)
set_option maxHeartbeats 0 in
theorem run (w : World) : HandSHeadRun.RunEq R (PySem.W.view R.prog [53]) hk ob 20000 loose w := by
  intro os
  kernel_rfl
theorem txt_of {K : PySem.W.Frag} {h : Heap} {mg : Str → Option Value} (X : K.In h) (G : h.Ns mainGlobals mg) (c : He.SaysD fa fn K) : Txt K mg where
  n_ValueError := He.free_ok X G (c.fact 37 (f := .free "ValueError") rfl)
  n_all := He.free_ok X G (c.fact 38 (f := .free "all") rfl)
  n_bool := He.free_ok X G (c.fact 39 (f := .free "bool") rfl)
  n_int := He.free_ok X G (c.fact 40 (f := .free "int") rfl)
  n_isinstance := He.free_ok X G (c.fact 41 (f := .free "isinstance") rfl)
  n_len := He.free_ok X G (c.fact 42 (f := .free "len") rfl)
  n_list := He.free_ok X G (c.fact 43 (f := .free "list") rfl)
  n_max := He.free_ok X G (c.fact 44 (f := .free "max") rfl)
  n_min := He.free_ok X G (c.fact 45 (f := .free "min") rfl)
  n_range := He.free_ok X G (c.fact 46 (f := .free "range") rfl)
  n_reversed := He.free_ok X G (c.fact 47 (f := .free "reversed") rfl)
  n_set := He.free_ok X G (c.fact 48 (f := .free "set") rfl)
  n_sorted := He.free_ok X G (c.fact 49 (f := .free "sorted") rfl)
  n_sum := He.free_ok X G (c.fact 50 (f := .free "sum") rfl)
  n_tuple := He.free_ok X G (c.fact 51 (f := .free "tuple") rfl)
  d_is_whole := c.def_ 0 (d := d_is_whole) rfl
  g_is_whole := He.glo_ok X G (c.fact 0 (f := .glo "is_whole") rfl)
  d_need_base := c.def_ 1 (d := d_need_base) rfl
  g_need_base := He.glo_ok X G (c.fact 1 (f := .glo "need_base") rfl)
  d_good := c.def_ 2 (d := d_good) rfl
  g_good := He.glo_ok X G (c.fact 2 (f := .glo "good") rfl)
  d_need_row := c.def_ 3 (d := d_need_row) rfl
  g_need_row := He.glo_ok X G (c.fact 3 (f := .glo "need_row") rfl)
  d_need_length := c.def_ 4 (d := d_need_length) rfl
  g_need_length := He.glo_ok X G (c.fact 4 (f := .glo "need_length") rfl)
  d_power := c.def_ 5 (d := d_power) rfl
  g_power := He.glo_ok X G (c.fact 5 (f := .glo "power") rfl)
  d_need_small := c.def_ 6 (d := d_need_small) rfl
  g_need_small := He.glo_ok X G (c.fact 6 (f := .glo "need_small") rfl)
  d_number_from := c.def_ 7 (d := d_number_from) rfl
  g_number_from := He.glo_ok X G (c.fact 7 (f := .glo "number_from") rfl)
  d_written := c.def_ 8 (d := d_written) rfl
  g_written := He.glo_ok X G (c.fact 8 (f := .glo "written") rfl)
  d_falling_of := c.def_ 9 (d := d_falling_of) rfl
  g_falling_of := He.glo_ok X G (c.fact 9 (f := .glo "falling_of") rfl)
  d_stepped := c.def_ 10 (d := d_stepped) rfl
  g_stepped := He.glo_ok X G (c.fact 10 (f := .glo "stepped") rfl)
  d_step := c.def_ 11 (d := d_step) rfl
  g_step := He.glo_ok X G (c.fact 11 (f := .glo "step") rfl)
  d_course_of := c.def_ 12 (d := d_course_of) rfl
  g_course_of := He.glo_ok X G (c.fact 12 (f := .glo "course_of") rfl)
  d_fate_of := c.def_ 13 (d := d_fate_of) rfl
  g_fate_of := He.glo_ok X G (c.fact 13 (f := .glo "fate_of") rfl)
  d_circle_of := c.def_ 14 (d := d_circle_of) rfl
  g_circle_of := He.glo_ok X G (c.fact 14 (f := .glo "circle_of") rfl)
  d_round_of := c.def_ 15 (d := d_round_of) rfl
  g_round_of := He.glo_ok X G (c.fact 15 (f := .glo "round_of") rfl)
  d_is_in_round := c.def_ 16 (d := d_is_in_round) rfl
  g_is_in_round := He.glo_ok X G (c.fact 16 (f := .glo "is_in_round") rfl)
  d_need_both := c.def_ 17 (d := d_need_both) rfl
  g_need_both := He.glo_ok X G (c.fact 17 (f := .glo "need_both") rfl)
  d_all_falling := c.def_ 18 (d := d_all_falling) rfl
  g_all_falling := He.glo_ok X G (c.fact 18 (f := .glo "all_falling") rfl)
  d_all_circles := c.def_ 19 (d := d_all_circles) rfl
  g_all_circles := He.glo_ok X G (c.fact 19 (f := .glo "all_circles") rfl)
  d_turned := c.def_ 20 (d := d_turned) rfl
  g_turned := He.glo_ok X G (c.fact 20 (f := .glo "turned") rfl)
  d_rounds := c.def_ 21 (d := d_rounds) rfl
  g_rounds := He.glo_ok X G (c.fact 21 (f := .glo "rounds") rfl)
  d_fixed_rows := c.def_ 22 (d := d_fixed_rows) rfl
  g_fixed_rows := He.glo_ok X G (c.fact 22 (f := .glo "fixed_rows") rfl)
  d__law_cell := c.def_ 23 (d := d__law_cell) rfl
  g__law_cell := He.glo_ok X G (c.fact 23 (f := .glo "_law_cell") rfl)
  d__law_drawn := c.def_ 24 (d := d__law_drawn) rfl
  g__law_drawn := He.glo_ok X G (c.fact 24 (f := .glo "_law_drawn") rfl)
  d__law_roll := c.def_ 25 (d := d__law_roll) rfl
  g__law_roll := He.glo_ok X G (c.fact 25 (f := .glo "_law_roll") rfl)
  d__law_rounds := c.def_ 26 (d := d__law_rounds) rfl
  g__law_rounds := He.glo_ok X G (c.fact 26 (f := .glo "_law_rounds") rfl)
  d__law_term := c.def_ 27 (d := d__law_term) rfl
  g__law_term := He.glo_ok X G (c.fact 27 (f := .glo "_law_term") rfl)
  d__law_told := c.def_ 28 (d := d__law_told) rfl
  g__law_told := He.glo_ok X G (c.fact 28 (f := .glo "_law_told") rfl)
  d__law_any_base := c.def_ 29 (d := d__law_any_base) rfl
  g__law_any_base := He.glo_ok X G (c.fact 29 (f := .glo "_law_any_base") rfl)
  d__law_written := c.def_ 30 (d := d__law_written) rfl
  g__law_written := He.glo_ok X G (c.fact 30 (f := .glo "_law_written") rfl)
  d__law_step := c.def_ 31 (d := d__law_step) rfl
  g__law_step := He.glo_ok X G (c.fact 31 (f := .glo "_law_step") rfl)
  d__law_course := c.def_ 32 (d := d__law_course) rfl
  g__law_course := He.glo_ok X G (c.fact 32 (f := .glo "_law_course") rfl)
  d__law_round := c.def_ 33 (d := d__law_round) rfl
  g__law_round := He.glo_ok X G (c.fact 33 (f := .glo "_law_round") rfl)
  d__law_small := c.def_ 34 (d := d__law_small) rfl
  g__law_small := He.glo_ok X G (c.fact 34 (f := .glo "_law_small") rfl)
  d__law_all := c.def_ 35 (d := d__law_all) rfl
  g__law_all := He.glo_ok X G (c.fact 35 (f := .glo "_law_all") rfl)
  d_law := c.def_ 36 (d := d_law) rfl
  g_law := He.glo_ok X G (c.fact 36 (f := .glo "law") rfl)
  x_DigitError := let z := He.exc_ok (c.fact 53 (f := .exc "DigitError") rfl); ⟨He.glo_ok X G (c.fact 52 (f := .glo "DigitError") rfl), z.1, z.2.1, z.2.2.1, z.2.2.2⟩
  x_InvalidBase := let z := He.exc_ok (c.fact 55 (f := .exc "InvalidBase") rfl); ⟨He.glo_ok X G (c.fact 54 (f := .glo "InvalidBase") rfl), z.1, z.2.1, z.2.2.1, z.2.2.2⟩
  x_InvalidRow := let z := He.exc_ok (c.fact 57 (f := .exc "InvalidRow") rfl); ⟨He.glo_ok X G (c.fact 56 (f := .glo "InvalidRow") rfl), z.1, z.2.1, z.2.2.1, z.2.2.2⟩
  x_InvalidLength := let z := He.exc_ok (c.fact 59 (f := .exc "InvalidLength") rfl); ⟨He.glo_ok X G (c.fact 58 (f := .glo "InvalidLength") rfl), z.1, z.2.1, z.2.2.1, z.2.2.2⟩
  x_InvalidNumber := let z := He.exc_ok (c.fact 61 (f := .exc "InvalidNumber") rfl); ⟨He.glo_ok X G (c.fact 60 (f := .glo "InvalidNumber") rfl), z.1, z.2.1, z.2.2.1, z.2.2.2⟩
  x_InvalidSteps := let z := He.exc_ok (c.fact 63 (f := .exc "InvalidSteps") rfl); ⟨He.glo_ok X G (c.fact 62 (f := .glo "InvalidSteps") rfl), z.1, z.2.1, z.2.2.1, z.2.2.2⟩
  x_InvalidPlace := let z := He.exc_ok (c.fact 65 (f := .exc "InvalidPlace") rfl); ⟨He.glo_ok X G (c.fact 64 (f := .glo "InvalidPlace") rfl), z.1, z.2.1, z.2.2.1, z.2.2.2⟩
  x_InvalidDigit := let z := He.exc_ok (c.fact 67 (f := .exc "InvalidDigit") rfl); ⟨He.glo_ok X G (c.fact 66 (f := .glo "InvalidDigit") rfl), z.1, z.2.1, z.2.2.1, z.2.2.2⟩
  x_InvalidText := let z := He.exc_ok (c.fact 69 (f := .exc "InvalidText") rfl); ⟨He.glo_ok X G (c.fact 68 (f := .glo "InvalidText") rfl), z.1, z.2.1, z.2.2.1, z.2.2.2⟩
  x_TooLarge := let z := He.exc_ok (c.fact 71 (f := .exc "TooLarge") rfl); ⟨He.glo_ok X G (c.fact 70 (f := .glo "TooLarge") rfl), z.1, z.2.1, z.2.2.1, z.2.2.2⟩
  x_TooGreat := let z := He.exc_ok (c.fact 73 (f := .exc "TooGreat") rfl); ⟨He.glo_ok X G (c.fact 72 (f := .glo "TooGreat") rfl), z.1, z.2.1, z.2.2.1, z.2.2.2⟩
  x_NothingToUndo := let z := He.exc_ok (c.fact 75 (f := .exc "NothingToUndo") rfl); ⟨He.glo_ok X G (c.fact 74 (f := .glo "NothingToUndo") rfl), z.1, z.2.1, z.2.2.1, z.2.2.2⟩
  e_DigitError := He.exm_ok (c.fact 76 (f := .exm "DigitError" "DigitError" true) rfl)
  e_InvalidBase := He.exm_ok (c.fact 77 (f := .exm "InvalidBase" "DigitError" true) rfl)
  e_InvalidRow := He.exm_ok (c.fact 78 (f := .exm "InvalidRow" "DigitError" true) rfl)
  e_InvalidLength := He.exm_ok (c.fact 79 (f := .exm "InvalidLength" "DigitError" true) rfl)
  e_InvalidNumber := He.exm_ok (c.fact 80 (f := .exm "InvalidNumber" "DigitError" true) rfl)
  e_InvalidSteps := He.exm_ok (c.fact 81 (f := .exm "InvalidSteps" "DigitError" true) rfl)
  e_InvalidPlace := He.exm_ok (c.fact 82 (f := .exm "InvalidPlace" "DigitError" true) rfl)
  e_InvalidDigit := He.exm_ok (c.fact 83 (f := .exm "InvalidDigit" "DigitError" true) rfl)
  e_InvalidText := He.exm_ok (c.fact 84 (f := .exm "InvalidText" "DigitError" true) rfl)
  e_TooLarge := He.exm_ok (c.fact 85 (f := .exm "TooLarge" "DigitError" true) rfl)
  e_TooGreat := He.exm_ok (c.fact 86 (f := .exm "TooGreat" "DigitError" true) rfl)
  e_NothingToUndo := He.exm_ok (c.fact 87 (f := .exm "NothingToUndo" "DigitError" true) rfl)
theorem exs_all {K : PySem.W.Frag} {mg : Str → Option Value} (T : Txt K mg) (h : exB K = true) : Exs K mg := by
  refine exs_of h (fun x hx => ?_) fun x hx => ?_
  · simp only [xnm, List.mem_cons, List.not_mem_nil, or_false] at hx
    rcases hx with rfl | rfl | rfl | rfl | rfl | rfl | rfl | rfl | rfl | rfl | rfl
    · exact T.x_InvalidBase.g
    · exact T.x_InvalidRow.g
    · exact T.x_InvalidLength.g
    · exact T.x_InvalidNumber.g
    · exact T.x_InvalidSteps.g
    · exact T.x_InvalidPlace.g
    · exact T.x_InvalidDigit.g
    · exact T.x_InvalidText.g
    · exact T.x_TooLarge.g
    · exact T.x_TooGreat.g
    · exact T.x_NothingToUndo.g
  · simp only [xnm, List.mem_cons, List.not_mem_nil, or_false] at hx
    rcases hx with rfl | rfl | rfl | rfl | rfl | rfl | rfl | rfl | rfl | rfl | rfl
    · exact T.e_InvalidBase
    · exact T.e_InvalidRow
    · exact T.e_InvalidLength
    · exact T.e_InvalidNumber
    · exact T.e_InvalidSteps
    · exact T.e_InvalidPlace
    · exact T.e_InvalidDigit
    · exact T.e_InvalidText
    · exact T.e_TooLarge
    · exact T.e_TooGreat
    · exact T.e_NothingToUndo
theorem law_ok {P : Program} {w : World} {K : PySem.W.Frag} {mg : Str → Option Value} {base : Heap} (T : Txt K mg) (Ex : Exs K mg) (TB : TabB base mg (He.cT K ("law", none)).1 (He.cT K ("law", none)).2) {fd : FuncData} (F : FunD K "law" "law" (defArgs s_law) (defBody s_law) (defScope s_law) [] [] (He.ga K "law") fd) : FnOk P w K mg base (L2N.CX P w) 10 (He.ga K "law") fd ["_law_script"] (lawSp K (He.cT K ("law", none)).2) := by
  obtain ⟨oc, od, dV, kV, doc, pm, an, cdv, ct, osl, rfl, lk, hcd, _, _⟩ := F.ex
  obtain ⟨c, rfl⟩ := He.codeIn_ref hcd
  have e : (He.cT K ("law", none)).1 = c := He.codeOf_eq (p := ("law", none)) lk rfl
  rw [e] at TB
  exact law_run (n := 6) (k := 9) (m := 2) lk hcd sc_law rfl rfl rfl rfl rfl (.inl rfl) rfl (by decide) (by decide) (ok__law_rounds T) fun A outer s H E hr U H1 a h1 h2 h3 h4 => law_turn T Ex TB A outer s H E hr U H1 a h1 h2 h3 h4
end DD
open PySem PySem.W PySem.Calls PyProof.Rows
set_option maxHeartbeats 0 in
theorem PySem.Challenge.cw_digitdrop_k07_whole_rounds_holds : PySem.Challenge.rw_digitdrop_k07_whole_rounds.Holds := by
  w_on; o_law
  refine HandSHeadRun.head_any (r := OpenLaw.row PySem.Challenge.rw_digitdrop_k07_whole_rounds) (q := view (OpenLaw.row PySem.Challenge.rw_digitdrop_k07_whole_rounds).prog [53]) (H := DD.hk) (ob := DD.ob) (M := 20000) (loose := DD.loose) (d := HandSHeadRun.topDef (OpenLaw.row PySem.Challenge.rw_digitdrop_k07_whole_rounds).prog 53) (kwd := []) DD.ob_eq
    (by kernel_rfl) (fun s => by kernel_rfl) DD.run (by kernel_rfl) (by kernel_rfl) (by kernel_rfl) (by rfl) (by first | assumption | decide +kernel) (by decide +kernel) ⟨rfl, rfl, rfl, rfl, rfl, by decide +kernel⟩ ?hw ?hc
  case hw => w_witness2
  case hc =>
    refine LamX.walk_ofTsE (l := PySem.Challenge.rw_digitdrop_k07_whole_rounds) (n := 63) (k := 10) (x := "_law_script") (CX := fun w => L2N.CX (PySem.Challenge.rw_digitdrop_k07_whole_rounds).prog w) rfl (by decide) (by kernel_rfl) ⟨rfl, by decide, by decide⟩ ?F (fun w H s e s' ⟨_, _, _, _, _, _, _, _, _, _, _, _, z⟩ => z)
    intro w mg fa h Y G hmg0
    obtain ⟨K, KX, c⟩ := Y
    have hmg : mg ("law" : PySem.Str) = some (.ref fa) := by
      have e : (HandSHeadRun.topDef (OpenLaw.row PySem.Challenge.rw_digitdrop_k07_whole_rounds).prog 53).name = ("law" : PySem.Str) := by kernel_rfl
      rw [← e]
      exact hmg0
    have T := DD.txt_of KX G c.t.d
    have Ex := DD.exs_all T c.more
    have e := hmg.symm.trans T.g_law
    cases e
    obtain ⟨fd, F⟩ := T.d_law
    have hp : ∀ p ∈ [He.cT K ("law", none)], p = He.cT K ("law", none) := fun p hp => List.mem_singleton.mp hp
    have b := L2.FunD.bindsA (ps := ["_law_script"]) F fun _ _ _ _ _ _ us hl => match us, hl with | [_], _ => rfl
    exact ⟨K, KX, fd, [He.cT K ("law", none)], DD.lawSp K (He.cT K ("law", none)).2, fun p h => by rw [hp p h]; exact c.empty _ List.mem_cons_self, fun p h => by rw [hp p h]; exact c.out _ List.mem_cons_self, fun p h => by rw [hp p h]; exact PySem.W.codeHd_of_K KX (c.hd _ List.mem_cons_self), fun s v => b s [v] rfl,
      fun H a ns hl _ hH hS => ⟨a, ns, rfl, hS, Nat.le_trans hl (by decide), hH _ List.mem_cons_self, fun _ => rfl⟩, fun base _ _ hT => DD.law_ok T Ex (hT _ List.mem_cons_self) F⟩
