import PyProof.Rows.All
import Wide.All
import OpenK.AllK
import Wide.FinOn
import HandS.ForMost
import HandS.Walk
import HandS.IsInst
import HandS.TupAny
import HandS.Star
import HandS.Conv
import HandS.Deep
import HandS.DictComp
import HandS.TupLen
import HandS.SortOrd
import HandS.SortRule
import KE.KTupSum
import PySem.Challenge.RW_leastmoved_k60_whole_evidence_of_none
import HandS.Style
import KE.GoesEnum
import KE.GoesMore
import HandS.RepeatKit
import HandS.SortInts
import PyProof.EqAt
import PyProof.EqKinds
import PyProof.TupleCall
import PyProof.DictCompW
set_option Elab.async false
set_option linter.all false
set_option maxRecDepth 100000
set_option maxHeartbeats 4000000
/-! Data that never changes (tuples over ints, bools, texts, None), and what a comprehension over anything makes of it. -/
namespace K60
open PySem L2

/-! ### tuples are kept -/
/-- a tuple that is known to have no dict of its own -/
def Tu (H : Hp) (a : Addr) (xs : List V) : Prop := ∃ o : Obj, o.dict = none ∧ H a = some (.frz o (.tup xs))
theorem Tu.q {K : PySem.W.Frag} {H : Hp} {a : Addr} {xs : List V} (h : Tu H a xs) : SqT K H a xs := by
  obtain ⟨o, _, e⟩ := h
  exact .inl (.inr ⟨o, e⟩)
theorem Tu.new {H : Hp} {p : Addr} {o : Obj} {xs : List V} (h : o.dict = none) : Tu (upd H p (.frz o (.tup xs))) p xs := ⟨o, h, upd_same⟩
theorem Tu.some {H : Hp} {a : Addr} {xs : List V} (h : Tu H a xs) : ∃ u, H a = Option.some u := by
  obtain ⟨o, _, e⟩ := h
  exact ⟨_, e⟩
theorem Tu.inj {H : Hp} {a : Addr} {xs ys : List V} (h : Tu H a xs) (k : Tu H a ys) : xs = ys := by
  obtain ⟨o, _, e⟩ := h
  obtain ⟨o', _, e'⟩ := k
  rw [e] at e'
  cases e'
  rfl
def KpT (H H' : Hp) : Prop := ∀ a o xs, H a = some (.frz o (.tup xs)) → H' a = some (.frz o (.tup xs))
theorem KpT.refl (H : Hp) : KpT H H := fun _ _ _ e => e
theorem KpT.trans {H H1 H2 : Hp} (a : KpT H H1) (b : KpT H1 H2) : KpT H H2 := fun c o xs e => b c o xs (a c o xs e)
theorem KpT.of {H H' : Hp} (s : Same H H') : KpT H H' := fun a o xs e => s a _ e
theorem KpT.new {H : Hp} {p : Addr} {o : HO} (hp : H p = none) : KpT H (upd H p o) := fun a u xs e => by
  rw [upd_ne (ne_of_none e hp)]; exact e
theorem KpT.at {H : Hp} {p : Addr} {o v : HO} (hp : H p = some v) (hv : ∀ u xs, v ≠ .frz u (.tup xs)) : KpT H (upd H p o) := fun a u xs e => by
  rw [upd_ne (ne_of e hp (fun z => hv u xs z.symm))]; exact e
theorem KpT.lst {H : Hp} {p : Addr} {ys : List V} {o : HO} (hp : H p = some (.lst ys)) : KpT H (upd H p o) := KpT.at hp fun u xs z => by cases z
theorem Tu.k {H H' : Hp} {a : Addr} {xs : List V} (h : Tu H a xs) (k : KpT H H') : Tu H' a xs := by
  obtain ⟨o, d, e⟩ := h
  exact ⟨o, d, k _ _ _ e⟩
theorem Tu.s {H H' : Hp} {a : Addr} {xs : List V} (h : Tu H a xs) (k : Same H H') : Tu H' a xs := h.k (.of k)
theorem same_new {H : Hp} {p : Addr} {o : HO} (hp : H p = none) : Same H (upd H p o) := fun a u e => by
  rw [upd_ne (ne_of_none e hp)]; exact e

/-! ### data at a value -/
mutual
inductive Dt (H : Hp) : V → PyData → Prop
  | non : Dt H .non .none
  | bl (b : Bool) : Dt H (.bl b) (.bool b)
  | int (i : Int) : Dt H (.int i) (.int i)
  | str (x : Str) : Dt H (.str x) (.str x)
  | tup {a : Addr} {xs : List V} {ds : List PyData} : Tu H a xs → DtA H xs ds → Dt H (.ref a) (.tuple ds)
inductive DtA (H : Hp) : List V → List PyData → Prop
  | nil : DtA H [] []
  | cons {v : V} {vs : List V} {d : PyData} {ds : List PyData} : Dt H v d → DtA H vs ds → DtA H (v :: vs) (d :: ds)
end
section
variable {H H' : Hp}
mutual
theorem Dt.kept (k : KpT H H') : ∀ (d : PyData) (v : V), Dt H v d → Dt H' v d
  | .none, _, h => by cases h; exact .non
  | .bool b, _, h => by cases h; exact .bl b
  | .int i, _, h => by cases h; exact .int i
  | .str x, _, h => by cases h; exact .str x
  | .list ds, _, h => by cases h
  | .dict es, _, h => by cases h
  | .tuple ds, _, h => by
    cases h with
    | tup e r => exact .tup (e.k k) (DtA.kept k ds _ r)
theorem DtA.kept (k : KpT H H') : ∀ (ds : List PyData) (vs : List V), DtA H vs ds → DtA H' vs ds
  | [], _, h => by cases h; exact .nil
  | d :: ds, _, h => by
    cases h with
    | cons a b => exact .cons (Dt.kept k d _ a) (DtA.kept k ds _ b)
end
theorem Dt.k {v : V} {d : PyData} (h : Dt H v d) (k : KpT H H') : Dt H' v d := Dt.kept k d v h
theorem DtA.k {vs : List V} {ds : List PyData} (h : DtA H vs ds) (k : KpT H H') : DtA H' vs ds := DtA.kept k ds vs h
theorem Dt.s {v : V} {d : PyData} (h : Dt H v d) (k : Same H H') : Dt H' v d := h.k (.of k)
theorem DtA.s {vs : List V} {ds : List PyData} (h : DtA H vs ds) (k : Same H H') : DtA H' vs ds := h.k (.of k)
mutual
theorem Dt.dp {K : PySem.W.Frag} : ∀ (d : PyData) (v : V), Dt H v d → Dp K H v d
  | .none, _, h => by cases h; exact .non
  | .bool b, _, h => by cases h; exact .bl b
  | .int i, _, h => by cases h; exact .int i
  | .str x, _, h => by cases h; exact .str x
  | .list ds, _, h => by cases h
  | .dict es, _, h => by cases h
  | .tuple ds, _, h => by
    cases h with
    | tup e r => exact .tup e.q (DtA.dp ds _ r)
theorem DtA.dp {K : PySem.W.Frag} : ∀ (ds : List PyData) (vs : List V), DtA H vs ds → DpAll K H vs ds
  | [], _, h => by cases h; exact .nil
  | d :: ds, _, h => by
    cases h with
    | cons a b => exact .cons (Dt.dp d _ a) (DtA.dp ds _ b)
end
theorem Dt.p {K : PySem.W.Frag} {v : V} {d : PyData} (h : Dt H v d) : Dp K H v d := Dt.dp d v h
theorem DtA.p {K : PySem.W.Frag} {vs : List V} {ds : List PyData} (h : DtA H vs ds) : DpAll K H vs ds := DtA.dp ds vs h
theorem Dt.i {v : V} {i : Int} (h : Dt H v (.int i)) : v = .int i := by cases h; rfl
theorem Dt.b {v : V} {b : Bool} (h : Dt H v (.bool b)) : v = .bl b := by cases h; rfl
theorem Dt.n {v : V} (h : Dt H v .none) : v = .non := by cases h; rfl
theorem Dt.st {v : V} {x : Str} (h : Dt H v (.str x)) : v = .str x := by cases h; rfl
theorem Dt.t {v : V} {ds : List PyData} (h : Dt H v (.tuple ds)) : ∃ a xs, v = .ref a ∧ Tu H a xs ∧ DtA H xs ds := by
  cases h with
  | tup e r => exact ⟨_, _, rfl, e, r⟩
theorem DtA.len : ∀ {ds : List PyData} {vs : List V}, DtA H vs ds → vs.length = ds.length
  | [], _, h => by cases h; rfl
  | d :: ds, _, h => by
    cases h with
    | cons a b => rw [List.length_cons, List.length_cons, DtA.len b]
theorem DtA.at : ∀ {ds : List PyData} {vs : List V} {i : Nat} {d : PyData}, DtA H vs ds → ds[i]? = some d → ∃ x, vs[i]? = some x ∧ Dt H x d
  | [], _, _, _, _, e => by simp at e
  | d :: ds, _, 0, _, h, e => by
    cases h with
    | cons a b => simp at e; subst e; exact ⟨_, rfl, a⟩
  | d :: ds, _, i + 1, _, h, e => by
    cases h with
    | cons a b =>
      obtain ⟨x, h1, h2⟩ := DtA.at (i := i) b (by simpa using e)
      exact ⟨x, by simpa using h1, h2⟩
theorem DtA.of : ∀ {ds : List PyData} {vs : List V} {i : Nat} {x : V}, DtA H vs ds → vs[i]? = some x → ∃ d, ds[i]? = some d ∧ Dt H x d
  | [], _, _, _, h, e => by cases h; simp at e
  | d :: ds, _, 0, _, h, e => by
    cases h with
    | cons a b => simp at e; subst e; exact ⟨_, rfl, a⟩
  | d :: ds, _, i + 1, _, h, e => by
    cases h with
    | cons a b =>
      obtain ⟨x, h1, h2⟩ := DtA.of (i := i) b (by simpa using e)
      exact ⟨x, by simpa using h1, h2⟩
theorem DtA.app : ∀ {ds es : List PyData} {vs ws : List V}, DtA H vs ds → DtA H ws es → DtA H (vs ++ ws) (ds ++ es)
  | [], _, _, _, h, k => by cases h; exact k
  | d :: ds, _, _, _, h, k => by
    cases h with
    | cons a b => exact .cons a (DtA.app b k)
theorem DtA.take : ∀ {ds : List PyData} {vs : List V} (n : Nat), DtA H vs ds → DtA H (vs.take n) (ds.take n)
  | _, _, 0, _ => .nil
  | [], _, n + 1, h => by cases h; exact .nil
  | d :: ds, _, n + 1, h => by
    cases h with
    | cons a b => exact .cons a (DtA.take n b)
theorem DtA.drop : ∀ {ds : List PyData} {vs : List V} (n : Nat), DtA H vs ds → DtA H (vs.drop n) (ds.drop n)
  | _, _, 0, h => h
  | [], _, n + 1, h => by cases h; exact .nil
  | d :: ds, _, n + 1, h => by
    cases h with
    | cons a b => exact DtA.drop n b
theorem DtA.one {vs : List V} {d : PyData} (h : DtA H vs [d]) : ∃ v, vs = [v] ∧ Dt H v d := by
  cases h with
  | cons a b => cases b; exact ⟨_, rfl, a⟩
theorem DtA.two {vs : List V} {d e : PyData} (h : DtA H vs [d, e]) : ∃ v u, vs = [v, u] ∧ Dt H v d ∧ Dt H u e := by
  cases h with
  | cons a b =>
    obtain ⟨u, rfl, hu⟩ := b.one
    exact ⟨_, _, rfl, a, hu⟩
theorem DtA.three {vs : List V} {d e f : PyData} (h : DtA H vs [d, e, f]) : ∃ v u w, vs = [v, u, w] ∧ Dt H v d ∧ Dt H u e ∧ Dt H w f := by
  cases h with
  | cons a b =>
    obtain ⟨u, w, rfl, hu, hw⟩ := b.two
    exact ⟨_, _, _, rfl, a, hu, hw⟩
theorem DtA.four {vs : List V} {d e f g : PyData} (h : DtA H vs [d, e, f, g]) : ∃ v u w z, vs = [v, u, w, z] ∧ Dt H v d ∧ Dt H u e ∧ Dt H w f ∧ Dt H z g := by
  cases h with
  | cons a b =>
    obtain ⟨u, w, z, rfl, hu, hw, hz⟩ := b.three
    exact ⟨_, _, _, _, rfl, a, hu, hw, hz⟩
/-- ints -/
theorem DtA.ints : ∀ {ns : List Int} {vs : List V}, DtA H vs (ns.map PyData.int) → vs = ns.map V.int
  | [], _, h => by cases h; rfl
  | n :: ns, _, h => by
    rw [List.map_cons] at h
    cases h with
    | cons a b => rw [a.i, DtA.ints b]; rfl
theorem DtA.ofInts (H : Hp) : ∀ (ns : List Int), DtA H (ns.map V.int) (ns.map PyData.int)
  | [] => .nil
  | n :: ns => .cons (.int n) (DtA.ofInts H ns)
theorem DtA.bls : ∀ {bs : List Bool} {vs : List V}, DtA H vs (bs.map PyData.bool) → vs = bs.map V.bl
  | [], _, h => by cases h; rfl
  | n :: ns, _, h => by
    rw [List.map_cons] at h
    cases h with
    | cons a b => rw [a.b, DtA.bls b]; rfl
end

/-! ### the shapes of this program -/
abbrev tI (ns : List Int) : PyData := .tuple (ns.map PyData.int)
abbrev tP (p : List Int × List Int) : PyData := .tuple [tI p.1, tI p.2]
abbrev tR (r : List (List Int × List Int)) : PyData := .tuple (r.map tP)
abbrev tM (m : List (List Int)) : PyData := .tuple (m.map tI)
section
variable {H : Hp}
theorem Dt.tI_ {v : V} {ns : List Int} (h : Dt H v (tI ns)) : ∃ a, v = .ref a ∧ Tu H a (ns.map V.int) := by
  obtain ⟨a, xs, e, ha, r⟩ := h.t
  exact ⟨a, e, by rw [← r.ints]; exact ha⟩
theorem Dt.ofI {a : Addr} {ns : List Int} (h : Tu H a (ns.map V.int)) : Dt H (.ref a) (tI ns) := .tup h (DtA.ofInts H ns)
theorem Dt.tP_ {v : V} {p : List Int × List Int} (h : Dt H v (tP p)) : ∃ a u w, v = .ref a ∧ Tu H a [u, w] ∧ Dt H u (tI p.1) ∧ Dt H w (tI p.2) := by
  obtain ⟨a, xs, e, ha, r⟩ := h.t
  obtain ⟨u, w, rfl, hu, hw⟩ := r.two
  exact ⟨a, u, w, e, ha, hu, hw⟩
theorem ints_at {ns : List Int} {i : Nat} {n : Int} (h : ns[i]? = some n) : (ns.map V.int)[i]? = some (.int n) := by rw [List.getElem?_map, h]; rfl
end

/-! ### a comprehension over anything: f says what the i-th turn adds -/
theorem range_fm {α : Type} (f : Nat → Option α) (i : Nat) : (List.range (i + 1)).filterMap f = (List.range i).filterMap f ++ (match f i with | some d => [d] | none => []) := by
  rw [List.range_succ, List.filterMap_append]
  cases h : f i with
  | none => simp [h]
  | some d => simp [h]
theorem fm_le {α : Type} (f : Nat → Option α) (i : Nat) : ((List.range i).filterMap f).length ≤ i := by
  have := List.length_filterMap_le f (List.range i)
  rw [List.length_range] at this
  exact this
theorem lc_dt {J : It} {n : Nat} {G : Hp → Prop} {Y : Nat → Hp → V → Hp → Prop} (w : Walk J n G Y) {g : TG} {tt : TT} {te : TE} {vs : List Nat} {σ : St} {H1 : Hp} {D : Addr} {Qd : Hp → Prop} (f : Nat → Option PyData)
    (hD : H1 D = none) (hn : n ≤ sizeLine) (hG : ∀ H, Same H1 H → G H) (hY : ∀ i H x H', i < n → Same H1 H → Y i H x H' → Same H H')
    (hs : ∀ (i : Nat) (x : V) (H H' : Hp) (Nx : Hp → Prop) (Kp : VK), i < n → Same H1 H → Same H H' → Y i H x H' →
      (∀ y d H4, Same H' H4 → f i = some d → Dt H4 y d → Kp y H4) → (∀ H4, Same H' H4 → f i = none → Nx H4) →
      g x (wipe σ vs) H' fun σ2 H2 => wipe σ2 vs = wipe σ vs ∧ tt σ2 H2 fun b H3 => if b = true then te σ2 H3 Kp else Nx H3)
    (hd : ∀ H ys, Same H1 H → H D = some (.lst ys) → DtA H ys ((List.range n).filterMap f) → Qd H) :
    ∃ W : Nat → Nat → Hp → Prop, (∃ m, W 0 m (upd H1 D (.lst []))) ∧ ∀ i m H, W i m H →
      (J.stop i H ∧ Qd H) ∨ (J.go i H ∧ ∃ Nx : Hp → Prop, (∀ H', Nx H' → ∃ m', m' < m ∧ W (i + 1) m' H') ∧ ∀ x H', J.yld i H x H' → g x (wipe σ vs) H' fun σ2 H2 => wipe σ2 vs = wipe σ vs ∧ tt σ2 H2 fun b H3 =>
        if b = true then te σ2 H3 fun y H4 => ∃ acc, H4 D = some (.lst acc) ∧ acc.length < sizeLine ∧ Nx (upd H4 D (.lst (acc ++ [y]))) else Nx H3) := by
  refine lc_it w (fun i H => Same H1 H ∧ ∃ ys, H D = some (.lst ys) ∧ DtA H ys ((List.range i).filterMap f)) ⟨same_new hD, [], upd_same, .nil⟩ (fun i H _ p => hG H p.1) ?_ (fun H p => ?_)
  · rintro i x H H' hi ⟨s1, ys, hy, r⟩ y
    have s2 := hY i H x H' hi s1 y
    refine hs i x H H' _ _ hi s1 s2 y (fun v d H4 s4 e hv => ?_) (fun H4 s4 e => ?_)
    · have hy4 : H4 D = some (.lst ys) := s4 _ _ (s2 _ _ hy)
      have kk : KpT H4 (upd H4 D (.lst (ys ++ [v]))) := KpT.lst hy4
      refine ⟨ys, hy4, ?_, fun b o eb => ?_, ys ++ [v], upd_same, ?_⟩
      · have h1 := r.len
        have h2 := fm_le f i
        omega
      · rw [upd_ne (ne_of_none eb hD)]
        exact s4 _ _ (s2 _ _ (s1 _ _ eb))
      · rw [range_fm, e]
        exact ((r.s s2).s s4).k kk |>.app (.cons (hv.k kk) .nil)
    · refine ⟨fun b o eb => s4 _ _ (s2 _ _ (s1 _ _ eb)), ys, s4 _ _ (s2 _ _ hy), ?_⟩
      rw [range_fm, e, List.append_nil]
      exact (r.s s2).s s4
  · obtain ⟨s1, ys, hy, r⟩ := p
    exact hd H ys s1 hy r
end K60
/-! The text by places, short rules, the first defs. -/
namespace K60
open PySem L2

/-! ### the text -/
def top (i : Nat) : Stmt := PySem.Challenge.pw_leastmoved_k60_whole_evidence_of_none.main.body.getD i (.Pass ⟨0, 0, 0, 0⟩)

/-- the names that the text leaves to the built-ins, and its constants -/
structure Txt (mg : Str → Option Value) : Prop where
  isi : mg "isinstance" = none
  int : mg "int" = none
  bool : mg "bool" = none
  tuple : mg "tuple" = none
  str : mg "str" = none
  list : mg "list" = none
  len : mg "len" = none
  all : mg "all" = none
  sum : mg "sum" = none
  range : mg "range" = none
  enum : mg "enumerate" = none
  sorted : mg "sorted" = none
  abs : mg "abs" = none
  mva : ∃ t, mg "MOST_VARIANTS_allocations" = some (.int 5 t)
  mba : ∃ t, mg "MOST_BUCKETS_allocations" = some (.int 20 t)
  mvr : ∃ t, mg "MOST_VARIANTS_rules" = some (.int 5 t)
  mbr : ∃ t, mg "MOST_BUCKETS_rules" = some (.int 20 t)
  mp : ∃ t, mg "MOST_PAIRS" = some (.int 20 t)
  comb : mg "combinations" = some (.type "itertools.combinations")

/-- a def of the text that keeps a promise -/
def Has (P : Program) (w : World) (K : PySem.W.Frag) (mg : Str → Option Value) (base : Heap) (k : Nat) (x : Str) (ps : List Str) (sp : Sp) : Prop :=
  ∃ f fd, FnOk P w K mg base CX0 k f fd ps sp ∧ mg x = some (.ref f) ∧ PySem.W.keepIn K (.ref f) = true ∧ Binds K fd ps []

section
variable {X : Cx}
theorem pe_has {k j : Nat} {x : Str} {ps : List Str} {sp : Sp} {e : Expr} {es : List Expr} {t : TA} {p pos : Pos} (c : Has X.prog X.w X.K X.mg X.base k x ps sp) (hr : Room j X.A) (hk : k ≤ j) (ha : PA X (e :: es) t) (hg : Gl X x := by rfl)
    (hdb : (x == ("__debug__" : Str)) = false := by decide) (he : starEach (e :: es) X.env = (false, eval e X.env) :: starEach es X.env := by rfl) (hpl : (backTo pos (starEach es X.env)).any (·.1) = false := by rfl) :
    PE X (.Call (.Name x p) (e :: es) [] pos) (tCall sp [] E0 t) := by
  obtain ⟨f, fd, F, hm, hkp, hb⟩ := c
  exact pe_call F (hr.mono hk) hg hm hkp hb .nil pass0 ha hdb he hpl
/-- a whole number of the top -/
theorem pe_num {x : Str} {i : Int} {pos : Pos} (h : ∃ t, X.mg x = some (.int i t)) (hg : Gl X x := by rfl) (hd : (x == ("__debug__" : Str)) = false := by decide) : PE X (.Name x pos) (tC (.int i)) := by
  obtain ⟨t, e⟩ := h
  exact pe_glob hg e ⟨t, rfl⟩ hd

/-! ### isinstance -/
def IsTy (K : PySem.W.Frag) (H : Hp) (x : V) (n : String) (k : Bool) : Prop := ∃ t, TyX K H x t ∧ PySem.W.kitOne K t (.type n) = some k
def rIsiN (K : PySem.W.Frag) (n : String) : List V → Hp → VK → Prop := fun xs H Q => ∃ x k, xs = [x, .ty n] ∧ IsTy K H x n k ∧ Q (.bl k) H
theorem call_isiN {n : String} : CallR X (.builtin "isinstance") (rIsiN X.K n) := by
  intro pins s σ H xs us Q I r h
  obtain ⟨x, k, e, ⟨t, ty, ek⟩, q⟩ := h
  exact call_isi pins s σ H xs us Q I r ⟨x, .ty n, t, .type n, k, e, .ty n, ty, ek, q⟩
/-- isinstance(e, T): [e], k, IsTy, then with k -/
theorem pe_isi {n : String} {x : Str} {e : Expr} {te : TE} {p p2 pos : Pos} (hm : X.mg "isinstance" = none) (hm2 : X.mg x = none) (hv : bootBuiltins x = some (.type n)) (he : PE X e te) (hg : Gl X "isinstance" := by rfl) (hg2 : Gl X x := by rfl)
    (hn : x ≠ "__name__" := by decide) (hdb : (x == ("__debug__" : Str)) = false := by decide) (hs : starEach [e, .Name x p2] X.env = (false, eval e X.env) :: starEach [.Name x p2] X.env := by rfl) (hs2 : starEach [.Name x p2] X.env = (false, eval (.Name x p2) X.env) :: starEach [] X.env := by rfl)
    (hpl : (backTo pos (starEach [.Name x p2] X.env)).any (·.1) = false := by rfl) :
    PE X (.Call (.Name "isinstance" p) [e, .Name x p2] [] pos) (tCB (rIsiN X.K n) (tCons te (tCons (tC (.ty n)) tNil))) :=
  pe_callB call_isiN hg hm PyProof.Rows.boot_isinstance (pa_cons he (pa_cons (pe_bltn hg2 hm2 hv rfl hn hdb) pa_nil hs2) hs) (by decide) (by decide) hs hpl
end
section
variable {K : PySem.W.Frag} {H : Hp}
def tyN : PyData → String
  | .none => "NoneType" | .bool _ => "bool" | .int _ => "int" | .str _ => "str" | .list _ => "list" | .tuple _ => "tuple" | .dict _ => "dict"
theorem Dt.ty {v : V} {d : PyData} (h : Dt H v d) : TyX K H v (.type (tyN d)) := by
  cases h with
  | non => exact .base .non
  | bl b => exact .base (.bl b)
  | int i => exact .base (.int i)
  | str x => exact .base (.str x)
  | tup e r =>
    obtain ⟨o, _, e⟩ := e
    exact .fTuple e
def isI : PyData → Bool
  | .int _ => true | .bool _ => true | _ => false
def isB : PyData → Bool
  | .bool _ => true | _ => false
def isT : PyData → Bool
  | .tuple _ => true | _ => false
def isS : PyData → Bool
  | .str _ => true | _ => false
theorem k_isI (d : PyData) : kitB (tyN d) "int" = some (isI d) := by cases d <;> (simp only [tyN, isI]; decide +kernel)
theorem Dt.isI {v : V} {d : PyData} (h : Dt H v d) : IsTy K H v "int" (K60.isI d) := ⟨_, h.ty, kit_ty (k_isI d)⟩
theorem k_isB (d : PyData) : kitB (tyN d) "bool" = some (isB d) := by cases d <;> (simp only [tyN, isB]; decide +kernel)
theorem Dt.isB {v : V} {d : PyData} (h : Dt H v d) : IsTy K H v "bool" (K60.isB d) := ⟨_, h.ty, kit_ty (k_isB d)⟩
theorem k_isT (d : PyData) : kitB (tyN d) "tuple" = some (isT d) := by cases d <;> (simp only [tyN, isT]; decide +kernel)
theorem Dt.isT {v : V} {d : PyData} (h : Dt H v d) : IsTy K H v "tuple" (K60.isT d) := ⟨_, h.ty, kit_ty (k_isT d)⟩
theorem k_isS (d : PyData) : kitB (tyN d) "str" = some (isS d) := by cases d <;> (simp only [tyN, isS]; decide +kernel)
theorem Dt.isS {v : V} {d : PyData} (h : Dt H v d) : IsTy K H v "str" (K60.isS d) := ⟨_, h.ty, kit_ty (k_isS d)⟩
theorem lst_noT {a : Addr} {xs : List V} (h : H a = some (.lst xs)) : IsTy K H (.ref a) "tuple" false := ⟨_, .base (.lst h), kit_ty (by decide +kernel)⟩
theorem tup_isT {a : Addr} {xs : List V} (h : Tu H a xs) : IsTy K H (.ref a) "tuple" true := by
  obtain ⟨o, _, e⟩ := h
  exact ⟨_, .fTuple e, kit_ty (by decide +kernel)⟩
end

theorem rwb {Q : VK} {H : Hp} {a b : Bool} (k : Q (.bl b) H) (e : a = b) : Q (.bl a) H := by rw [e]; exact k
theorem rwi {Q : VK} {H : Hp} {a b : Int} (k : Q (.int b) H) (e : a = b) : Q (.int a) H := by rw [e]; exact k

/-! ### is_whole, is_between, is_integer -/
def isW : PyData → Bool
  | .int _ => true | _ => false
def isBtw : PyData → Int → Int → Bool
  | .int i, lo, hi => decide (lo ≤ i) && decide (i ≤ hi)
  | _, _, _ => false
def spWhole : Sp := fun vs H Q _ => ∃ d, DtA H vs [d] ∧ Q (.bl (isW d)) H
def spBtw : Sp := fun vs H Q _ => ∃ d lo hi, DtA H vs [d, .int lo, .int hi] ∧ Q (.bl (isBtw d lo hi)) H
section
variable {P : Program} {w : World} {K : PySem.W.Frag} {mg : Str → Option Value} {base : Heap}
abbrev sWhole : Stmt := top 7
theorem scWhole : FnScope ["value"] ["value"] (defScope sWhole) := ⟨rfl, rfl, rfl, by decide +kernel, rfl, by decide +kernel, by decide +kernel⟩
theorem ok_whole {f : Addr} {fd : FuncData} (F : Fun K "is_whole" "is_whole" sWhole f fd) (T : Txt mg) : FnOk P w K mg base CX0 1 f fd ["value"] spWhole := by
  refine F.ok scWhole (fun vs H Q E h => ?_) (fun cdv A outer s H vs Q E hr h => ?_)
  · obtain ⟨d, h, _⟩ := h
    exact h.len
  · obtain ⟨d, h, k⟩ := h
    obtain ⟨v, rfl, hv⟩ := h.one
    refine ⟨_, pss_one (ps_ret (pe_and (pe_isi T.isi T.int PyProof.Rows.boot_int (pv 0)) (pe_one (pe_not (pe_isi T.isi T.bool PyProof.Rows.boot_bool (pv 0)))))), ?_⟩
    refine ⟨_, rfl, _, _, rfl, hv.isI, _, rfl, ite2 (fun e => ?_) (fun e => ?_)⟩
    · refine ⟨_, rfl, _, _, rfl, hv.isB, _, rfl, ?_⟩
      exact rwb k (by cases d <;> first | rfl | cases e)
    · exact rwb k (by cases d <;> first | rfl | exact absurd rfl e)
abbrev sBtw : Stmt := top 8
theorem scBtw : FnScope ["value", "low", "high"] ["value", "low", "high"] (defScope sBtw) := ⟨rfl, rfl, rfl, by decide +kernel, rfl, by decide +kernel, by decide +kernel⟩
theorem ok_btw {f : Addr} {fd : FuncData} (F : Fun K "is_between" "is_between" sBtw f fd) (T : Txt mg) (G : Has P w K mg base 1 "is_whole" ["value"] spWhole) : FnOk P w K mg base CX0 2 f fd ["value", "low", "high"] spBtw := by
  refine F.ok scBtw (fun vs H Q E h => ?_) (fun cdv A outer s H vs Q E hr h => ?_)
  · obtain ⟨d, lo, hi, h, _⟩ := h
    exact h.len
  · obtain ⟨d, lo, hi, h, k⟩ := h
    obtain ⟨v, l, u, rfl, hv, hl, hu⟩ := h.three
    obtain rfl := hl.i
    obtain rfl := hu.i
    refine ⟨_, pss_one (ps_ret (pe_and (pe_has G hr (Nat.le_refl _) (pa_cons (pv 0) pa_nil)) (pe_one (pe_chain op_le op_le (pv 1) (pv 0) (pv 2))))), ?_⟩
    refine ⟨_, rfl, d, .cons hv .nil, _, rfl, ite2 (fun e => ?_) (fun e => ?_)⟩
    · cases d with
      | int i =>
        obtain rfl := hv.i
        refine ⟨_, rfl, _, rfl, _, _, rfl, rfl, _, rfl, ite2 (fun e1 => ?_) (fun e1 => ?_)⟩
        · refine ⟨_, rfl, _, _, rfl, rfl, ?_⟩
          exact rwb k (show _ = (decide (lo ≤ i) && decide (i ≤ hi)) by rw [e1, Bool.true_and])
        · exact rwb k (show _ = (decide (lo ≤ i) && decide (i ≤ hi)) by rw [eq_false_of_ne_true e1, Bool.false_and])
      | _ => cases e
    · exact rwb k (by cases d <;> first | rfl | exact absurd rfl e)
end
end K60
/-! Rules of my own: tuples made (and known to have no dict of their own), their sum, their count. -/
namespace K60
open PySem PySem.Spec PyProof.Rows L2


/-- a tuple of xs has come, all else as it was -/
def NewT (H : Hp) (xs : List V) (Q : VK) : Prop := ∀ r H', Same H H' → Tu H' r xs → Q (.ref r) H'
section
variable {X : Cx} {pins : List (Addr × Obj)} {σ : L2.St} {H : Hp} {s : Shared}
theorem tup_laid {h' : Heap} {tk : Nat} {ys : List V} {its : List Value} {Q : VK} (I1 : Inv X pins σ H { s with heap := h', toks := tk }) (rv : Vals ys its) (hz : ys.length ≤ sizeLine) (q : NewT H ys Q) :
    EP X pins σ Q (.ref h'.objs.size) { s with heap := h'.push { cls := .type "tuple", data := .seq its.toArray }, toks := tk } := by
  have hf : H h'.objs.size = none := I1.hok.fresh (Nat.le_refl _)
  refine ⟨.ref h'.objs.size, upd H h'.objs.size (.frz { cls := .type "tuple", data := .seq its.toArray } (.tup ys)), I1.laid (t' := tk) (fun b o e => Heap.get?_push_of_some _ e) (Nat.le_refl _) ?_, rfl, q _ _ (same_new hf) (Tu.new rfl)⟩
  exact ⟨Heap.get?_push_size _ rfl, hz, its, rv, ⟨_, Heap.get?_push_size _ rfl, rfl, _, rfl⟩⟩
end
section
variable {X : Cx} {e : Expr} {es : List Expr} {te : TE} {t : TA} {pos : Pos}
/-- (a, b, ..) -/
def tTupF (t : TA) : TE := fun σ H Q => t σ H fun xs H1 => xs.length ≤ sizeLine ∧ NewT H1 xs Q
theorem pe_tupF {x1} (h : PA X es t) : PE X (.Tuple es x1 pos) (tTupF t) := by
  refine ⟨fun pins s σ H Q I hq => ?_⟩
  refine wpAny_Tuple_spliced (thn (h.run pos pins s σ H _ I hq) fun us s1 ⟨xs, H1, I1, r, z, q⟩ => ⟨by rw [← r.length]; exact z, ?_⟩)
  exact tup_laid (s := s1) (h' := s1.heap) (tk := s1.toks) I1 r z q
/-- tuple(list) -/
def rTupF (K : PySem.W.Frag) : List V → Hp → VK → Prop := fun xs H Q => ∃ p ys, xs = [.ref p] ∧ SqL K H p ys ∧ NewT H ys Q
theorem call_tupF : CallR X (.type "tuple") (rTupF X.K) := by
  intro pins s σ H xs us Q I r h
  obtain ⟨p, ys, rfl, hq, q⟩ := h
  obtain ⟨u, rfl, rx⟩ := vals1 r
  cases rx
  obtain ⟨its, r', pl, hz⟩ := I.list hq
  have hlen := r'.length
  refine call_tuple_list pl.isList (fun h' kp => ?_) (by simp only [List.size_toArray] <;> omega)
  exact tup_laid (s := s) (tk := s.toks) (I.kept (t' := s.toks) kp) r' hz q
/-- tuple(range(..)) -/
def tTupRgF (te : L2.St → Hp → (Int → Int → Hp → Prop) → Prop) : TE := fun σ H Q => te σ H fun a b H1 => RgOk a b ∧ NewT H1 (rgV a b) Q
theorem pe_tupRgF {te : L2.St → Hp → (Int → Int → Hp → Prop) → Prop} {p pos : Pos} (hc : X.calm = true) (hm : X.mg "tuple" = none) (he : PRg X e te) (hg : Gl X "tuple" := by rfl) (na : starEach [e] X.env = (false, eval e X.env) :: starEach [] X.env := by rfl) :
    PE X (.Call (.Name "tuple" p) [e] [] pos) (tTupRgF te) := by
  refine ⟨fun pins s σ H Q I h => ?_⟩
  refine Call_ (ld_blt I hg hm boot_tuple (callWith_type1 (args_cons (thn (he pins s σ H _ I h) fun x s1 ⟨r, a, b, t, u, v, H1, ex, hr, I1, ok, q⟩ => args_nil ?_) na) na))
  subst ex
  obtain ⟨b1, b2, b3, b4, b5⟩ := ok
  refine call_tuple_range (n := (b - a).toNat) (I1.ok.hd hc) hr (small_one b1 b2 b3 b4) (rangeSize_nat a b) b5 fun h' tk acc hk hi => ?_
  have fin := tup_laid (s := s1) (tk := tk) (I1.kept (t' := tk) hk) (vals_rg hi) (by rw [rgV_length, sizeLine_eq]; omega) q
  rw [Array.toArray_toList] at fin
  exact fin
/-- t + u -/
def rCatF : R2 := fun x y H Q => ∃ a b xs ys, x = .ref a ∧ y = .ref b ∧ Tu H a xs ∧ Tu H b ys ∧ xs.length + ys.length ≤ sizeLine ∧ NewT H (xs ++ ys) Q
theorem op_catF : OpR X (binaryOp .Add) rCatF := by
  intro pins s σ H x y v u Q I rx ry h
  obtain ⟨a, b, xs, ys, rfl, rfl, ha, hb, hz, q⟩ := h
  by_cases hx : xs = []
  · subst hx
    cases rx
    cases ry
    obtain ⟨its, r1, p1, _⟩ := I.tuple ha.q
    obtain ⟨its2, r2, p2, _⟩ := I.tuple hb.q
    cases r1
    exact cat_tup0 p1 p2 ⟨.ref b, H, I, rfl, q b H (Same.refl H) hb⟩
  · cases rx
    cases ry
    obtain ⟨its, r1, p1, _⟩ := I.tuple ha.q
    obtain ⟨its2, r2, p2, _⟩ := I.tuple hb.q
    refine HT.cat_tup p1 p2 (fun z => hx (r1.nil_iff.mp z)) (fun z => ?_) (fun z => ?_) (by rw [← r1.length, ← r2.length]; exact hz)
    · have e : ys = [] := r2.nil_iff.mp z
      subst e
      rw [List.append_nil] at q
      exact ⟨.ref a, H, I, rfl, q a H (Same.refl H) ha⟩
    · exact tup_laid (s := s) (h' := s.heap) (tk := s.toks) I (r1.append r2) (by rw [List.length_append]; exact hz) q
/-- t[lo:hi] -/
def rSlF : V → Option Int → Option Int → Hp → VK → Prop := fun x lo hi H Q => ∃ a xs, x = .ref a ∧ Tu H a xs ∧ NewT H (cutV xs lo hi) Q
theorem sl_tupF : SlR X rSlF := by
  intro pins s σ H x v vl vu lo hi sl Q I rx hs pl pu h
  obtain ⟨a, xs, rfl, hx, q⟩ := h
  cases rx
  obtain ⟨its, r, ht, hz⟩ := I.tuple hx.q
  have hlen : its.toArray.size = xs.length := by rw [List.size_toArray]; exact r.length.symm
  refine ⟨"tuple", _, slot_tuple_getitem.lookup, ht.typeIs, ?_⟩
  by_cases hw : HT.sIx xs.length 0 lo = 0 ∧ HT.sIx xs.length xs.length hi = xs.length
  · have e : cutV xs lo hi = xs := by
      unfold cutV
      rw [hw.1, hw.2, List.drop_zero, Nat.sub_zero, List.take_length]
    rw [e] at q
    exact getItem_tuple_whole ht hs pl pu (by rw [hlen]; exact hw) ⟨.ref a, H, I, rfl, q a H (Same.refl H) hx⟩
  · refine HT.getItem_tuple_cut ht hs pl pu (by rw [hlen]; exact hw) ?_ (by rw [hlen]; exact hz)
    rw [hlen]
    exact tup_laid (s := s) (h' := s.heap) (tk := s.toks) I ((r.drop (HT.sIx xs.length 0 lo)).take (HT.sIx xs.length xs.length hi - HT.sIx xs.length 0 lo)) (Nat.le_trans (cutV_length xs lo hi) hz) q
/-- sum(t) -/
def rSumT : List V → Hp → VK → Prop := fun vs H Q => ∃ (a : Addr) (ns : List Int), vs = [V.ref a] ∧ Tu H a (ns.map V.int) ∧ Q (.int ns.sum) H
theorem cr_sumT (hc : X.calm = true) : CallR X (.builtin "sum") rSumT := by
  intro pins s σ H vs us Q I r h
  obtain ⟨a, ns, rfl, hs, q⟩ := h
  obtain ⟨its, rv, ht, _⟩ := I.tuple hs.q
  rw [Vals.ref1 r]
  have hi := rv.ints
  obtain ⟨xs, e⟩ := hi.allInts.items
  have hn : numsOf (intItems xs).toList = ns := by rw [← e]; exact hi.numsOf
  rw [nums_intItems] at hn
  rw [e] at ht
  refine PySem.W.ktm_sumG (I.ok.hd hc) ht fun h' tk t' hk => ?_
  refine ⟨.int _, H, I.kept hk, ⟨t', ?_⟩, q⟩
  rw [preSum_eq, List.take_of_length_le (by simp), hn]
/-- t.count(k) -/
def rCntT : V → List V → Hp → VK → Prop := fun x vs H Q => ∃ (a : Addr) (ns : List Int) (k : Int), x = .ref a ∧ vs = [.int k] ∧ Tu H a (ns.map V.int) ∧ Q (.int (ns.count k : Nat)) H
theorem count_eqU {k : Int} : ∀ {ns : List Int} {us : List Value}, Vals (ns.map V.int) us → us.countP (eqU (.int k)) = ns.count k
  | [], us, r => by cases r; rfl
  | n :: ns, us, r => by
    rw [List.map_cons] at r
    cases r with
    | cons r1 r2 =>
      obtain ⟨t, rfl⟩ := r1
      rw [List.countP_cons, List.count_cons, count_eqU r2]
      rfl
theorem call_count {pins : List (Addr × Obj)} {σ : L2.St} {H : Hp} {s : Shared} {a : Addr} {ns : List Int} {k : Int} {t : Tok} {Q : VK} (I : L2.Inv X pins σ H s) (h : Tu H a (ns.map V.int)) (q : Q (.int (ns.count k : Nat)) H) :
    wpAny (model X.prog X.w) X.A (call (.builtin "tuple.count") [.ref a, .int k t]) (EP X pins σ Q) X.xe s := by
  obtain ⟨its, r, ⟨⟨cls, dd, data, sl⟩, ho, hc, n, hd⟩, _⟩ := I.tuple h.q
  simp only at hc hd
  subst hc hd
  have f1 : (ns.map V.int).all flatV = true := by
    rw [List.all_eq_true]
    intro x hx
    obtain ⟨m, _, rfl⟩ := List.mem_map.mp hx
    rfl
  refine call_meets PySem.F.slot_tuple_count ⟨_, ho, rfl⟩ PySem.F.entry_tuple_count (PySem.F.args_tuple_count_2 _ _) (SeqAt.tuple_countAt a its.toArray n dd sl (.int k t) (eqU (.int k))) ⟨ho, fun y hy => ?_, ?_⟩
  · exact mem_eqAt (x := .int k) ⟨t, rfl⟩ rfl r f1 y (by simpa using hy)
  · refine ⟨.int (ns.count k : Nat), H, I.tok _, ⟨s.toks, ?_⟩, q⟩
    have e : its.toArray.toList.countP (eqU (.int k)) = ns.count k := by
      simp only [List.toList_toArray]
      exact count_eqU r
    rw [e]
def tCntT (to : TE) (t : TA) : TE := fun σ H Q => to σ H fun x H1 => ∃ (a : Addr) (ns : List Int), x = .ref a ∧ Tu H1 a (ns.map V.int) ∧ t σ H1 fun vs H2 => ∃ k : Int, vs = [.int k] ∧ Tu H2 a (ns.map V.int) ∧ Q (.int (ns.count k : Nat)) H2
theorem pe_cntT {o : Expr} {to : TE} {apos cpos : Pos} (ho : PE X o to) (ha : PA X [e] t) (hbase : attributeBase o "count" X.env (eval o X.env) = eval o X.env := by rfl)
    (hfew : ((backTo cpos (starEach [e] X.env)).all (fun x => !x.1) && (backToKw cpos (keywordEach [] X.env)).all (fun x => x.1.isSome)
      && decide ([e].length + ([] : List Keyword).length + (if ([] : List Keyword).isEmpty then 0 else 1) < 30)) = true := by rfl)
    (hline : (apos.endLine == cpos.line) = true := by rfl) (hs : starEach [e] X.env = (false, eval e X.env) :: starEach [] X.env := by rfl) :
    PE X (.Call (.Attribute o "count" apos) [e] [] cpos) (tCntT to t) := by
  refine ⟨fun pins s σ H Q I h => ?_⟩
  refine wpAny_Call_method_late hbase hfew hline rfl (thn (ho.run pins s σ H _ I h) fun v s1 ⟨x, H1, I1, r1, a, ns, ex, ht, q1⟩ => ?_)
  subst ex
  cases r1
  obtain ⟨ob, hd, hf⟩ := id ht
  have hob : s1.heap.get? a = some ob := (show ObjOk X.prog X.w H1 s1.heap a (.frz ob (.tup (ns.map V.int))) from I1.hok a _ hf).1
  obtain ⟨its, _, p1, _⟩ := I1.tuple ht.q
  refine ⟨"tuple", "tuple.count", PySem.F.plainAttrs_tuple, PySem.F.slot_tuple_count, PySem.F.type_tuple_count, p1.typeIs, fun b eb => ?_, ?_⟩
  · cases eb
    exact ⟨ob, hob, hd⟩
  · have hA := ha.run cpos pins s1 σ H1 _ I1 q1
    rw [hs] at hA ⊢
    refine Calls.callWith_builtin (by rfl) (Calls.evalArgs_plain ?_)
    exact thn hA fun us s2 ⟨vs, H2, I2, r2, k, ev, ht2, q⟩ => by
      subst ev
      obtain ⟨u, rfl, ru⟩ := vals1 r2
      obtain ⟨t', rfl⟩ := ru
      exact call_count I2 ht2 q
end
end K60
/-! enumerate of a tuple; t[::-1]; sorted(t) of ints. -/
namespace K60
open PySem PySem.Spec PyProof.Rows L2

/-! ### enumerate(t) -/
theorem enum_new_tup (t : Addr) (items : Array Value) :
    Meets (Builtin.«enumerate.__new__» ⟨[.type "enumerate", .ref t], []⟩) (fun _ R s => s.heap.IsTuple t items ∧
      R (.ok (.ret (.ref (s.heap.push { cls := .type "tuple_iterator", data := .fields #[.ref t, .int 0 0] }).objs.size)))
        { s with heap := (s.heap.push { cls := .type "tuple_iterator", data := .fields #[.ref t, .int 0 0] }).push { cls := .type "enumerate", data := .fields #[.none, .bool false, .ref s.heap.objs.size, rawInt 0, .none, .none] } }) :=
  .of_wp fun prog w A R s h => by
    obtain ⟨hp, g, d, tk, os⟩ := s
    obtain ⟨h1, h⟩ := h
    have hsub := sub_enumerate
    have q1 : ∀ {A' : Around} {E : Value → Shared → Prop} {Q : Value → Shared → Prop}, Q (.ref hp.objs.size) ⟨hp.push { cls := .type "tuple_iterator", data := .fields #[.ref t, .int 0 0] }, g, d, tk, os⟩ →
        wpAny (model prog w) A' (pyIter (.ref t)) Q E ⟨hp, g, d, tk, os⟩ := fun q => wpAny_pyIter_tuple h1 q
    wp_walk using q1
    refine wpAny_stack_any fun st => wpAny_pure ?_
    split
    · rename_i c _ _ _ _ _
      cases (c == Value.type "enumerate")
      · wp_walk using q1
        exact ⟨_, rfl, h⟩
      · wp_walk using q1
        exact ⟨_, rfl, h⟩
    · wp_walk using q1
      exact ⟨_, rfl, h⟩
section
variable {prog : Program} {w : World} {A : Around} {E : Value → Shared → Prop} {s : Shared}
theorem call_enum_tup {t : Addr} {items : Array Value} {Q : Value → Shared → Prop} (hT : s.heap.IsTuple t items)
    (h : ∀ h', IsEnum h' (s.heap.objs.size + 1) s.heap.objs.size 0 .none → h'.IsTupleIter s.heap.objs.size t 0 → (∀ b o, s.heap.get? b = some o → h'.get? b = some o) → Q (.ref (s.heap.objs.size + 1)) { s with heap := h' }) :
    wpAny (model prog w) A (call (.type "enumerate") [.ref t]) Q E s := by
  refine callType_new F.called_enumerate (by decide) (F.typeCall_enumerate_1 _) (F.newCall_enumerate_1 _) (fun obj => F.args_object_init_2 obj _) F.entry_enumerate_new (enum_new_tup t items) ⟨hT, ?_⟩
  generalize hu : s.heap.push { cls := .type "tuple_iterator", data := .fields #[.ref t, .int 0 0] } = u
  have hz : u.objs.size = s.heap.objs.size + 1 := by rw [← hu]; exact Heap.size_push ..
  show _ ∧ _
  rw [hz]
  have he : IsEnum (u.push { cls := .type "enumerate", data := .fields #[.none, .bool false, .ref s.heap.objs.size, rawInt 0, .none, .none] }) (s.heap.objs.size + 1) s.heap.objs.size 0 .none := by
    have z := Heap.get?_push_size u (o := { cls := .type "enumerate", data := .fields #[.none, .bool false, .ref s.heap.objs.size, rawInt 0, .none, .none] }) rfl
    rw [hz] at z
    exact z
  refine ⟨⟨_, he, rfl⟩, h _ he ⟨_, Heap.get?_push_of_some _ (by rw [← hu]; exact Heap.get?_push_size _ rfl), rfl, rfl⟩ fun b o x => Heap.get?_push_of_some _ (by rw [← hu]; exact Heap.get?_push_of_some _ x)⟩
end
/-- each item of the tuple at a in a new pair -/
def Itu (K : PySem.W.Frag) (a : Addr) : It :=
  ⟨fun i H => ∃ (xs : List V) (x : V), SqT K H a xs ∧ xs[i]? = some x, fun i H v H' => ∃ T x, v = .ref T ∧ H T = none ∧ H' = upd H T (.tup [.int (i : Nat), x]) ∧ ∀ xs, SqT K H a xs → xs[i]? = some x, fun i H => ∃ xs : List V, SqT K H a xs ∧ xs.length = i⟩
theorem turn_enumT {P : Program} {w : World} {K : PySem.W.Frag} {elts : List Expr} {kk : Nat} {tpos : Pos} (a e it : Addr) :
    Turn P w K (.Tuple elts kk tpos) (Itu K a) [e, it] e (fun i h => (∃ old, IsEnum h e it ((i : Nat) : Int) old) ∧ h.IsTupleIter it a i ∧ e ≠ it ∧ e ≠ a ∧ a ≠ it) where
  mem := by simp
  obj := fun i h st b hb => by
    obtain ⟨⟨old, he⟩, ⟨o, ho, hc, hd⟩, _⟩ := st
    rcases (show b = e ∨ b = it by simpa using hb) with z | z
    · rw [z]; exact ⟨_, he, fun v q => nomatch q⟩
    · rw [z]; exact ⟨o, ho, fun v q => by rw [hd] at q; cases q⟩
  keep := fun i h h' st k => let ⟨⟨old, he⟩, hi, hne⟩ := st; ⟨⟨old, k e (by simp) _ he⟩, hi.at fun o q => k it (by simp) o q, hne⟩
  item := by
    intro X hP hw hK hc i pins s σ H E I hf st hg
    subst hP hw hK
    obtain ⟨⟨old, he⟩, hit, n1, n2, n3⟩ := st
    obtain ⟨xs, x, hq, hx⟩ := hg
    obtain ⟨its, rv, p, hz⟩ := I.tuple hq
    obtain ⟨u, hu, ru⟩ := rv.get hx
    have hel : e < s.heap.objs.size := Heap.lt_size he
    have hil : it < s.heap.objs.size := by obtain ⟨_, q, _⟩ := hit; exact Heap.lt_size q
    have hi : i < its.toArray.size := by
      have := (List.getElem?_eq_some_iff.mp hu).1
      simpa using this
    refine wpAny_pyNext_enum_itemD (Draws.tuple (A := X.A.in1) (I.ok.hd hc) it a n3 its.toArray) he ⟨hit, p⟩ hi n1 (by simp [n1, n2]) fun y h' tk hy ho hst hT hsz hk => ?_
    have ey : y = u := by
      have hu' : its.toArray[i]? = some u := by simpa using hu
      rw [hu'] at hy
      exact (Option.some.inj hy).symm
    subst ey
    refine ⟨_, rfl, wpAny_letOwnedTupleGo_enum (s := { s with heap := h', toks := tk + 1 }) ho fun h'' he' sb => ?_⟩
    have hT2 : h''.get? s.heap.objs.size = some { cls := .type "tuple", data := .seq #[.int i tk, y] } := (sb.2 _ (Nat.ne_of_gt hel)).trans hT
    have new : ObjOk X.prog X.w (upd H s.heap.objs.size (.tup [.int (i : Nat), x])) h'' s.heap.objs.size (.tup [.int (i : Nat), x]) :=
      ⟨by show 2 ≤ sizeLine; decide, [.int i tk, y], .cons ⟨_, rfl⟩ (.cons ru .nil), ⟨_, hT2, rfl, _, rfl⟩⟩
    have I1 : L2.Inv X pins σ (upd H s.heap.objs.size (.tup [.int (i : Nat), x])) { s with heap := h'', toks := tk + 1 } :=
      I.turnedNew (ch := [e, it]) (fun b ob hb q => (sb.2 b (fun z => hb (by simp [z]))).trans (hk b ob (fun z => hb (by simp [z])) (fun z => hb (by simp [z])) q)) hf (Nat.le_refl _) new
    refine ⟨.ref s.heap.objs.size, _, I1, rfl, ⟨_, x, rfl, I.hok.fresh (Nat.le_refl _), rfl, fun ys hy2 => by rw [I.tuple_inj hy2 hq]; exact hx⟩, ⟨⟨y, ?_⟩, hst.1.at fun o q => (sb.2 it (Ne.symm n1)).trans q, n1, n2, n3⟩, fun b hb => ?_⟩
    · have e1 : ((i + 1 : Nat) : Int) = (i : Int) + 1 := by omega
      rw [e1]
      exact he'
    · have hb' : b < s.heap.objs.size := by
        rcases (show b = e ∨ b = it by simpa using hb) with z | z
        · rw [z]; exact hel
        · rw [z]; exact hil
      rw [upd_ne (Nat.ne_of_lt hb')]
      exact (hf b hb).1
  done := by
    intro X hP hw hK hc i pins s σ H E I hf st hg
    subst hP hw hK
    obtain ⟨⟨old, he⟩, hit, n1, n2, n3⟩ := st
    obtain ⟨xs, hq, hx⟩ := hg
    obtain ⟨its, rv, p, hz⟩ := I.tuple hq
    obtain ⟨f0, f1, f2, f3, f4, f5⟩ := hf it (by simp)
    have hl : its.toArray.size = i := by rw [List.size_toArray, ← rv.length]; exact hx
    subst hl
    exact wpAny_pyNext_enum_endD (Draws.tuple (A := X.A.in1) (I.ok.hd hc) it a n3 its.toArray) he ⟨hit, p⟩ fun h' eb => ⟨rfl, I.turned (t' := s.toks) (fun b o hb q => eb b o hb q) f0 f1 f3 f4 f5⟩
  self := fun A i s Q E st h => let ⟨⟨_, he⟩, _⟩ := st; wpAny_pyIter_enum he h
def iEnumT (K : PySem.W.Frag) (ta : TA) : TI := fun σ H R => ta σ H fun vs H1 => ∃ a xs, vs = [.ref a] ∧ SqT K H1 a xs ∧ R (Itu K a) H1
theorem pi_enumT {X : Cx} {e : Expr} {ta : TA} {p pos tpos : Pos} {elts : List Expr} {kk : Nat} (hm : X.mg "enumerate" = none) (ha : PA X [e] ta) (hg : Gl X "enumerate" := by rfl) (hs : starEach [e] X.env = [(false, eval e X.env)] := by rfl) :
    PI X (.Tuple elts kk tpos) (.Call (.Name "enumerate" p) [e] [] pos) (iEnumT X.K ta) := by
  refine ⟨fun pins s σ H R I h => ?_⟩
  refine Call_ (ld_blt I hg hm boot_enumerate (PyProof.Rows.callWith_type1 (thn (ha.run pos pins s σ H _ I h) fun us s1 ⟨vs, H1, I1, r1, q1⟩ => ?_) hs rfl))
  obtain ⟨a, xs, ex, hq, q⟩ := q1
  subst ex
  obtain ⟨u, rfl, ru⟩ := vals1 r1
  cases ru
  obtain ⟨its, rv, p', hz⟩ := I1.tuple hq
  have hal : a < s1.heap.objs.size := by obtain ⟨o, ho, _⟩ := p'; exact Heap.lt_size ho
  refine call_enum_tup p' fun h' he hit hk => wpAny_pyIter_enum he ?_
  have I2 : L2.Inv X pins σ H1 { s1 with heap := h' } := I1.kept (t' := s1.toks) hk
  refine ⟨s1.heap.objs.size + 1, [s1.heap.objs.size + 1, s1.heap.objs.size], _, _, H1, rfl, I2, turn_enumT a (s1.heap.objs.size + 1) s1.heap.objs.size, ⟨⟨.none, he⟩, hit, Nat.succ_ne_self _, Nat.ne_of_gt (Nat.lt_succ_of_lt hal), Nat.ne_of_lt hal⟩, fun b hb => ?_, q⟩
  have hle : s1.heap.objs.size ≤ b := by
    rcases (show b = s1.heap.objs.size + 1 ∨ b = s1.heap.objs.size by simpa using hb) with z | z
    · rw [z]; exact Nat.le_add_right _ _
    · rw [z]; exact Nat.le_refl _
  exact I1.fpOk hle (I1.hok.fresh hle)
theorem walk_enumT {K : PySem.W.Frag} {a : Addr} {xs : List V} : Walk (Itu K a) xs.length (fun H => SqT K H a xs) (YPair (fun i => some (.int (i : Nat))) (fun i => xs[i]?)) := by
  refine ⟨fun i _ hi q => ⟨xs, xs[i], q, by simp [hi]⟩, fun _ q => ⟨xs, q, rfl⟩, fun i H v H' _ q y => ?_⟩
  obtain ⟨T, x, h1, h2, h3, h4⟩ := y
  exact ⟨T, .int (i : Nat), x, h1, h2, h3, rfl, h4 xs q⟩
end K60
/-! itertools.combinations: the facts of its type. -/
namespace K60
open PySem PySem.Spec PyProof.Rows L2
abbrev cT : String := "itertools.combinations"
theorem mro_cb : mroOf (.type cT) = pure [.type cT, .type "object"] := by rw [mroOf_type]; kernel_rfl
theorem lk_cb : typeLookup (.type cT) "__new__" = pure (some (.builtin "itertools.combinations.__new__")) := by rw [typeLookup_type, builtinLookup_eq_fast]; kernel_rfl
theorem sub_cb : isSubtype (.type cT) (.type cT) = pure true := by rw [isSubtype_type]; kernel_rfl
theorem slot_cb_init : Slot cT "__init__" "object.__init__" :=
  .of (owner := "object") (n := "__init__") (by rw [typeLookup_type, builtinLookup_eq_fast]; kernel_rfl) (by decide +kernel) (by decide +kernel) (by decide +kernel)
    (by first | exact .inl (by decide +kernel) | exact .inr (by decide +kernel)) (by rw [isSubtype_type]; kernel_rfl)
theorem called_cb : TypeCalled cT "itertools.combinations.__new__" "object.__init__" :=
  ⟨by decide +kernel, by decide +kernel, ⟨_, _, mro_cb⟩, madeBy_type mro_cb lk_cb (by decide +kernel), by decide +kernel, sub_cb, slot_cb_init⟩
theorem tc_cb (a b : Value) : checkTypeCall cT ⟨[a, b], []⟩ = pure () := by kernel_rfl
theorem nc_cb (a b : Value) : checkBuiltinCall "itertools.combinations.__new__" ⟨[.type cT, a, b], []⟩ = pure () := by kernel_rfl
theorem en_cb_new : entryFor table "itertools.combinations.__new__" = some Builtin.«itertools.combinations.__new__» := entryFor_of_tree (by kernel_rfl)
theorem slot_cb_iter : Slot cT "__iter__" "itertools.combinations.__iter__" :=
  .of (owner := cT) (n := "__iter__") (by rw [typeLookup_type, builtinLookup_eq_fast]; kernel_rfl) (by decide +kernel) (by decide +kernel) (by decide +kernel)
    (by first | exact .inl (by decide +kernel) | exact .inr (by decide +kernel)) sub_cb
theorem slot_cb_next : Slot cT "__next__" "itertools.combinations.__next__" :=
  .of (owner := cT) (n := "__next__") (by rw [typeLookup_type, builtinLookup_eq_fast]; kernel_rfl) (by decide +kernel) (by decide +kernel) (by decide +kernel)
    (by first | exact .inl (by decide +kernel) | exact .inr (by decide +kernel)) sub_cb
theorem en_cb_iter : entryFor table "itertools.combinations.__iter__" = some Builtin.«dict_keyiterator.__iter__» :=
  entryFor_alias (id' := "dict_keyiterator.__iter__") (by kernel_rfl) (by first | rfl | decide +kernel | (unfold String.splitOn; simp +decide [String.splitOnAux])) (by decide +kernel) (by kernel_rfl)
theorem en_cb_next : entryFor table "itertools.combinations.__next__" = some Builtin.«itertools.combinations.__next__» := entryFor_of_tree (by kernel_rfl)
theorem ow_cb : Manifest.owners.lookup (String.ofList ['s', 'n', 'o', 'i', 't', 'a', 'n', 'i', 'b', 'm', 'o', 'c', '.', 's', 'l', 'o', 'o', 't', 'r', 'e', 't', 'i'].reverse) = some Manifest.sig_itertools_combinations := by kernel_rfl
theorem ar_cb_iter (a : Value) : argsOk "itertools.combinations.__iter__" ⟨[a], []⟩ := by
  unfold argsOk; rw [signature?_of (id := "itertools.combinations.__iter__") (n := ['_', '_', 'r', 'e', 't', 'i', '_', '_']) (o := ['s', 'n', 'o', 'i', 't', 'a', 'n', 'i', 'b', 'm', 'o', 'c', '.', 's', 'l', 'o', 'o', 't', 'r', 'e', 't', 'i']) (by kernel_rfl) ow_cb]; kernel_rfl
theorem ar_cb_next (a : Value) : argsOk "itertools.combinations.__next__" ⟨[a], []⟩ := by
  unfold argsOk; rw [signature?_of (id := "itertools.combinations.__next__") (n := ['_', '_', 't', 'x', 'e', 'n', '_', '_']) (o := ['s', 'n', 'o', 'i', 't', 'a', 'n', 'i', 'b', 'm', 'o', 'c', '.', 's', 'l', 'o', 'o', 't', 'r', 'e', 't', 'i']) (by kernel_rfl) ow_cb]; kernel_rfl
theorem nd_cb : typeHasDict (.type cT) = false := by decide +kernel

end K60
/-! itertools.combinations of a range. -/
namespace K60
open PySem PySem.Spec PyProof.Rows L2
/-! ### the next indices -/
def nextC (n : Nat) (ix : List Nat) : Option (List Nat) :=
  match (List.range ix.length).reverse.find? fun i => ix.getD i 0 != i + n - ix.length with
  | none => none
  | some i => some (ix.take i ++ (List.range (ix.length - i)).map (ix.getD i 0 + 1 + ·))
/-- what __next__ is, written out -/
theorem cb_next_eq (args : Args) : Builtin.«itertools.combinations.__next__» args = (do
    let (self, _) ← slotArgs "__next__" 0 args
    let pool ← field self 0
    let indices ← Builtin.Itertools.itNumbersFrom self 3
    let handOut (indices : List Nat) : Sem Fin := do
      let result ← (do
        let items ← Builtin.Itertools.itPoolItems pool
        newTuple (indices.map fun i => items.getD i .none))
      let before ← field self 2
      setField self 2 result
      letGo [before] [result]
      ret result
    match ← Builtin.Itertools.itIntField self 1 with
    | 0 => do setField self 1 (rawInt 1); handOut indices
    | 1 =>
      match nextC (← Builtin.Itertools.itPoolItems pool).size indices with
      | some next => do Builtin.Itertools.itSetNumbersFrom self 3 next; handOut next
      | none => do setField self 1 (rawInt 2); Builtin.Itertools.itStop
    | _ => do rule "itertools.combinations.ended"; Builtin.Itertools.itStop) := by rfl

/-- the iterator: its pool, its state (0 fresh, 1 going, 2 ended), what it gave last, its indices -/
abbrev IsCb (h : Heap) (it pool : Addr) (st : Int) (last : Value) (ix : List Nat) : Prop :=
  h.get? it = some { cls := .type cT, dict := none, data := .fields (#[Value.ref pool, .int st 0, last] ++ (ix.map fun (i : Nat) => rawInt i).toArray), slots := #[] }
abbrev IsPool (h : Heap) (pool : Addr) (items : Array Value) : Prop := h.get? pool = some { cls := .type "tuple", data := .seq items }
theorem set2 (a b c x : Value) (t : List Value) : (#[a, b, c] ++ t.toArray).setIfInBounds 2 x = #[a, b, x] ++ t.toArray := by
  apply Array.toList_inj.mp
  simp
theorem set1 (a b c x : Value) (t : List Value) : (#[a, b, c] ++ t.toArray).setIfInBounds 1 x = #[a, x, c] ++ t.toArray := by
  apply Array.toList_inj.mp
  simp
theorem ext3 (a b c : Value) (t u : List Value) : (#[a, b, c] ++ t.toArray).extract 0 3 ++ u.toArray = #[a, b, c] ++ u.toArray := by
  apply Array.toList_inj.mp
  simp
theorem nums_back (ix : List Nat) (a b c : Value) : ((#[a, b, c] ++ (ix.map fun (i : Nat) => rawInt i).toArray).toList.drop 3).map (fun v => match v with | .int n _ => n.toNat | _ => 0) = ix := by
  rw [Array.toList_append]
  show ((ix.map fun (i : Nat) => rawInt i).toArray.toList).map _ = ix
  rw [List.toList_toArray, List.map_map]
  have e : ((fun v => match v with | .int n _ => n.toNat | _ => 0) ∘ fun (i : Nat) => rawInt i) = (id : Nat → Nat) := by
    funext i
    rfl
  rw [e, List.map_id]
section
variable {prog : Program} {w : World} {A : Around} {E : Value → Shared → Prop} {s : Shared}
theorem numbers_at {it pool : Addr} {st : Int} {last : Value} {ix : List Nat} {Q : List Nat → Shared → Prop} (hit : IsCb s.heap it pool st last ix) (h : Q ix s) : wpAny (model prog w) A (Builtin.Itertools.itNumbersFrom (.ref it) 3) Q E s := by
  unfold Builtin.Itertools.itNumbersFrom
  refine wpAny_bind (wpAny_load hit ?_)
  refine wpAny_pure ?_
  have e := nums_back ix (.ref pool) (.int st 0) last
  show Q (((#[Value.ref pool, .int st 0, last] ++ (ix.map fun (i : Nat) => rawInt i).toArray).toList.drop 3).map (fun v => match v with | .int n _ => n.toNat | _ => 0)) s
  rw [e]
  exact h
theorem pool_at {pool : Addr} {items : Array Value} {Q : Array Value → Shared → Prop} (hp : IsPool s.heap pool items) (h : Q items s) : wpAny (model prog w) A (Builtin.Itertools.itPoolItems (.ref pool)) Q E s := by
  unfold Builtin.Itertools.itPoolItems seqItems?
  exact wpAny_bind (wpAny_bind (wpAny_load hp (wpAny_pure (wpAny_pure h))))
theorem flag_at {it pool : Addr} {st : Int} {last : Value} {ix : List Nat} {Q : Int → Shared → Prop} (hit : IsCb s.heap it pool st last ix) (h : Q st s) : wpAny (model prog w) A (Builtin.Itertools.itIntField (.ref it) 1) Q E s := by
  unfold Builtin.Itertools.itIntField
  exact wpAny_bind (wpAny_field hit rfl (x := .int st 0) (by simp) (wpAny_pure h))
/-- a tuple of these items is made, noted and given out -/
theorem hand_out {it pool : Addr} {st : Int} {last : Value} {ix : List Nat} {items : Array Value} {Q : Fin → Shared → Prop} (hit : IsCb s.heap it pool st last ix) (hp : IsPool s.heap pool items) (hz : ix.length ≤ 100)
    (h : ∀ h', IsCb h' it pool st (.ref s.heap.objs.size) ix → h'.get? s.heap.objs.size = some { cls := .type "tuple", data := .seq (ix.map fun i => items.getD i .none).toArray } → (∀ b o, b ≠ it → s.heap.get? b = some o → h'.get? b = some o) →
      Q (.done (.ret (.ref s.heap.objs.size))) { s with heap := h' }) :
    wpAny (model prog w) A (do
      let result ← (do
        let items ← Builtin.Itertools.itPoolItems (.ref pool)
        newTuple (ix.map fun i => items.getD i .none))
      let before ← field (.ref it) 2
      setField (.ref it) 2 result
      letGo [before] [result]
      ret result) Q E s := by
  have hlt : it < s.heap.objs.size := Heap.lt_size hit
  refine wpAny_bind (wpAny_bind (pool_at hp (wpAny_newTuple ?_ (by rw [List.length_map, sizeLine_eq]; omega))))
  have k1 : ∀ b o, s.heap.get? b = some o → (s.heap.push { cls := .type "tuple", data := .seq (ix.map fun i => items.getD i .none).toArray }).get? b = some o := fun b o e => Heap.get?_push_of_some _ e
  refine wpAny_bind (wpAny_field (k1 _ _ hit) rfl (x := last) (by simp) ?_)
  refine wpAny_bind (wpAny_setField_rec (k1 _ _ hit) (by simp) fun h' e1 sb => ?_)
  refine wpAny_bind (wpAny_letGo (wpAny_pure (h h' ?_ ?_ fun b o hb e => (sb.2 b hb).trans (k1 b o e))))
  · rw [set2] at e1
    exact e1
  · exact (sb.2 _ (Nat.ne_of_gt hlt)).trans (Heap.get?_push_size _ rfl)
theorem cb_item {it pool : Addr} {st : Int} {last : Value} {ix nx : List Nat} {items : Array Value} {Q : Option Value → Shared → Prop} (hit : IsCb s.heap it pool st last ix) (hp : IsPool s.heap pool items) (hne : pool ≠ it)
    (hst : (st = 0 ∧ nx = ix) ∨ (st = 1 ∧ nextC items.size ix = some nx)) (hz : nx.length ≤ 100)
    (hQ : ∀ h', IsCb h' it pool 1 (.ref s.heap.objs.size) nx → h'.get? s.heap.objs.size = some { cls := .type "tuple", data := .seq (nx.map fun i => items.getD i .none).toArray } → (∀ b o, b ≠ it → s.heap.get? b = some o → h'.get? b = some o) →
      Q (some (.ref s.heap.objs.size)) { s with heap := h' }) : wpAny (model prog w) A (pyNext (.ref it)) Q E s := by
  have hT : s.TypeIs (.ref it) cT := ⟨_, hit, rfl⟩
  unfold pyNext
  refine wpAny_bind (wpAny_attempt (wpAny_callSpecial?_slot (name := Str.ofString "__next__") hT slot_cb_next (wpAny_call_entry slot_cb_next hT en_cb_next ?_ (ar_cb_next _))))
  rw [cb_next_eq]
  show wpAny _ _ (field (.ref it) 0 >>= _) _ _ s
  refine wpAny_bind (wpAny_field hit rfl (x := .ref pool) (by simp) ?_)
  refine wpAny_bind (numbers_at hit ?_)
  refine wpAny_bind (flag_at hit ?_)
  have hlt : it < s.heap.objs.size := Heap.lt_size hit
  rcases hst with ⟨rfl, rfl⟩ | ⟨rfl, hn⟩
  · refine wpAny_bind (wpAny_setField_rec hit (by simp) fun h1 e1 sb1 => ?_)
    rw [set1] at e1
    have hz1 : h1.objs.size = s.heap.objs.size := sb1.1
    refine hand_out (s := { s with heap := h1 }) e1 ((sb1.2 _ hne).trans hp) hz fun h' a b c => ⟨_, rfl, ?_⟩
    have a' : IsCb h' it pool 1 (.ref s.heap.objs.size) nx := by rw [← hz1]; exact a
    have b' : h'.get? s.heap.objs.size = some { cls := .type "tuple", data := .seq (nx.map fun i => items.getD i .none).toArray } := by rw [← hz1]; exact b
    show wpAny _ _ (pure (some (Value.ref h1.objs.size))) _ _ _
    rw [hz1]
    exact wpAny_pure (hQ h' a' b' fun b o hb e => c b o hb ((sb1.2 b hb).trans e))
  · refine wpAny_bind (pool_at hp ?_)
    rw [hn]
    refine wpAny_bind ?_
    unfold Builtin.Itertools.itSetNumbersFrom
    refine wpAny_updateFields hit rfl ?_ (by rw [ext3, Array.size_append]; simp only [List.size_toArray, List.length_map, List.length_cons, List.length_nil]; rw [sizeLine_eq]; omega)
    have e1 : IsCb (s.heap.update it (Obj.mapFields fun fs => fs.extract 0 3 ++ (nx.map fun (n : Nat) => rawInt n).toArray)) it pool 1 last nx := by
      refine (Heap.get?_update_self _ hit rfl).trans ?_
      show some ({ cls := Value.type cT, dict := none, data := Data.fields ((#[Value.ref pool, .int 1 0, last] ++ (ix.map fun (i : Nat) => rawInt i).toArray).extract 0 3 ++ (nx.map fun (n : Nat) => rawInt n).toArray), slots := #[] } : Obj) = _
      rw [ext3]
    have sb1 : Heap.SameBut it s.heap (s.heap.update it (Obj.mapFields fun fs => fs.extract 0 3 ++ (nx.map fun (n : Nat) => rawInt n).toArray)) := Heap.SameBut.update ..
    generalize (s.heap.update it (Obj.mapFields fun fs => fs.extract 0 3 ++ (nx.map fun (n : Nat) => rawInt n).toArray)) = h1 at e1 sb1
    have hz1 : h1.objs.size = s.heap.objs.size := sb1.1
    refine hand_out (s := { s with heap := h1 }) e1 ((sb1.2 _ hne).trans hp) hz fun h' a b c => ⟨_, rfl, ?_⟩
    have a' : IsCb h' it pool 1 (.ref s.heap.objs.size) nx := by rw [← hz1]; exact a
    have b' : h'.get? s.heap.objs.size = some { cls := .type "tuple", data := .seq (nx.map fun i => items.getD i .none).toArray } := by rw [← hz1]; exact b
    show wpAny _ _ (pure (some (Value.ref h1.objs.size))) _ _ _
    rw [hz1]
    exact wpAny_pure (hQ h' a' b' fun b o hb e => c b o hb ((sb1.2 b hb).trans e))
theorem cb_end {it pool : Addr} {last : Value} {ix : List Nat} {items : Array Value} {Q : Option Value → Shared → Prop} (hh : A.handled = none) (hit : IsCb s.heap it pool 1 last ix) (hp : IsPool s.heap pool items) (hn : nextC items.size ix = none)
    (hQ : ∀ h', Heap.ExtBut it s.heap h' → Q none { s with heap := h' }) : wpAny (model prog w) A (pyNext (.ref it)) Q E s := by
  have hT : s.TypeIs (.ref it) cT := ⟨_, hit, rfl⟩
  unfold pyNext
  refine wpAny_bind (wpAny_attempt (wpAny_callSpecial?_slot (name := Str.ofString "__next__") hT slot_cb_next (wpAny_call_entry slot_cb_next hT en_cb_next ?_ (ar_cb_next _))))
  rw [cb_next_eq]
  show wpAny _ _ (field (.ref it) 0 >>= _) _ _ s
  refine wpAny_bind (wpAny_field hit rfl (x := .ref pool) (by simp) ?_)
  refine wpAny_bind (numbers_at hit ?_)
  refine wpAny_bind (flag_at hit ?_)
  refine wpAny_bind (pool_at hp ?_)
  rw [hn]
  refine wpAny_bind (wpAny_setField_rec hit (by simp) fun h1 e1 sb1 => ?_)
  show wpAny _ _ (newExc (.type "StopIteration") [] >>= _) _ _ _
  refine wpAny_bind ?_
  simp only [newExc, newTuple]
  refine wpAny_bind (wpAny_newObj_type ?_ (by size_fits))
  refine wpAny_bind (m := firstArgMember _ _) (wpAny_of_eq (a := Value.none) (by first | rfl | (simp only [firstArgMember]; rfl)) ?_)
  refine wpAny_newObj_type ?_ (by size_fits)
  simp only [raiseNew]
  refine wpAny_bind (wpAny_handled ?_)
  first | rw [show A.in1.handled = none from hh] | rw [hh]
  refine wpAny_bind (wpAny_pure (wpAny_throw ?_))
  refine wpAny_bind (wpAny_isInstance (T := "StopIteration") (b := true) ⟨_, Heap.get?_push_size _ rfl, rfl⟩ isSubtype_stop ?_)
  exact wpAny_pure (hQ _ ((sb1.extBut.push _).push _))
theorem cb_iter {it pool : Addr} {st : Int} {last : Value} {ix : List Nat} {Q : Value → Shared → Prop} (hit : IsCb s.heap it pool st last ix) (h : Q (.ref it) s) : wpAny (model prog w) A (pyIter (.ref it)) Q E s := by
  have hT : s.TypeIs (.ref it) cT := ⟨_, hit, rfl⟩
  refine wpAny_pyIter_slot hT slot_cb_iter (wpAny_call_entry slot_cb_iter hT en_cb_iter ?_ (ar_cb_iter _))
  show wpAny _ _ (ret (.ref it)) _ _ s
  exact wpAny_pure ⟨_, rfl, cT, _, hT, slot_cb_next.lookup, h⟩
end
end K60
/-! combinations(range(n), r) made and walked. -/
namespace K60
open PySem PySem.Spec PyProof.Rows L2
theorem cb_new_eq (args : Args) : Builtin.«itertools.combinations.__new__» args = (do
    let (cls, pool, n, r) ← (do
      let (cls, rest) ← Builtin.Itertools.itClassAndRest "combinations" args
      let [some iterable, some rV] ← Builtin.Itertools.itBindNamed "combinations" ["iterable", "r"] 2 2 rest args.kw | unsupported "internal:itertools.combinations.__new__"
      let r ← Builtin.Itertools.itSsizeArg rV
      let items ← collect iterable
      if r < 0 then rule "itertools.combinations.negative-r"; raiseError "ValueError" "r must be non-negative"
      if Builtin.Itertools.itTooMany r then unsupported s!"itertools.{"combinations"}.__new__:memory"
      return (cls, ← newTuple items, items.length, r.toNat))
    ret (← Builtin.Itertools.itNewRecord cls ([pool, rawInt (if r > n then 2 else 0), .none] ++ (List.range r).map fun (i : Nat) => rawInt i))) := by rfl
section
variable {prog : Program} {w : World} {A : Around} {E : Value → Shared → Prop} {s : Shared}
theorem cb_class {b : Value} {rest : List Value} {Q : Value × List Value → Shared → Prop} (h : Q (.type cT, b :: rest) s) : wpAny (model prog w) A (Builtin.Itertools.itClassAndRest "combinations" ⟨.type cT :: b :: rest, []⟩) Q E s := by
  have hsub := sub_cb
  unfold Builtin.Itertools.itClassAndRest
  have e : ("itertools." ++ "combinations" : String) = cT := by decide
  wp_walk
  rw [e]
  refine wpAny_of_eq sub_cb ?_
  exact wpAny_pure h
theorem cb_bind {a b : Value} {Q : List (Option Value) → Shared → Prop} (h : Q [some a, some b] s) : wpAny (model prog w) A (Builtin.Itertools.itBindNamed "combinations" ["iterable", "r"] 2 2 [a, b] []) Q E s := by
  unfold Builtin.Itertools.itBindNamed
  repeat (first
    | wp_step
    | simp only [List.head?_cons, Option.some_or, List.getElem?_cons_succ, List.getElem?_cons_zero, List.length_cons, List.length_nil, List.forIn_nil, List.zipIdx_cons, List.zipIdx_nil, List.forIn_cons])
  exact h
theorem cb_size {i : Int} {t : Tok} {Q : Int → Shared → Prop} (h0 : 0 ≤ i) (h1 : i < 100) (h : Q i s) : wpAny (model prog w) A (Builtin.Itertools.itSsizeArg (.int i t)) Q E s := by
  unfold Builtin.Itertools.itSsizeArg
  have e1 : decide (i < -(2 ^ 63 : Int)) = false := decide_eq_false (by omega)
  have e2 : decide (i ≥ 2 ^ 63) = false := decide_eq_false (by omega)
  wp_walk
  rw [e1, e2]
  exact wpAny_pure h
theorem cb_new {r : Addr} {n k : Nat} {t u v t' : Tok} {Q : PySem.Fin → Shared → Prop} (hh : A.handled = none) (hr : IsRange s.heap r 0 n 1 t u v) (hn : n ≤ 50) (hk : k ≤ n)
    (h : ∀ (h' : Heap) (tk : Nat) (acc : Array Value), (∀ b o, s.heap.get? b = some o → h'.get? b = some o) → ItemsOf (fun i v => ∃ t, v = .int (0 + i * 1) t) acc n →
      Q (.done (.ret (.ref (h'.objs.size + 1)))) { s with heap := (h'.push { cls := .type "tuple", data := .seq acc }).push { cls := .type cT, dict := none, data := .fields (#[Value.ref h'.objs.size, .int 0 0, .none] ++ ((List.range k).map fun (i : Nat) => rawInt i).toArray), slots := #[] }, toks := tk }) :
    wpAny (model prog w) A (Builtin.«itertools.combinations.__new__» ⟨[.type cT, .ref r, .int k t'], []⟩) Q E s := by
  rw [cb_new_eq]
  refine wpAny_bind (wpAny_bind (cb_class ?_))
  refine wpAny_bind (cb_bind ?_)
  refine wpAny_bind (cb_size (by omega) (by omega) ?_)
  have hs : Builtin.Range.rangeSize 0 (n : Int) 1 = n := by rw [rangeSize_one]; split <;> omega
  refine wpAny_bind (collect_range hh hr (small_one (by omega) (by omega) (by omega) (by omega)) hs (by omega) fun h' tk acc kp hacc => ?_)
  rw [if_neg (by omega)]
  have tm : Builtin.Itertools.itTooMany ((k : Nat) : Int) = false := decide_eq_false (by omega)
  rw [tm, if_neg Bool.false_ne_true]
  refine wpAny_bind (wpAny_newTuple ?_ (by rw [Array.length_toList, hacc.1, sizeLine_eq]; omega))
  refine wpAny_pure ?_
  have el : acc.toList.length = n := by rw [Array.length_toList]; exact hacc.1
  have ek : ((k : Nat) : Int).toNat = k := Int.toNat_natCast k
  show wpAny _ _ (Builtin.Itertools.itNewRecord (.type cT) ([Value.ref h'.objs.size, rawInt (if ((k : Nat) : Int).toNat > acc.toList.length then 2 else 0), .none] ++ (List.range ((k : Nat) : Int).toNat).map fun (i : Nat) => rawInt i) >>= fun v => ret v) _ _ _
  rw [el, ek, if_neg (by omega)]
  unfold Builtin.Itertools.itNewRecord
  have nd : (!typeHasDict (Value.type cT)) = true := by rw [nd_cb]; rfl
  rw [nd, if_pos rfl]
  refine wpAny_bind (wpAny_newObj_type (wpAny_pure ?_) (by show ([Value.ref h'.objs.size, rawInt 0, Value.none] ++ (List.range k).map fun (i : Nat) => rawInt i).toArray.size ≤ _; simp only [List.size_toArray, List.length_append, List.length_map, List.length_range, List.length_cons, List.length_nil]; rw [sizeLine_eq]; omega))
  have z : (h'.push { cls := .type "tuple", data := .seq acc.toList.toArray }).objs.size = h'.objs.size + 1 := Heap.size_push ..
  have e2 : ([Value.ref h'.objs.size, rawInt 0, .none] ++ (List.range k).map fun (i : Nat) => rawInt i).toArray = #[Value.ref h'.objs.size, .int 0 0, .none] ++ ((List.range k).map fun (i : Nat) => rawInt i).toArray := by simp [rawInt]
  have fin := h h' tk acc kp hacc
  rw [← e2] at fin
  rw [← z] at fin
  rw [Array.toArray_toList] at fin ⊢
  exact fin
end
end K60
/-! combinations(range(n), r) as something that a for walks. -/
namespace K60
open PySem PySem.Spec PyProof.Rows L2
theorem plain_cb : plainId "itertools.combinations.__new__" = true := by decide +kernel
section
variable {prog : Program} {w : World} {A : Around} {E : Value → Shared → Prop} {s : Shared}
theorem call_cb {r : Addr} {n k : Nat} {t u v t' : Tok} {Q : Value → Shared → Prop} (hh : A.handled = none) (hr : IsRange s.heap r 0 n 1 t u v) (hn : n ≤ 50) (hk : k ≤ n)
    (h : ∀ (h1 h' : Heap) (tk : Nat) (acc : Array Value), (∀ b o, s.heap.get? b = some o → h1.get? b = some o) → (∀ b o, h1.get? b = some o → h'.get? b = some o) → IsCb h' (h1.objs.size + 1) h1.objs.size 0 .none (List.range k) → IsPool h' h1.objs.size acc →
      acc.size = n → (∀ j, j < n → ∃ t, acc[j]? = some (.int j t)) → Q (.ref (h1.objs.size + 1)) { s with heap := h', toks := tk }) :
    wpAny (model prog w) A (call (.type cT) [.ref r, .int k t']) Q E s := by
  refine callType_codes (Q₁ := fun obj s₁ => s₁.TypeIs obj cT ∧ Q obj s₁) called_cb (tc_cb _ _) F.entry_object_init ?_ fun obj s₁ h₁ => ?_
  · refine codeAny_of_tree ?_
    show wpAny _ A.in1.in1 (do checkBuiltinCall "itertools.combinations.__new__" ⟨[.type cT, .ref r, .int k t'], []⟩; again (.builtin "itertools.combinations.__new__" ⟨[.type cT, .ref r, .int k t'], []⟩)) _ _ s
    refine wpAny_bind (wpAny_of_eq (nc_cb _ _) (wpAny_pure ⟨plainId_quiet plain_cb _, codeAny_builtin en_cb_new ?_⟩))
    rw [Around.under_plainId plain_cb _]
    refine cb_new hh hr hn hk fun h' tk acc kp hacc => ?_
    have z : (h'.push { cls := .type "tuple", data := .seq acc }).objs.size = h'.objs.size + 1 := Heap.size_push ..
    have e1 := Heap.get?_push_size (h'.push { cls := .type "tuple", data := .seq acc }) (o := { cls := .type cT, dict := none, data := .fields (#[Value.ref h'.objs.size, .int 0 0, .none] ++ ((List.range k).map fun (i : Nat) => rawInt i).toArray), slots := #[] }) rfl
    rw [z] at e1
    refine ⟨⟨_, e1, rfl⟩, h h' _ tk acc kp (fun b o q => Heap.get?_push_of_some _ (Heap.get?_push_of_some _ q)) e1 (Heap.get?_push_of_some _ (Heap.get?_push_size _ rfl)) hacc.1 (fun j hj => ?_)⟩
    have hj' : j < acc.size := by rw [hacc.1]; exact hj
    obtain ⟨t, et⟩ := hacc.2 j acc[j] (by simp [hj'])
    refine ⟨t, ?_⟩
    have e2 : (0 : Int) + (j : Int) * 1 = j := by omega
    rw [e2] at et
    rw [← et]
    simp [hj']
  · exact ⟨h₁.1, F.args_object_init_3 obj _ _, object_init_meets called_cb.init.lookup called_cb.made (by decide) prog w A.in1 _ s₁ ⟨h₁.1, rfl, h₁.2⟩⟩
end

/-- the tuples of indices, one after another -/
structure SeqOk (n k : Nat) (seq : List (List Nat)) : Prop where
  first : seq[0]? = some (List.range k)
  step : ∀ (j : Nat) (ix : List Nat), seq[j]? = some ix → nextC n ix = seq[j + 1]?
  few : ∀ ix ∈ seq, ix.length ≤ 100 ∧ ∀ j ∈ ix, j < n
/-- each a new tuple -/
def Icb (seq : List (List Nat)) : It :=
  ⟨fun i _ => i < seq.length, fun i H x H' => ∃ T o ix, seq[i]? = some ix ∧ x = .ref T ∧ H T = none ∧ o.dict = none ∧ H' = upd H T (.frz o (.tup (ix.map fun (j : Nat) => V.int j))), fun i _ => i = seq.length⟩
def cbAt (it pool n k : Nat) (seq : List (List Nat)) (i : Nat) (h : Heap) : Prop :=
  pool ≠ it ∧ (∃ items, IsPool h pool items ∧ items.size = n ∧ ∀ j, j < n → ∃ t, items[j]? = some (.int j t)) ∧ (i = 0 → IsCb h it pool 0 .none (List.range k)) ∧ ∀ j, i = j + 1 → ∃ last ix, seq[j]? = some ix ∧ IsCb h it pool 1 last ix
theorem cbAt.it {it pool n k i : Nat} {seq : List (List Nat)} {h : Heap} (x : cbAt it pool n k seq i h) : ∃ st last ix, IsCb h it pool st last ix := by
  obtain ⟨_, _, h0, h1⟩ := x
  cases i with
  | zero => exact ⟨_, _, _, h0 rfl⟩
  | succ j =>
    obtain ⟨last, ix, _, e⟩ := h1 j rfl
    exact ⟨_, _, _, e⟩
theorem turn_cb {P : Program} {w : World} {K : PySem.W.Frag} {tg : Expr} {n k : Nat} {seq : List (List Nat)} (S : SeqOk n k seq) (it pool : Addr) : Turn P w K tg (Icb seq) [it, pool] it (cbAt it pool n k seq) where
  mem := by simp
  obj := fun i h st b hb => by
    rcases (show b = it ∨ b = pool by simpa using hb) with z | z
    · obtain ⟨st', last, ix, e⟩ := st.it
      rw [z]
      exact ⟨_, e, fun v q => nomatch q⟩
    · obtain ⟨_, ⟨items, e, _⟩, _⟩ := st
      rw [z]
      exact ⟨_, e, fun v q => nomatch q⟩
  keep := fun i h h' st kk => by
    obtain ⟨hne, ⟨items, e, z, f⟩, h0, h1⟩ := st
    refine ⟨hne, ⟨items, kk pool (by simp) _ e, z, f⟩, fun q => kk it (by simp) _ (h0 q), fun j q => ?_⟩
    obtain ⟨last, ix, e1, e2⟩ := h1 j q
    exact ⟨last, ix, e1, kk it (by simp) _ e2⟩
  item := by
    intro X hP hw hK hc i pins s σ H E I hf st hg
    subst hP hw hK
    obtain ⟨hne, ⟨items, hp, hz, hv⟩, h0, h1⟩ := st
    have hi : i < seq.length := hg
    obtain ⟨nx, enx⟩ : ∃ nx, seq[i]? = some nx := ⟨seq[i], by simp [hi]⟩
    obtain ⟨few, inn⟩ := S.few nx (List.mem_of_getElem? enx)
    have go : ∃ st last ix, IsCb s.heap it pool st last ix ∧ ((st = 0 ∧ nx = ix) ∨ (st = 1 ∧ nextC items.size ix = some nx)) := by
      cases i with
      | zero =>
        refine ⟨_, _, _, h0 rfl, .inl ⟨rfl, ?_⟩⟩
        have q := S.first
        rw [enx] at q
        exact Option.some.inj q
      | succ j =>
        obtain ⟨last, ix, e1, e2⟩ := h1 j rfl
        refine ⟨_, _, _, e2, .inr ⟨rfl, ?_⟩⟩
        rw [hz, S.step j ix e1]
        exact enx
    obtain ⟨st, last, ix, hit, hst⟩ := go
    have hel : it < s.heap.objs.size := Heap.lt_size hit
    have hpl : pool < s.heap.objs.size := Heap.lt_size hp
    refine cb_item hit hp hne hst few fun h' e1 e2 kk => ⟨_, rfl, ?_⟩
    refine go_of (s := { s with heap := h' }) (n := cT) e1 rfl rfl (by decide) ?_
    have rv : ∀ (l : List Nat), (∀ j ∈ l, j < n) → Vals (l.map fun (j : Nat) => V.int j) (l.map fun i => items.getD i .none) := by
      intro l
      induction l with
      | nil => intro _; exact .nil
      | cons a l ih =>
        intro hl
        obtain ⟨t, et⟩ := hv a (hl a List.mem_cons_self)
        refine .cons ⟨t, ?_⟩ (ih fun j hj => hl j (List.mem_cons_of_mem _ hj))
        show items.getD a Value.none = _
        rw [Array.getD_eq_getD_getElem?, et]
        rfl
    have new : ObjOk X.prog X.w (upd H s.heap.objs.size (.frz { cls := .type "tuple", data := .seq (nx.map fun i => items.getD i .none).toArray } (.tup (nx.map fun (j : Nat) => V.int j)))) h' s.heap.objs.size (.frz { cls := .type "tuple", data := .seq (nx.map fun i => items.getD i .none).toArray } (.tup (nx.map fun (j : Nat) => V.int j))) :=
      ⟨e2, by rw [List.length_map, sizeLine_eq]; omega, _, rv nx inn, ⟨_, e2, rfl, _, rfl⟩⟩
    have I1 := I.turnedNew (t' := s.toks) (ch := [it, pool]) (fun b ob hb q => kk b ob (fun z => hb (by simp [z])) q) hf (Nat.le_refl _) new
    refine ⟨.ref s.heap.objs.size, _, I1, rfl, ⟨_, _, nx, enx, rfl, I.hok.fresh (Nat.le_refl _), rfl, rfl⟩, ⟨hne, ⟨items, kk pool _ hne hp, hz, hv⟩, (fun z => absurd z (Nat.succ_ne_zero i)), fun j ej => ?_⟩, fun b hb => ?_⟩
    · have ej' : i = j := Nat.succ.inj ej
      subst ej'
      exact ⟨_, nx, enx, e1⟩
    · have hb' : b < s.heap.objs.size := by
        rcases (show b = it ∨ b = pool by simpa using hb) with z | z
        · rw [z]; exact hel
        · rw [z]; exact hpl
      rw [upd_ne (Nat.ne_of_lt hb')]
      exact (hf b hb).1
  done := by
    intro X hP hw hK hc i pins s σ H E I hf st hg
    subst hP hw hK
    obtain ⟨hne, ⟨items, hp, hz, hv⟩, h0, h1⟩ := st
    have hi : i = seq.length := hg
    subst hi
    obtain ⟨f0, f1, f2, f3, f4, f5⟩ := hf it (by simp)
    have hpos : 0 < seq.length := by
      have q := (List.getElem?_eq_some_iff.mp S.first).1
      exact q
    obtain ⟨m, em⟩ : ∃ m, seq.length = m + 1 := ⟨seq.length - 1, by omega⟩
    obtain ⟨last, ix, e1, e2⟩ := h1 m em
    refine cb_end (I.ok.hd hc) e2 hp ?_ fun h' eb => ⟨rfl, I.turned (t' := s.toks) (fun b o hb q => eb b o hb q) f0 f1 f3 f4 f5⟩
    rw [hz, S.step m ix e1, ← em]
    exact List.getElem?_eq_none (Nat.le_refl _)
  self := fun A i s Q E st h => by
    obtain ⟨st', last, ix, e⟩ := st.it
    exact cb_iter e h
theorem walk_cb {seq : List (List Nat)} : Walk (Icb seq) seq.length (fun _ => True) (fun i H x H' => ∃ T ix, seq[i]? = some ix ∧ x = .ref T ∧ Same H H' ∧ Tu H' T (ix.map fun (j : Nat) => V.int j)) := by
  refine ⟨fun i _ hi _ => hi, fun _ _ => rfl, fun i H x H' _ _ y => ?_⟩
  obtain ⟨T, o, ix, h1, h2, h3, h4, rfl⟩ := y
  exact ⟨T, ix, h1, h2, same_new h3, Tu.new h4⟩
section
variable {X : Cx}
def iCb (te t2 : TE) : TI := fun σ H R => te σ H fun x H1 => ∃ n : Nat, x = .int n ∧ t2 σ H1 fun y H2 => ∃ k : Nat, y = .int k ∧ n ≤ 50 ∧ k ≤ n ∧ ∃ seq, SeqOk n k seq ∧ R (Icb seq) H2
theorem pi_cb {tg e e2 : Expr} {te t2 : TE} {p p2 p3 pos : Pos} (hc : X.calm = true) (hm : X.mg "combinations" = some (.type cT)) (hmr : X.mg "range" = none) (he : PE X e te) (h2 : PE X e2 t2) (hg : Gl X "combinations" := by rfl) (hgr : Gl X "range" := by rfl)
    (n1 : starEach [.Call (.Name "range" p2) [e] [] p3, e2] X.env = (false, eval (.Call (.Name "range" p2) [e] [] p3) X.env) :: starEach [e2] X.env := by rfl) (n2 : starEach [e2] X.env = (false, eval e2 X.env) :: starEach [] X.env := by rfl)
    (n3 : starEach [e] X.env = (false, eval e X.env) :: starEach [] X.env := by rfl) (hp : (backTo pos (starEach [e2] X.env)).any (·.1) = false := by rfl) :
    PI X tg (.Call (.Name "combinations" p) [.Call (.Name "range" p2) [e] [] p3, e2] [] pos) (iCb te t2) := by
  refine ⟨fun pins s σ H R I h => ?_⟩
  refine Call_ (ld_glob I hg hm (PyProof.Rows.callWith_type1 (args_cons ?_ n1) n1 hp))
  refine Call_ (ld_blt I hgr hmr boot_range (PyProof.Rows.callWith_type1 (one_arg he I h (fun v s2 x H2 I2 r q => ?_) n3) n3))
  obtain ⟨n, rfl, q⟩ := q
  obtain ⟨t, rfl⟩ := r
  refine call_range_1 ?_
  have kr : ∀ b o, s2.heap.get? b = some o → (s2.heap.push { cls := .type "range", data := .fields #[.int 0 s2.toks, .int n t, .int 1 (s2.toks + 1)] }).get? b = some o := fun b o e => Heap.get?_push_of_some _ e
  have I3 : L2.Inv X pins σ H2 { s2 with heap := s2.heap.push { cls := .type "range", data := .fields #[.int 0 s2.toks, .int n t, .int 1 (s2.toks + 1)] }, toks := s2.toks + 1 + 1 } := I2.kept kr
  have fr := I2.hok.fresh (Nat.le_refl s2.heap.objs.size)
  have I4 : L2.Inv X ((s2.heap.objs.size, { cls := .type "range", data := .fields #[.int 0 s2.toks, .int n t, .int 1 (s2.toks + 1)] }) :: pins) σ H2 { s2 with heap := s2.heap.push { cls := .type "range", data := .fields #[.int 0 s2.toks, .int n t, .int 1 (s2.toks + 1)] }, toks := s2.toks + 1 + 1 } :=
    I3.pins_of fun pp hpp => by
      rcases List.mem_cons.mp hpp with rfl | hpp
      · exact ⟨Heap.get?_push_size _ rfl, fr, Nat.ne_of_gt I2.lt, I2.nofs (Nat.le_refl _), fun v z => nomatch z⟩
      · exact I3.pin pp (List.mem_append_right _ hpp)
  refine one_arg h2 I4 q (fun u s5 y H5 I5 r5 q5 => ?_) n2
  obtain ⟨k, rfl, hn, hk, seq, S, q6⟩ := q5
  obtain ⟨t', rfl⟩ := r5
  have hr5 : IsRange s5.heap s2.heap.objs.size 0 n 1 s2.toks t (s2.toks + 1) := (I5.pin _ (List.mem_append_right _ List.mem_cons_self)).1
  have I6 : L2.Inv X pins σ H5 s5 := I5.pins_of fun pp hpp => I5.pin pp (List.mem_append_right _ (List.mem_cons_of_mem _ hpp))
  refine call_cb (I6.ok.hd hc) hr5 hn hk fun h1 h' tk acc k1 k2 e1 e2 hz hv => ?_
  refine cb_iter (s := { s5 with heap := h', toks := tk }) e1 ?_
  have I7 : L2.Inv X pins σ H5 { s5 with heap := h1 } := I6.kept (t' := s5.toks) k1
  have I8 : L2.Inv X pins σ H5 { s5 with heap := h', toks := tk } := I6.kept fun b o e => k2 b o (k1 b o e)
  refine ⟨h1.objs.size + 1, [h1.objs.size + 1, h1.objs.size], _, _, H5, rfl, I8, turn_cb S (h1.objs.size + 1) h1.objs.size, ⟨Nat.ne_of_lt (Nat.lt_succ_self _), ⟨acc, e2, hz, hv⟩, fun _ => e1, fun j z => absurd z.symm (Nat.succ_ne_zero j)⟩, fun b hb => ?_, q6⟩
  have hle : h1.objs.size ≤ b := by
    rcases (show b = h1.objs.size + 1 ∨ b = h1.objs.size by simpa using hb) with z | z
    · rw [z]; exact Nat.le_add_right _ _
    · rw [z]; exact Nat.le_refl _
  exact I7.fpOk hle (I7.hok.fresh hle)
end
end K60
/-! t[::-1]; sorted(t) of ints; sorted of rows (a number, a tuple of numbers, a tuple of numbers). -/
namespace K60
open PySem PySem.Spec PyProof.Rows L2
section
variable {prog : Program} {w : World} {A : Around} {E : Value → Shared → Prop} {s : Shared}
/-! ### t[::-1] -/
theorem slice_rev {sl : Addr} {vl vu vs : Value} {n : Nat} {Q : Int × Int × Nat → Shared → Prop} (hs : s.heap.IsSliceOf sl vl vu vs) (pl : IsPart vl none) (pu : IsPart vu none) (ps : IsPart vs (some (-1)))
    (h : Q ((n : Int) - 1, -1, n) s) : wpAny (model prog w) A (Builtin.Slice.sliceApplied (.ref sl) (pure (n : Int))) Q E s := by
  obtain ⟨os, hos, hcs, hds⟩ := id hs
  unfold Builtin.Slice.sliceApplied Builtin.Slice.sliceFields
  refine wpAny_bind (wpAny_bind (wpAny_field hos hds (x := vl) rfl (wpAny_bind (wpAny_field hos hds (x := vu) rfl (wpAny_bind (wpAny_field hos hds (x := vs) rfl (wpAny_pure ?_)))))))
  refine wpAny_bind (HT.slicePart_ ps ?_)
  show wpAny _ _ (if ((-1 : Int) == 0) = true then _ else _) _ _ s
  rw [if_neg (by decide)]
  refine wpAny_bind (HT.slicePart_ pl (wpAny_bind (HT.slicePart_ pu (wpAny_bind (wpAny_pure ?_)))))
  have e : Builtin.Slice.sliceAdjust none none (-1) (n : Int) = ((n : Int) - 1, -1) := by
    unfold Builtin.Slice.sliceAdjust
    simp
  have e2 : Builtin.Slice.slicePlaces ((n : Int) - 1) (-1) (-1) = n := by
    unfold Builtin.Slice.slicePlaces
    simp
    omega
  show wpAny _ _ (match Builtin.Slice.sliceAdjust none none (-1) (n : Int) with | (lo, hi) => pure (lo, (-1 : Int), Builtin.Slice.slicePlaces lo hi (-1))) _ _ s
  rw [e]
  show wpAny _ _ (pure ((n : Int) - 1, (-1 : Int), Builtin.Slice.slicePlaces ((n : Int) - 1) (-1) (-1))) _ _ s
  rw [e2]
  exact wpAny_pure h
theorem fm_congr {α β : Type} {f g : α → Option β} : ∀ {l : List α}, (∀ x ∈ l, f x = g x) → l.filterMap f = l.filterMap g
  | [], _ => rfl
  | a :: l, h => by
    rw [List.filterMap_cons, List.filterMap_cons, h a List.mem_cons_self, fm_congr fun x hx => h x (List.mem_cons_of_mem _ hx)]
theorem pick_rev (xs : Array Value) : ((List.range xs.size).filterMap fun (m : Nat) => xs[(((xs.size : Nat) : Int) - 1 + (m : Int) * (-1)).toNat]?).toArray = xs.toList.reverse.toArray := by
  have f : ∀ m ∈ List.range xs.size, xs[(((xs.size : Nat) : Int) - 1 + (m : Int) * (-1)).toNat]? = xs.toList.reverse.toArray[((0 : Nat) : Int) + (m : Int) * 1 |>.toNat]? := by
    intro m hm
    have hm := List.mem_range.mp hm
    have e : (((xs.size : Nat) : Int) - 1 + (m : Int) * (-1)).toNat = xs.size - 1 - m := by omega
    have e2 : (((0 : Nat) : Int) + (m : Int) * 1).toNat = m := by omega
    rw [e, e2]
    have z : xs.toList.reverse.toArray[m]? = xs.toList.reverse[m]? := by simp
    rw [z, List.getElem?_reverse (by simpa using hm)]
    simp
  rw [fm_congr f]
  have g := HT.pick_gen xs.toList.reverse.toArray 0 xs.size
  rw [g]
  congr 1
  rw [List.drop_zero, List.toList_toArray]
  exact List.take_of_length_le (by simp)
theorem getItem_rev {t sl : Addr} {items : Array Value} {vl vu vs : Value} {Q : Value → Shared → Prop} (ht : IsTup s.heap t items) (hs : s.heap.IsSliceOf sl vl vu vs) (pl : IsPart vl none) (pu : IsPart vu none) (ps : IsPart vs (some (-1)))
    (h : Q (.ref s.heap.objs.size) { s with heap := s.heap.push { cls := .type "tuple", data := .seq items.toList.reverse.toArray } }) (hz : items.size ≤ sizeLine) : wpAny (model prog w) A (getItem (.ref t) (.ref sl)) Q E s := by
  obtain ⟨os, hos, hcs, hds⟩ := id hs
  have hTs : s.TypeIs (.ref sl) "slice" := ⟨os, hos, hcs⟩
  unfold getItem
  try with_reducible refine wpAny_holding ?_
  first | refine wpAny_bind (wpAny_pure ?_) | skip
  refine wpAny_bind (wpAny_sequenceKey ht.typeIs (by decide) ?_)
  refine wpAny_bind (wpAny_callSpecial?_slot (name := Str.ofString "__getitem__") ht.typeIs PyProof.Rows.slot_tuple_getitem
    (wpAny_call_entry PyProof.Rows.slot_tuple_getitem ht.typeIs entry_tuple_getitem ?_ (args_tuple_getitem _ _)))
  show wpAny _ _ (Builtin.Tuple.tupleItemsOf (.ref t) >>= _) _ _ s
  refine wpAny_bind (tupleItemsOf_ ht ?_)
  refine wpAny_bind (wpAny_typeOf hTs ?_)
  rw [if_pos (by decide)]
  refine wpAny_bind (slice_rev hs pl pu ps ?_)
  have hno : ¬ ((((items.size : Nat) : Int) - 1 == 0 && (-1 : Int) == 1 && items.size == items.size) = true) := by
    have z : ((-1 : Int) == 1) = false := by decide
    rw [z, Bool.and_false, Bool.false_and]
    exact Bool.false_ne_true
  show wpAny _ _ (if (((items.size : Nat) : Int) - 1 == 0 && (-1 : Int) == 1 && items.size == items.size) = true then _ else _) _ _ s
  rw [if_neg hno, pick_rev]
  have hz' : sizeOk (.seq items.toList.reverse.toArray) := by
    show items.toList.reverse.toArray.size ≤ sizeLine
    simpa using hz
  first
    | exact wpAny_bind (m := Builtin.Tuple.tupleExact _) (wpAny_newObj_type (wpAny_pure ⟨_, rfl, wpAny_pure h⟩) hz')
    | exact wpAny_bind (m := Builtin.Tuple.tupleExact _) (wpAny_newObj_type (wpAny_bind (wpAny_pure (wpAny_pure ⟨_, rfl, wpAny_pure h⟩))) hz')
    | exact wpAny_bind (wpAny_bind (m := Builtin.Tuple.tupleExact _) (wpAny_newObj_type (wpAny_pure (wpAny_pure ⟨_, rfl, wpAny_pure h⟩)) hz'))
    | exact wpAny_bind (wpAny_bind (m := Builtin.Tuple.tupleExact _) (wpAny_newObj_type (wpAny_pure ⟨_, rfl, wpAny_pure h⟩) hz'))
end
end K60
/-! The rules t[::-1], sorted(t), sorted(rows). -/
namespace K60
open PySem PySem.Spec PyProof.Rows L2
section
variable {X : Cx}
def tRevT (te : TE) : TE := fun σ H Q => te σ H fun x H1 => ∃ a xs, x = .ref a ∧ Tu H1 a xs ∧ NewT H1 xs.reverse Q
theorem pe_revT {e : Expr} {te : TE} {k : Nat} {p1 p2 p3 pos : Pos} (he : PE X e te) : PE X (.Subscript e (.Slice none none (some (.UnaryOp .USub (.Constant (.int 1) k p1) p2)) p3) pos) (tRevT te) := by
  refine ⟨fun pins s σ H Q I h => ?_⟩
  refine Subscript_ (thn (he.run pins s σ H _ I h) fun v s1 ⟨x, H1, I1, r1, q1⟩ => ?_)
  obtain ⟨a, xs, ex, hx, q⟩ := q1
  subst ex
  cases r1
  have hst : PO X (some (.UnaryOp .USub (.Constant (.int 1) k p1) p2)) (tPart (tUn (rU fun i => .int (-i)) (tC (.int 1)))) := po_some (pe_un un_neg pe_int)
  refine wpAny_Slice (thn (po_none.run pins s1 σ H1 (fun o H2 => o = none ∧ H2 = H1) I1 ⟨rfl, rfl⟩) fun vl s2 ⟨l, H2, I2, pl, el, e2⟩ => ?_)
  subst el e2
  refine thn (po_none.run pins s2 σ H2 (fun o H3 => o = none ∧ H3 = H2) I2 ⟨rfl, rfl⟩) fun vu s3 ⟨u, H3, I3, pu, eu, e3⟩ => ?_
  subst eu e3
  refine thn (hst.run pins s3 σ H3 (fun o H4 => o = some (-1) ∧ H4 = H3) I3 ⟨1, rfl, -1, rfl, rfl, rfl⟩) fun vs s4 ⟨o, H4, I4, ps, eo, e4⟩ => ?_
  subst eo e4
  have I5 : L2.Inv X pins σ H4 { s4 with heap := s4.heap.push { cls := .type "slice", data := .fields #[vl, vu, vs] } } := I4.kept (t' := s4.toks) fun b ob q => Heap.get?_push_of_some _ q
  obtain ⟨its, r, ht, hz⟩ := I5.tuple hx.q
  have hlen := r.length
  show wpAny (model X.prog X.w) X.A (subscriptTail e (.Slice none none (some (.UnaryOp .USub (.Constant (.int 1) k p1) p2)) p3) (.ref a) (.ref s4.heap.objs.size)) (EP X pins σ Q) X.xe { s4 with heap := s4.heap.push { cls := .type "slice", data := .fields #[vl, vu, vs] } }
  refine tail_any (ops := [.ref a, .ref s4.heap.objs.size]) ht.typeIs (PyProof.Rows.slot_tuple_getitem.lookup) ?_ (by with_unfolding_all rfl)
  refine getItem_rev ht (Heap.IsSliceOf.new _ vl vu vs) pl pu ps ?_ (by rw [List.size_toArray]; omega)
  have e5 : its.toArray.toList.reverse.toArray = its.reverse.toArray := by simp
  rw [e5]
  exact tup_laid (s := { s4 with heap := s4.heap.push { cls := .type "slice", data := .fields #[vl, vu, vs] } }) (tk := s4.toks) (I5.kept (t' := s4.toks) fun b ob q => q) r.reverse (by rw [List.length_reverse]; exact hz) q
end

/-! ### sorted(t), ints -/
section
variable {prog : Program} {w : World} {A : Around} {E : Value → Shared → Prop} {s : Shared}
theorem collect_tup {l : Addr} {vs : List Value} {Q : List Value → Shared → Prop} (hl : IsTup s.heap l vs.toArray)
    (h : Q vs { s with heap := (s.heap.push (seqObj "list" #[] 0)).update s.heap.objs.size (Obj.mapSeq (· ++ vs.toArray)) }) (hsz : vs.length ≤ sizeLine) :
    wpAny (model prog w) A (collect (.ref l)) Q E s := by
  obtain ⟨o, ho, hc, n, hd⟩ := id hl
  unfold collect
  refine wpAny_bind (wpAny_runValue (codeAny_builtin entry_proto_collect' ?_))
  show wpAny _ _ (do again (.builtin "list.__iadd__" ⟨[← newList [], .ref l], []⟩)) _ _ s
  refine wpAny_bind (wpAny_newList (wpAny_pure ⟨Code.quiet_builtin _ (by decide +kernel), codeAny_builtin entry_list_iadd' ?_⟩))
  show wpAny _ _ (Builtin.List.listExtendWith (.ref s.heap.objs.size) (.ref l) (.ref s.heap.objs.size)) _ _ { s with heap := s.heap.push (seqObj "list" #[] 0) }
  unfold Builtin.List.listExtendWith
  have ho' : (s.heap.push (seqObj "list" #[] 0)).get? l = some o := Heap.get?_push_of_some _ ho
  refine wpAny_bind (wpAny_typeOf (T := "tuple") ⟨o, ho', hc⟩ ?_)
  have ht : (Value.type "tuple" == Value.type "tuple") = true := by rfl
  rw [if_pos (by rw [ht]; simp)]
  refine wpAny_bind (listItems_at ho' hd ?_)
  refine wpAny_bind (listItems_at (xs := #[]) (n := 0) (Heap.get?_push_size _ rfl) rfl ?_)
  rw [if_neg (by simp)]
  refine wpAny_bind (listUpdate_at (xs := #[]) (n := 0) (Heap.get?_push_size _ rfl) rfl ?_ (Nat.zero_le _) (by show (#[] ++ vs.toArray).size ≤ sizeLine + 1; simp only [Array.size_append, List.size_toArray, List.length_nil]; omega))
  refine wpAny_pure ?_
  show wpAny (model prog w) A (do
      let o ← load s.heap.objs.size
      match o.data with
      | .seq xs _ => pure xs.toList
      | _ => unsupported "internal:collect") Q E { s with heap := (s.heap.push (seqObj "list" #[] 0)).update s.heap.objs.size (Obj.mapSeq (· ++ vs.toArray)) }
  refine wpAny_bind (wpAny_load (get?_update_seq (Heap.get?_push_size _ rfl) _) ?_)
  show wpAny _ _ (pure ((#[] : Array Value) ++ vs.toArray).toList) Q E _
  rw [show ((#[] : Array Value) ++ vs.toArray).toList = vs by simp]
  exact wpAny_pure h
theorem sorted_tup {l : Addr} {vs : List Value} {ns : List Int} {Q : Value → Shared → Prop} (hl : IsTup s.heap l vs.toArray) (hI : IntsAre vs ns) (hz : vs.length ≤ sizeLine)
    (h : ∀ out : List Value, SrtO.Srtd SrtO.ltIv out → SrtO.Stb SrtO.ltIv out vs → Q (.ref (s.heap.objs.size + 1)) { s with heap := sortedAll s.heap vs out.toArray }) :
    wpAny (model prog w) A (call (.builtin "sorted") [.ref l]) Q E s := by
  refine Calls.call_function_entry kind_sorted plain_sorted entry_sorted (args_sorted1 _) ?_
  unfold Builtin.«sorted»
  refine wpAny_bind (m := checkCount "sorted" 1 1 _) (wpAny_pure ?_)
  refine wpAny_bind (collect_tup hl ?_ hz)
  refine wpAny_bind (wpAny_newList ?_ hz)
  have hsz : ((s.heap.push (seqObj "list" #[] 0)).update s.heap.objs.size (Obj.mapSeq (· ++ vs.toArray))).objs.size = s.heap.objs.size + 1 := by
    rw [Heap.size_update, size_push']
  have hoL : (((s.heap.push (seqObj "list" #[] 0)).update s.heap.objs.size (Obj.mapSeq (· ++ vs.toArray))).push (seqObj "list" vs.toArray 0)).get? (s.heap.objs.size + 1) = some (seqObj "list" vs.toArray 0) := by
    rw [← hsz]; exact Heap.get?_push_size _ rfl
  show wpAny _ _ _ _ _ { s with heap := ((s.heap.push (seqObj "list" #[] 0)).update s.heap.objs.size (Obj.mapSeq (· ++ vs.toArray))).push (seqObj "list" vs.toArray 0) }
  rw [hsz]
  refine wpAny_bind (wpAny_holding (wpAny_call_entry slot_list_sort ⟨_, hoL, rfl⟩ entry_list_sort (SrtO.list_sort_ord SrtO.swo_int hoL hz (fun h2 => SrtO.ints_sortable hI h2) fun out hs hb => ⟨_, rfl, ?_⟩) (args_list_sort _)))
  exact wpAny_pure ⟨_, rfl, h out hs hb⟩
end
section
variable {X : Cx}
def rSortedT : List V → Hp → VK → Prop := fun vs H Q => ∃ (a : Addr) (ns : List Int), vs = [V.ref a] ∧ Tu H a (ns.map V.int) ∧
  ∀ (ns' : List Int) (p : Addr), ns'.Perm ns → ns'.Pairwise (· ≤ ·) → H p = none → Q (.ref p) (upd H p (.lst (ns'.map V.int)))
theorem cr_sortedT : CallR X (.builtin "sorted") rSortedT := by
  intro pins s σ H vs us Q I r h
  obtain ⟨a, ns, rfl, hs, q⟩ := h
  obtain ⟨its, rv, hl, hz⟩ := I.tuple hs.q
  rw [Vals.ref1 r]
  have hi := rv.ints
  refine sorted_tup hl hi (by rw [← rv.length]; exact hz) fun out h1 h2 => ?_
  obtain ⟨k1, k2, k3⟩ := SrtO.ints_out hi h1 h2
  obtain ⟨ep, he'⟩ := PyProof.Rows.sortedAll_at s.heap its out.toArray
  have hlen : ((out.map SrtO.iv).map V.int).length ≤ sizeLine := by
    rw [List.length_map, k2.length_eq]
    rw [List.length_map] at hz
    exact hz
  exact ⟨.ref _, upd H (s.heap.objs.size + 1) (.lst ((out.map SrtO.iv).map V.int)), I.laid (t' := s.toks) (fun _ _ => PyProof.Rows.sortedAll_old) (Nat.le_succ _) ⟨hlen, out, ep, vals_of_ints k1, he'⟩, rfl, q _ _ k2 k3 (I.hok.fresh (Nat.le_succ _))⟩
end

/-! ### orders -/
structure Tot {α : Type} (lt : α → α → Bool) : Prop where
  asym : ∀ x y, lt x y = true → lt y x = false
  tr : ∀ x y z, lt x y = true → lt y z = true → lt x z = true
  tri : ∀ x y, lt x y = false → lt y x = false → x = y
theorem Tot.irr {α : Type} {lt : α → α → Bool} (T : Tot lt) (x : α) : lt x x = false := by
  cases h : lt x x with
  | false => rfl
  | true => exact (T.asym x x h).symm.trans h ▸ rfl
theorem tot_int : Tot fun (x y : Int) => decide (x < y) := by
  refine ⟨fun x y h => ?_, fun x y z h k => ?_, fun x y h k => ?_⟩
  · have := of_decide_eq_true h
    exact decide_eq_false (by omega)
  · have := of_decide_eq_true h
    have := of_decide_eq_true k
    exact decide_eq_true (by omega)
  · have := of_decide_eq_false h
    have := of_decide_eq_false k
    omega
theorem tot_lex : Tot HT.lexLt := by
  refine ⟨?_, ?_, ?_⟩
  · intro x
    induction x with
    | nil => intro y h; cases y <;> first | rfl | cases h
    | cons a x ih =>
      intro y h
      cases y with
      | nil => cases h
      | cons b y =>
        rw [HT.lexLt_cons] at h ⊢
        by_cases e : a = b
        · rw [if_pos e] at h
          rw [if_pos e.symm]
          exact ih y h
        · rw [if_neg e] at h
          rw [if_neg (Ne.symm e)]
          exact tot_int.asym a b h
  · intro x
    induction x with
    | nil => intro y z h k; cases z with
      | nil => cases y <;> cases k
      | cons c z => rfl
    | cons a x ih =>
      intro y z h k
      cases y with
      | nil => cases h
      | cons b y =>
        cases z with
        | nil => cases k
        | cons c z =>
          rw [HT.lexLt_cons] at h k ⊢
          by_cases e : a = b
          · subst e
            rw [if_pos rfl] at h
            by_cases e2 : a = c
            · rw [if_pos e2] at k ⊢
              exact ih y z h k
            · rw [if_neg e2] at k ⊢
              exact k
          · rw [if_neg e] at h
            by_cases e2 : b = c
            · subst e2
              rw [if_neg e]
              exact h
            · rw [if_neg e2] at k
              have h1 := of_decide_eq_true h
              have h2 := of_decide_eq_true k
              rw [if_neg (by omega)]
              exact decide_eq_true (by omega)
  · intro x
    induction x with
    | nil => intro y h k; cases y with
      | nil => rfl
      | cons b y => cases h
    | cons a x ih =>
      intro y h k
      cases y with
      | nil => cases k
      | cons b y =>
        rw [HT.lexLt_cons] at h k
        by_cases e : a = b
        · rw [if_pos e] at h
          rw [if_pos e.symm] at k
          rw [e, ih y h k]
        · rw [if_neg e] at h
          rw [if_neg (Ne.symm e)] at k
          exact absurd (tot_int.tri a b h k) e
def pLt {α β : Type} [DecidableEq α] (f : α → α → Bool) (g : β → β → Bool) (x y : α × β) : Bool := if x.1 = y.1 then g x.2 y.2 else f x.1 y.1
theorem tot_p {α β : Type} [DecidableEq α] {f : α → α → Bool} {g : β → β → Bool} (F : Tot f) (G : Tot g) : Tot (pLt f g) := by
  refine ⟨fun x y h => ?_, fun x y z h k => ?_, fun x y h k => ?_⟩
  · unfold pLt at h ⊢
    by_cases e : x.1 = y.1
    · rw [if_pos e] at h
      rw [if_pos e.symm]
      exact G.asym _ _ h
    · rw [if_neg e] at h
      rw [if_neg (Ne.symm e)]
      exact F.asym _ _ h
  · unfold pLt at h k ⊢
    by_cases e : x.1 = y.1
    · rw [if_pos e] at h
      by_cases e2 : y.1 = z.1
      · rw [if_pos e2] at k
        rw [if_pos (e.trans e2)]
        exact G.tr _ _ _ h k
      · rw [if_neg e2] at k
        rw [if_neg (by rw [e]; exact e2), e]
        exact k
    · rw [if_neg e] at h
      by_cases e2 : y.1 = z.1
      · rw [if_neg (by rw [← e2]; exact e), ← e2]
        exact h
      · rw [if_neg e2] at k
        have t := F.tr _ _ _ h k
        rw [if_neg (fun q => ?_)]
        · exact t
        · rw [q] at h
          have := F.asym _ _ h
          rw [this] at k
          cases k
  · unfold pLt at h k
    by_cases e : x.1 = y.1
    · rw [if_pos e] at h
      rw [if_pos e.symm] at k
      exact Prod.ext e (G.tri _ _ h k)
    · rw [if_neg e] at h
      rw [if_neg (Ne.symm e)] at k
      exact absurd (F.tri _ _ h k) e
theorem Tot.swo {α : Type} {lt : α → α → Bool} (T : Tot lt) : SrtO.Swo lt := by
  refine ⟨T.asym, fun x y z h k => ?_⟩
  cases q : lt z x with
  | false => rfl
  | true =>
    cases p : lt x y with
    | true =>
      have := T.tr _ _ _ q p
      rw [k] at this
      cases this
    | false =>
      have e := T.tri _ _ p h
      subst e
      rw [k] at q
      cases q
theorem swo_comp {α β : Type} {lt : β → β → Bool} (O : SrtO.Swo lt) (f : α → β) : SrtO.Swo fun x y => lt (f x) (f y) := ⟨fun x y h => O.asym _ _ h, fun x y z h k => O.tr _ _ _ h k⟩
abbrev Row := Int × List Int × List Int
abbrev ltR : Row → Row → Bool := pLt (fun (x y : Int) => decide (x < y)) (pLt HT.lexLt HT.lexLt)
theorem tot_row : Tot ltR := tot_p tot_int (tot_p tot_lex tot_lex)
abbrev tRow (r : Row) : PyData := .tuple [.int r.1, tI r.2.1, tI r.2.2]
end K60
/-! sorted of rows (a number, a tuple of numbers, a tuple of numbers). -/
namespace K60
open PySem PySem.Spec PyProof.Rows L2
/-- a tuple of ints in the heap -/
def IsTI (h : Heap) (a : Addr) (ns : List Int) : Prop := ∃ its : List Value, IsTup h a its.toArray ∧ IntsAre its ns
theorem IsTI.keeps {h h' : Heap} {a : Addr} {ns : List Int} (p : IsTI h a ns) (k : ∀ b o, h.get? b = some o → o.cls = .type "tuple" → h'.get? b = some o) : IsTI h' a ns := by
  obtain ⟨its, ⟨o, ho, hc, hd⟩, i⟩ := p
  exact ⟨its, ⟨o, k _ _ ho hc, hc, hd⟩, i⟩
theorem intsAre_len : ∀ {us : List Value} {ns : List Int}, IntsAre us ns → us.length = ns.length
  | _, _, .nil => rfl
  | _, _, .cons n t r => by rw [List.length_cons, List.length_cons, intsAre_len r]
theorem intsAre_at : ∀ {us : List Value} {ns : List Int} {i : Nat} {u : Value}, IntsAre us ns → us[i]? = some u → ∃ t, u = .int (ns.getD i 0) t
  | _, _, i, u, .nil, h => by simp at h
  | _, _, 0, u, .cons n t r, h => by simp at h; subst h; exact ⟨t, rfl⟩
  | _, _, i + 1, u, .cons n t r, h => by
    obtain ⟨t', e⟩ := intsAre_at (i := i) r (by simpa using h)
    exact ⟨t', by rw [e]; rfl⟩
theorem intsAre_det : ∀ {us : List Value} {ns ms : List Int}, IntsAre us ns → IntsAre us ms → ns = ms
  | _, _, _, .nil, k => by cases k; rfl
  | _, _, _, .cons n t r, k => by
    cases k with
    | cons n' t' r' => rw [intsAre_det r r']
theorem IsTI.det {h : Heap} {a : Addr} {ns ms : List Int} (p : IsTI h a ns) (q : IsTI h a ms) : ns = ms := by
  obtain ⟨its, ⟨o, ho, _, n, hd⟩, i⟩ := p
  obtain ⟨its', ⟨o', ho', _, n', hd'⟩, i'⟩ := q
  rw [ho] at ho'
  cases ho'
  rw [hd] at hd'
  cases hd'
  exact intsAre_det i i'
theorem all_eq (ns ms : List Int) : ((List.range (min ns.length ms.length)).all (fun j => ns.getD j 0 == ms.getD j 0) && (ns.length == ms.length)) = decide (ns = ms) := by
  rw [Bool.eq_iff_iff, Bool.and_eq_true, List.all_eq_true, decide_eq_true_eq, beq_iff_eq]
  refine ⟨fun ⟨h, z⟩ => List.ext_getElem z fun i h1 h2 => ?_, fun e => ?_⟩
  · have q := h i (List.mem_range.mpr (by omega))
    rw [beq_iff_eq] at q
    simpa [h1, h2] using q
  · subst e
    exact ⟨fun _ _ => by simp, rfl⟩
theorem eqAt_ti {A : Around} {s : Shared} {a b : Addr} {ns ms : List Int} (p : IsTI s.heap a ns) (q : IsTI s.heap b ms) (hu : A.units < cLine) : SeqAt.EqAt A s (.ref a) (.ref b) (decide (ns = ms)) := by
  by_cases e : a = b
  · subst e
    have z := p.det q
    subst z
    have := SeqAt.EqAt.same (A := A) (s := s) (.ref a)
    simpa using this
  · obtain ⟨its, p1, i1⟩ := p
    obtain ⟨its', p2, i2⟩ := q
    have z := all_eq ns ms
    have l1 := intsAre_len i1
    have l2 := intsAre_len i2
    have := SeqAt.EqAt.of_refs e (SeqAt.RcAt.tuples (A := A) (s := s) (e := fun j => ns.getD j 0 == ms.getD j 0) p1 p2 hu fun j h1 h2 => ?_)
    · rw [List.size_toArray, List.size_toArray, l1, l2, z] at this
      exact this
    · have h1' : j < its.length := by simpa using h1
      have h2' : j < its'.length := by simpa using h2
      obtain ⟨t, e1⟩ := intsAre_at (i := j) i1 (u := its[j]) (by simp [h1'])
      obtain ⟨t', e2⟩ := intsAre_at (i := j) i2 (u := its'[j]) (by simp [h2'])
      have e3 : its.toArray[j] = its[j] := by simp
      have e4 : its'.toArray[j] = its'[j] := by simp
      rw [e3, e4, e1, e2]
      exact SeqAt.EqAt.int_int _ _ _ _
def IsRow (h : Heap) (v : Value) (r : Row) : Prop := ∃ a o t b c n, v = .ref a ∧ h.get? a = some o ∧ o.cls = .type "tuple" ∧ o.data = .seq #[.int r.1 t, .ref b, .ref c] n ∧ IsTI h b r.2.1 ∧ IsTI h c r.2.2
theorem IsRow.keeps {h h' : Heap} {v : Value} {r : Row} (p : IsRow h v r) (k : ∀ b o, h.get? b = some o → o.cls = .type "tuple" → h'.get? b = some o) : IsRow h' v r := by
  obtain ⟨a, o, t, b, c, n, e, ho, hc, hd, hb, hcc⟩ := p
  exact ⟨a, o, t, b, c, n, e, k _ _ ho hc, hc, hd, hb.keeps k, hcc.keeps k⟩
theorem firsts_row {h : Heap} : ∀ {vs : List Value}, (∀ v ∈ vs, ∃ r, IsRow h v r) → ∃ fs : List Value, PySem.W.KatTups h vs fs ∧ fs.length = vs.length ∧ ∀ f ∈ fs, ∃ x t, f = Value.int x t
  | [], _ => ⟨[], PySem.W.KatTups.nil, rfl, fun _ hm => by simp at hm⟩
  | v :: vs, hp => by
    obtain ⟨fs, h1, h2, h3⟩ := firsts_row (vs := vs) fun v' hm => hp v' (List.mem_cons_of_mem _ hm)
    obtain ⟨r, a, o, t, b, c, n, e, ho, hc, hd, _⟩ := hp v (List.mem_cons_self ..)
    subst e
    refine ⟨.int r.1 t :: fs, PySem.W.KatTups.cons ho hc hd rfl h1, by rw [List.length_cons, List.length_cons, h2], fun f hm => ?_⟩
    rcases List.mem_cons.mp hm with e | hm
    · exact ⟨_, _, e⟩
    · exact h3 f hm
section
variable {prog : Program} {w : World} {A : Around} {E : Value → Shared → Prop} {s : Shared}
theorem row_cmp {vs : List Value} {k : Value → Row} (hu : A.units + 2 < cLine) (hp : ∀ v ∈ vs, IsRow s.heap v (k v)) : SrtO.Cmp prog w A s (tuples' true) (fun p => p.1 ∈ vs) (SrtO.lt2 fun v u => ltR (k v) (k u)) := by
  intro p q hm hm'
  have h1 := hp _ hm
  have h2 := hp _ hm'
  show wpAny (model prog w) A (keyLt' (tuples' true) p.1 q.1) (fun r s' => s' = s ∧ r = ltR (k p.1) (k q.1)) (fun _ _ => False) s
  generalize k p.1 = r at h1 ⊢
  generalize k q.1 = r' at h2 ⊢
  obtain ⟨x, xs, ys⟩ := r
  obtain ⟨x', xs', ys'⟩ := r'
  obtain ⟨a, o, t, b, c, n, e, ho, hc, hd, hb, hcc⟩ := h1
  obtain ⟨a', o', t', b', c', n', e', ho', hc', hd', hb', hcc'⟩ := h2
  simp only at hb hcc hb' hcc'
  rw [e, e']
  have hL : ltR (x, xs, ys) (x', xs', ys') = if x = x' then (if xs = xs' then HT.lexLt ys ys' else HT.lexLt xs xs') else decide (x < x') := rfl
  rw [hL]
  refine PySem.W.kat_lt ho hd ho' hd' ?_
  show PySem.W.KatLex prog w A true (decide (3 < 3)) _ [(.int x t, .int x' t'), (.ref b, .ref b'), (.ref c, .ref c')] 0 s
  refine PySem.W.kat_cons (SeqAt.EqAt.int_int x t x' t' prog w _ _ ?_)
  refine PySem.W.kat_go (fun e1 => ?_) (fun e1 => ?_)
  · have ex : x = x' := by simpa using e1
    rw [if_pos ex]
    refine PySem.W.kat_yes (PySem.W.kat_cons (eqAt_ti hb hb' (by omega) prog w _ _ ?_))
    refine PySem.W.kat_go (fun e2 => ?_) (fun e2 => ?_)
    · rw [if_pos (of_decide_eq_true e2)]
      refine PySem.W.kat_yes (PySem.W.kat_cons (eqAt_ti hcc hcc' (by omega) prog w _ _ ?_))
      refine PySem.W.kat_go (fun e3 => ?_) (fun e3 => ?_)
      · rw [of_decide_eq_true e3, tot_lex.irr]
        exact PySem.W.kat_yes (PySem.W.kat_nil ⟨rfl, rfl⟩)
      · obtain ⟨u1, p1, i1⟩ := hcc
        obtain ⟨u2, p2, i2⟩ := hcc'
        exact PySem.W.kat_no (PySem.W.kat_one _ _ (HT.lt_tupInts p1 p2 i1 i2 (by omega) ⟨rfl, rfl⟩))
    · rw [if_neg (of_decide_eq_false e2)]
      obtain ⟨u1, p1, i1⟩ := hb
      obtain ⟨u2, p2, i2⟩ := hb'
      exact PySem.W.kat_no (PySem.W.kat_one _ _ (HT.lt_tupInts p1 p2 i1 i2 (by omega) ⟨rfl, rfl⟩))
  · have ex : ¬ x = x' := by simpa using e1
    rw [if_neg ex]
    exact PySem.W.kat_no (oneLt_int ⟨rfl, rfl⟩)
theorem rows_sortable {a : Addr} {vs : List Value} {k : Value → Row} (hu : A.units + 2 < cLine) (h0 : 0 < vs.length) (hp : ∀ v ∈ vs, IsRow s.heap v (k v)) (ha : ∀ o, s.heap.get? a = some o → o.cls ≠ .type "tuple") : SrtO.SortableO prog w A s a vs fun v u => ltR (k v) (k u) := by
  intro h' keep
  have hp' : ∀ v ∈ vs, IsRow h' v (k v) := fun v hm => (hp v hm).keeps fun b o e c => keep b o (fun z => by subst z; exact ha o e c) e
  obtain ⟨fs, h1, h2, h3⟩ := firsts_row fun v hm => ⟨_, hp' v hm⟩
  refine ⟨tuples' true, fun Q E hq => ?_, row_cmp (s := { s with heap := h' }) hu hp'⟩
  refine PySem.W.kat_kind (T := .type "int") h1 (by omega) (fun f hm => ?_) (by rfl) ?_
  · obtain ⟨x, t, rfl⟩ := h3 f hm
    exact PySem.W.Looks.now
  · have e : (Value.type "int" != Value.type "tuple") = true := by first | decide +kernel | rfl | decide
    rw [e]
    exact hq
theorem sorted_rows {l : Addr} {vs : List Value} {k : Value → Row} {Q : Value → Shared → Prop} (hu : A.units + 4 < cLine) (hl : s.heap.IsList l vs.toArray) (hz : vs.length ≤ sizeLine) (hp : ∀ v ∈ vs, IsRow s.heap v (k v))
    (h : ∀ (h' : Heap) (d : Addr) (out : List Value), SrtO.Srtd (fun v u => ltR (k v) (k u)) out → SrtO.Stb (fun v u => ltR (k v) (k u)) out vs → (∀ b o, s.heap.get? b = some o → h'.get? b = some o) → s.heap.objs.size ≤ d → (∃ n, h'.get? d = some (seqObj "list" out.toArray n)) → Q (.ref d) { s with heap := h' }) :
    wpAny (model prog w) A (call (.builtin "sorted") [.ref l]) Q E s := by
  refine SrtO.sorted_ord (swo_comp tot_row.swo k) hl hz (fun h2 h₁ a ha kk => ?_) fun out hs hb => ?_
  · refine rows_sortable (s := { s with heap := h₁ }) (by simp only [PyProof.Rows.units_in1]; omega) (by omega) (fun v hm => (hp v hm).keeps fun b o e _ => (kk b o e).2) fun o e => ?_
    have e' : some o = some (seqObj "list" vs.toArray 0) := e.symm.trans ha
    cases e'
    intro c
    exact absurd (Value.type.inj c) (by decide)
  · exact h _ _ out hs hb (fun b o e => sortedAll_old e) (Nat.le_succ _) (sortedAll_at s.heap vs out.toArray)
end
/-! ### as a rule -/
mutual
theorem Dt.det {H : Hp} : ∀ (d e : PyData) (v : V), Dt H v d → Dt H v e → d = e
  | .none, e, _, h, k => by cases h; cases k; rfl
  | .bool b, e, _, h, k => by cases h; cases k; rfl
  | .int i, e, _, h, k => by cases h; cases k; rfl
  | .str x, e, _, h, k => by cases h; cases k; rfl
  | .list ds, e, _, h, k => by cases h
  | .dict es, e, _, h, k => by cases h
  | .tuple ds, e, v, h, k => by
    cases h with
    | tup t r =>
      cases k with
      | tup t' r' => rw [DtA.det ds _ _ r (by rw [t.inj t']; exact r')]
theorem DtA.det {H : Hp} : ∀ (ds es : List PyData) (vs : List V), DtA H vs ds → DtA H vs es → ds = es
  | [], _, _, h, k => by cases h; cases k; rfl
  | d :: ds, _, _, h, k => by
    cases h with
    | cons a b =>
      cases k with
      | cons a' b' => rw [Dt.det d _ _ a a', DtA.det ds _ _ b b']
end
theorem ints_inj : ∀ {ns ms : List Int}, ns.map PyData.int = ms.map PyData.int → ns = ms
  | [], [], _ => rfl
  | [], _ :: _, h => by simp at h
  | _ :: _, [], h => by simp at h
  | n :: ns, m :: ms, h => by
    rw [List.map_cons, List.map_cons] at h
    injection h with h1 h2
    injection h1 with h1
    rw [h1, ints_inj h2]
theorem tRow_inj {r r' : Row} (h : tRow r = tRow r') : r = r' := by
  obtain ⟨x, xs, ys⟩ := r
  obtain ⟨x', xs', ys'⟩ := r'
  injection h with h
  injection h with h1 h
  injection h with h2 h
  injection h with h3 h
  injection h1 with h1
  injection h2 with h2
  injection h3 with h3
  simp only at h1 h2 h3
  rw [h1, ints_inj h2, ints_inj h3]
open Classical in
noncomputable def kOf (H : Hp) (x : V) : Row := if h : ∃ r, Dt H x (tRow r) then choose h else (0, [], [])
theorem kOf_eq {H : Hp} {x : V} {r : Row} (h : Dt H x (tRow r)) : kOf H x = r := by
  have q : ∃ r, Dt H x (tRow r) := ⟨r, h⟩
  unfold kOf
  rw [dif_pos q]
  exact tRow_inj (Dt.det _ _ _ (Classical.choose_spec q) h)
theorem kOf_map {H : Hp} : ∀ {xs : List V} {rs : List Row}, DtA H xs (rs.map tRow) → xs.map (kOf H) = rs
  | _, [], h => by cases h; rfl
  | _, r :: rs, h => by
    rw [List.map_cons] at h
    cases h with
    | cons a b => rw [List.map_cons, kOf_eq a, kOf_map b]
theorem DtA.mem {H : Hp} {xs : List V} {rs : List Row} (h : DtA H xs (rs.map tRow)) {x : V} (hx : x ∈ xs) : Dt H x (tRow (kOf H x)) := by
  obtain ⟨i, hi, e⟩ := List.mem_iff_getElem.mp hx
  obtain ⟨d, e1, e2⟩ := h.of (i := i) (x := x) (by simp [hi, e])
  rw [List.getElem?_map] at e1
  cases e3 : rs[i]? with
  | none => rw [e3] at e1; cases e1
  | some r =>
    rw [e3] at e1
    cases e1
    rw [kOf_eq e2]
    exact e2
theorem dta_kOf {H : Hp} : ∀ {xs : List V}, (∀ x ∈ xs, Dt H x (tRow (kOf H x))) → DtA H xs ((xs.map (kOf H)).map tRow)
  | [], _ => .nil
  | x :: xs, h => .cons (h x List.mem_cons_self) (dta_kOf fun y hy => h y (List.mem_cons_of_mem _ hy))
def rSortedR (K : PySem.W.Frag) : List V → Hp → VK → Prop := fun vs H Q => ∃ (a : Addr) (xs : List V) (rs : List Row), vs = [V.ref a] ∧ SqL K H a xs ∧ DtA H xs (rs.map tRow) ∧
  ∀ (ys : List V) (out : List Row) (p : Addr), out.Perm rs → SrtO.Srtd ltR out → H p = none → DtA (upd H p (.lst ys)) ys (out.map tRow) → Q (.ref p) (upd H p (.lst ys))
section
variable {X : Cx}
theorem isTI_of {pins : List (Addr × Obj)} {σ : L2.St} {H : Hp} {s : Shared} (I : L2.Inv X pins σ H s) {a : Addr} {ns : List Int} (h : Tu H a (ns.map V.int)) : IsTI s.heap a ns := by
  obtain ⟨its, r, p, _⟩ := I.tuple h.q
  exact ⟨its, p, intsAre_of r⟩
theorem cr_sortedR (hu : X.A.units + 4 < cLine) : CallR X (.builtin "sorted") (rSortedR X.K) := by
  intro pins s σ H vs us Q I r h
  obtain ⟨a, xs, rs, rfl, hs, hx, q⟩ := h
  obtain ⟨its, rv, hl, hz⟩ := I.list hs
  obtain ⟨u, rfl, ru⟩ := vals1 r
  obtain rfl : u = Value.ref a := ru
  obtain ⟨e1, e2⟩ := refs_back rv fun x m => by
    obtain ⟨t, _, e, _⟩ := (hx.mem m).t
    exact ⟨t, e⟩
  refine sorted_rows (k := fun u => kOf H (backV u)) hu hl.isList (by rw [← rv.length]; exact hz) (fun v hv => ?_) fun h' d out h1 h2 kp hd hn => ?_
  · obtain ⟨t, rfl⟩ := e2 v hv
    have hm : V.ref t ∈ xs := by rw [e1]; exact List.mem_map.mpr ⟨_, hv, rfl⟩
    have hk := hx.mem hm
    show IsRow s.heap (.ref t) (kOf H (.ref t))
    generalize kOf H (.ref t) = row at hk ⊢
    obtain ⟨t', ws, e, ht, hw⟩ := hk.t
    cases e
    obtain ⟨v1, v2, v3, rfl, w1, w2, w3⟩ := hw.three
    obtain rfl := w1.i
    obtain ⟨b, rfl, hb⟩ := w2.tI_
    obtain ⟨c, rfl, hc⟩ := w3.tI_
    obtain ⟨its2, r2, ⟨o, ho, hcl, n, hdt⟩, _⟩ := I.tuple ht.q
    obtain ⟨u1, u2, u3, rfl, r1, rb, rc⟩ : ∃ u1 u2 u3, its2 = [u1, u2, u3] ∧ RelV (.int row.1) u1 ∧ RelV (.ref b) u2 ∧ RelV (.ref c) u3 := by
      cases r2 with
      | cons a1 r2 => cases r2 with
        | cons a2 r2 => cases r2 with
          | cons a3 r2 => cases r2; exact ⟨_, _, _, rfl, a1, a2, a3⟩
    obtain ⟨t1, rfl⟩ := r1
    cases rb
    cases rc
    exact ⟨t, o, t1, b, c, n, rfl, ho, hcl, hdt, isTI_of I hb, isTI_of I hc⟩
  · have h3 : ∀ u ∈ out, ∃ a, u = Value.ref a := fun u hu => e2 u (h2.perm.mem_iff.mp hu)
    obtain ⟨n, hn⟩ := hn
    have hp1 : (out.map backV).Perm xs := by
      rw [e1]
      exact h2.perm.map backV
    have hf := I.hok.fresh hd
    have hin : ∀ x ∈ out.map backV, Dt H x (tRow (kOf H x)) := fun x hm => hx.mem (hp1.mem_iff.mp hm)
    refine ⟨.ref d, upd H d (.lst (out.map backV)), I.laid (t' := s.toks) kp hd ⟨?_, out, n, vals_back h3, hn⟩, rfl, q _ ((out.map backV).map (kOf H)) d ?_ ?_ hf ?_⟩
    · rw [hp1.length_eq]
      exact hz
    · have := hp1.map (kOf H)
      rw [kOf_map hx] at this
      exact this
    · rw [List.map_map]
      exact SrtO.srtd_map h1
    · exact (dta_kOf hin).k (KpT.new hf)
end
end K60
/-! A dict comprehension whose keys are tuples of ints that stay (dcg_core, pe_dcg follow HandS.DictComp's rule, the new object and the storing left open), its length. -/
namespace K60
open PySem PySem.Spec PyProof.Rows L2
section
variable {X : Cx} {O0 : Addr → HO} {Put : Hp → Addr → V → V → Hp → Prop}
def tDcG (O0 : Addr → HO) (Put : Hp → Addr → V → V → Hp → Prop) (wi : TI) (g : TG) (tt : TT) (tk tv : TE) (vs : List Nat) : TE := fun σ H Q => wi σ H fun J H1 => ∀ D, H1 D = none → ∃ W : Nat → Nat → Hp → Prop, (∃ m, W 0 m (upd H1 D (O0 D))) ∧ ∀ i m H, W i m H →
  (J.stop i H ∧ Q (.ref D) H) ∨ (J.go i H ∧ ∃ Nx : Hp → Prop, (∀ H', Nx H' → ∃ m', m' < m ∧ W (i + 1) m' H') ∧ ∀ x H', J.yld i H x H' → g x (wipe σ vs) H' fun σ2 H2 => wipe σ2 vs = wipe σ vs ∧ tt σ2 H2 fun b H3 =>
    if b = true then tk σ2 H3 fun y H4 => tv σ2 H4 fun z H5 => ∃ H6, Put H5 D y z H6 ∧ Nx H6 else Nx H3)
theorem dcg_core {pins : List (Addr × Obj)} {s : Shared} {σ : L2.St} {H : Hp} {Q : VK} {kx vx tg iter : Expr} {ifs : List Expr} {scope : Scope} {own : List (Str × Nat)} {pos pos' : Pos} {wi : TI} {g : TG} {tt : TT} {tk tv : TE} {use : Option (Value → Sem Unit)} {Qf : Value → Shared → Prop}
    (h0 : ∀ (H : Hp) (h : Heap), sysModules < h.objs.size → ObjOk X.prog X.w H (h.push { cls := .type "dict", data := .dict #[] }) h.objs.size (O0 h.objs.size))
    (hput : ∀ (s0 : Shared) (H0 : Hp) (scope : Scope) (ce : Env) (fp : List Addr) (pins : List (Addr × Obj)) (σ : L2.St) (H : Hp) (s : Shared) (E : Value → Shared → Prop) (D : Addr) (y z : V) (H' : Hp) (u r : Value) (Q : Unit → Shared → Prop),
      L2.Inv (X.blk s0 H0 scope ce fp) pins σ H s → Put H D y z H' → RelV y u → RelV z r → (∀ s', L2.Inv (X.blk s0 H0 scope ce fp) pins σ H' s' → Q () s') → wpAny (model X.prog X.w) X.A (dictSet D u r) Q E s)
    (hc : X.calm = true) (hN : X.N.Nodup) (I : L2.Inv X pins σ H s) (hi : PI X tg iter wi) (ok : BlkOk X.N X.env.scope scope own)
    (hg : ∀ (s : Shared) (H : Hp) (C : Addr) (cl : List (Str × Addr)) (fp : List Addr), PG (X.blk s H scope (compEnvC scope cl C X.env) fp) tg g) (ht : ∀ (s : Shared) (H : Hp) (C : Addr) (cl : List (Str × Addr)) (fp : List Addr), PTs (X.blk s H scope (compEnvC scope cl C X.env) fp) ifs tt)
    (hk : ∀ (s : Shared) (H : Hp) (C : Addr) (cl : List (Str × Addr)) (fp : List Addr), PE (X.blk s H scope (compEnvC scope cl C X.env) fp) kx tk)
    (he : ∀ (s : Shared) (H : Hp) (C : Addr) (cl : List (Str × Addr)) (fp : List Addr), PE (X.blk s H scope (compEnvC scope cl C X.env) fp) vx tv) (hs : ∀ x, foldedSetIterable iter X.env x = pure x)
    (h : tDcG O0 Put wi g tt tk tv (own.map (·.2)) σ H Q)
    (hRR : ∀ D C s' m H', L2.Inv X pins σ H' s' → Q (.ref D) H' → s'.heap.Ns C m → FpOk X pins H' C → compPost (model X.prog X.w) X.A X.xe use Qf (.ref D) C (.ok .next) s') :
    wpAny (model X.prog X.w) X.A (comprehension (.DictComp kx vx [⟨tg, iter, ifs, 0⟩] scope pos) scope X.env pos' newDict false (eval iter X.env) use) Qf X.xe s := by
  have hfree : ∀ y ∈ scope.names, y.2 = .free → ∃ c, X.env.cells.lookup y.1 = some c := fun y hy e => by
    rcases ok.free y hy e with k | k
    · exact I.ok.has _ (.inl k)
    · exact I.ok.has _ (.inr k)
  refine wpAny_comprehension_free (use := use) rfl hs (closure_ok hfree) ok.kind (fun y hy e => by rw [ok.uniq y hy, e])
    (thn (hi.run pins s σ H _ I h) fun xv s1 hx => thn hx fun itv s2 h2 => ?_)
  obtain ⟨it, fp, tn, J, H2, e, I2, T, st2, f2, q⟩ := h2
  subst e
  refine wpAny_newObj_type (newEnv_comp ?_)
  generalize hD : s2.heap.objs.size = D
  have hDn : H2 D = none := I2.hok.fresh (Nat.le_of_eq hD)
  obtain ⟨W, ⟨m0, w0⟩, turn⟩ := q D hDn
  -- the new list
  generalize hs3 : ({ s2 with heap := s2.heap.push { cls := .type "dict", data := .dict #[] } } : Shared) = s3
  have I3 : L2.Inv X pins σ (upd H2 D (O0 D)) s3 := by
    rw [← hs3]
    refine I2.laid (t' := s2.toks) (fun b o e => Heap.get?_push_of_some _ e) (Nat.le_of_eq hD) ?_
    rw [← hD]
    exact h0 _ s2.heap I2.big
  have h3 : s3.heap = s2.heap.push { cls := .type "dict", data := .dict #[] } := by rw [← hs3]
  have sz : ∀ b ∈ fp, b < s2.heap.objs.size := fun b hb => by
    obtain ⟨o, e, _⟩ := T.obj _ _ st2 b hb
    exact Heap.lt_size e
  have f3 : ∀ b ∈ fp, FpOk X pins (upd H2 D (O0 D)) b ∧ b < s3.heap.objs.size := fun b hb => by
    have hlt := sz b hb
    refine ⟨⟨?_, (f2 b hb).2⟩, by rw [h3, Heap.size_push]; exact Nat.lt_succ_of_lt hlt⟩
    rw [upd_ne (by rw [← hD]; exact Nat.ne_of_lt hlt)]
    exact (f2 b hb).1
  have st3 : tn 0 s3.heap := T.keep _ _ _ st2 fun b _ o e => by rw [h3]; exact Heap.get?_push_of_some _ e
  have I4 := block_start I3 ok hN f3
  have pg := hg s3 (upd H2 D (O0 D)) s3.heap.objs.size (cellsFrom (s3.heap.objs.size + 1) scope.names (cloFrom X.env.cells scope.names [])) fp
  have pt := ht s3 (upd H2 D (O0 D)) s3.heap.objs.size (cellsFrom (s3.heap.objs.size + 1) scope.names (cloFrom X.env.cells scope.names [])) fp
  have pk := hk s3 (upd H2 D (O0 D)) s3.heap.objs.size (cellsFrom (s3.heap.objs.size + 1) scope.names (cloFrom X.env.cells scope.names [])) fp
  have pe := he s3 (upd H2 D (O0 D)) s3.heap.objs.size (cellsFrom (s3.heap.objs.size + 1) scope.names (cloFrom X.env.cells scope.names [])) fp
  show codeAny _ _ (.compStart (.DictComp kx vx [⟨tg, iter, ifs, 0⟩] scope pos) 0 (.ref it) (.ref D) (compEnvC scope (cellsFrom (s3.heap.objs.size + 1) scope.names (cloFrom X.env.cells scope.names [])) s3.heap.objs.size X.env)) (compPost (model X.prog X.w) X.A X.xe use Qf (.ref D) s3.heap.objs.size) { s3 with heap := pushCells (s3.heap.push { cls := .type "dict", data := .dict #[] }) scope.names }
  have nfp : ∀ b ∈ fp, (upd H2 D (O0 D)) b = none := fun b hb => (f3 b hb).1.1
  generalize hce : compEnvC scope (cellsFrom (s3.heap.objs.size + 1) scope.names (cloFrom X.env.cells scope.names [])) s3.heap.objs.size X.env = ce at I4 pg pt pk pe ⊢
  have cL : ce.locals = s3.heap.objs.size := by subst hce; rfl
  generalize hH3 : upd H2 D (O0 D) = H3 at I3 I4 pg pt pk pe w0 nfp f3
  generalize hs4 : ({ s3 with heap := pushCells (s3.heap.push { cls := .type "dict", data := .dict #[] }) scope.names } : Shared) = s4 at I4 ⊢
  have st4 : tn 0 s4.heap := T.keep _ _ _ st3 fun b _ o e => by rw [← hs4]; exact pushCells_keeps _ _ _ _ (Heap.get?_push_of_some _ e)
  have stat : ∀ {σ' : L2.St} {H' : Hp} {s' : Shared}, L2.Inv (X.blk s3 H3 scope ce fp) [] σ' H' s' → (∀ b ∈ fp, H' b = none) → ∀ b ∈ fp, FpOk (X.blk s3 H3 scope ce fp) [] H' b := fun {σ' H' s'} I' hn b hb =>
    ⟨hn b hb, (I'.ok.exf b hb).1, I'.ok.exfs b hb, .inl hb, fun x c e => (I'.ok.exf b hb).2 x c e, fun p hp => absurd (show p ∈ ([] : List (Addr × Obj)) ++ [] from hp) (by simp)⟩
  have loop : codeAny (model X.prog X.w) X.A (.compLoop (.DictComp kx vx [⟨tg, iter, ifs, 0⟩] scope pos) 0 (.ref it) (.ref D) ce) (compPost (model X.prog X.w) X.A X.xe use Qf (.ref D) s3.heap.objs.size) s4 := by
    refine compLoop_anyD (fun n s' => ∃ i H', L2.Inv (X.blk s3 H3 scope ce fp) [] (wipe σ (own.map (·.2))) H' s' ∧ tn i s'.heap ∧ (∀ b ∈ fp, H' b = none) ∧ W i n H') ?_ m0 ⟨0, H3, I4, st4, nfp, w0⟩
    rintro n s5 ⟨i, H5, I5, st5, n5, w5⟩
    rcases turn i n H5 w5 with ⟨stop, qq⟩ | ⟨go, Nx, hNx, step⟩
    · have td := T.done (X.blk s3 H3 scope ce fp) rfl rfl rfl hc i [] s5 _ H5 (fun _ _ => False) I5 (stat I5 n5) st5 stop
      refine thnF td fun r s6 ⟨hr, I6⟩ => ?_
      subst hr
      -- back in the def's context
      have I7 : L2.Inv X pins σ H5 s6 := I3.call' (ch := fp) I6.os I6.base I6.hok I6.bare fun b hb => ⟨(f3 b hb).1.2.2.2.1, (f3 b hb).1.2.1, (f3 b hb).1.2.2.2.2.1, (f3 b hb).1.2.2.2.2.2⟩
      have nC : H5 s3.heap.objs.size = none := by
        have z : H5 ce.locals = none := I6.free
        rw [cL] at z
        exact z
      obtain ⟨m, hn, _⟩ := I6.loc
      have hn : s6.heap.Ns ce.locals m := hn
      rw [cL] at hn
      exact hRR D s3.heap.objs.size s6 m H5 I7 qq hn (I3.fpOk (Nat.le_refl _) nC)
    · have ti := T.item (X.blk s3 H3 scope ce fp) rfl rfl rfl hc i [] s5 _ H5 (fun _ _ => False) I5 (stat I5 n5) st5 go
      refine thnF ti fun r s6 ⟨u, hr, h6⟩ => ?_
      subst hr
      refine thnF h6 fun _ s7 ⟨x, H7, I7, r7, y7, st7, n7⟩ => ?_
      have I7' := I7.pinned (stat I7 n7) (T.obj _ _ st7)
      refine thnF (pg.run _ s7 _ H7 x u _ I7' r7 (step x H7 y7)) fun _ s8 ⟨σ8, H8, I8, hw8, q8⟩ => ?_
      refine thnF (pt.run _ s8 σ8 H8 _ I8 q8) fun b s9 ⟨H9, I9, q9⟩ => ?_
      -- the turn's end
      have fin : ∀ {s' : Shared} {H' : Hp}, L2.Inv (X.blk s3 H3 scope ce fp) ([] ++ pinsAt fp s7.heap) σ8 H' s' → Nx H' → ∃ m, m < n ∧ ∃ i H', L2.Inv (X.blk s3 H3 scope ce fp) [] (wipe σ (own.map (·.2))) H' s' ∧ tn i s'.heap ∧ (∀ b ∈ fp, H' b = none) ∧ W i m H' := fun {s' H'} I' nx => by
        obtain ⟨m', hm, w'⟩ := hNx H' nx
        have pin' : ∀ b ∈ fp, ∀ o, s7.heap.get? b = some o → s'.heap.get? b = some o ∧ H' b = none := fun b hb o e =>
          let z := I'.pin (b, o) (List.mem_append_right _ (List.mem_append_right _ (mem_pinsAt hb e)))
          ⟨z.1, z.2.1⟩
        have hl : (wipe σ (own.map (·.2))).length = σ8.length := by rw [← hw8, wipe_length]
        refine ⟨m', hm, i + 1, H', (I'.unpinned (pins := [])).weak hl (fun j v e => ?_), T.keep _ _ _ st7 fun b hb o e => (pin' b hb o e).1, fun b hb => ?_, w'⟩
        · rw [← hw8] at e
          exact (wipe_some e).1
        · obtain ⟨o, e, _⟩ := T.obj _ _ st7 b hb
          exact (pin' b hb o e).2
      cases b with
      | false =>
        simp only [Bool.false_eq_true, if_false] at q9 ⊢
        exact fin I9 q9
      | true =>
        simp only [if_true] at q9 ⊢
        refine thnF (pk.run _ s9 σ8 H9 _ I9 q9) fun z s10 ⟨yk, H10, I10, r10, q10⟩ => ?_
        refine thnF (pe.run _ s10 σ8 H10 _ I10 q10) fun z2 s11 ⟨yv, H11, I11, r11, H12, pu, nx⟩ => ?_
        exact hput s3 H3 scope ce fp _ σ8 H11 s11 _ D yk yv H12 z z2 _ I11 pu r10 r11 fun s12 I12 => fin I12 nx
  exact codeAny_compStart_dict loop (T.self X.A 0 _ _ _ st4 loop)
/-- as a value -/
theorem pe_dcg {kx vx tg iter : Expr} {ifs : List Expr} {scope : Scope} {own : List (Str × Nat)} {pos : Pos} {wi : TI} {g : TG} {tt : TT} {tk tv : TE} (h0 : ∀ (H : Hp) (h : Heap), sysModules < h.objs.size → ObjOk X.prog X.w H (h.push { cls := .type "dict", data := .dict #[] }) h.objs.size (O0 h.objs.size))
    (hput : ∀ (s0 : Shared) (H0 : Hp) (scope : Scope) (ce : Env) (fp : List Addr) (pins : List (Addr × Obj)) (σ : L2.St) (H : Hp) (s : Shared) (E : Value → Shared → Prop) (D : Addr) (y z : V) (H' : Hp) (u r : Value) (Q : Unit → Shared → Prop),
      L2.Inv (X.blk s0 H0 scope ce fp) pins σ H s → Put H D y z H' → RelV y u → RelV z r → (∀ s', L2.Inv (X.blk s0 H0 scope ce fp) pins σ H' s' → Q () s') → wpAny (model X.prog X.w) X.A (dictSet D u r) Q E s)
    (hc : X.calm = true) (hN : X.N.Nodup) (hi : PI X tg iter wi) (ok : BlkOk X.N X.env.scope scope own)
    (hg : ∀ (s : Shared) (H : Hp) (C : Addr) (cl : List (Str × Addr)) (fp : List Addr), PG (X.blk s H scope (compEnvC scope cl C X.env) fp) tg g) (ht : ∀ (s : Shared) (H : Hp) (C : Addr) (cl : List (Str × Addr)) (fp : List Addr), PTs (X.blk s H scope (compEnvC scope cl C X.env) fp) ifs tt)
    (hk : ∀ (s : Shared) (H : Hp) (C : Addr) (cl : List (Str × Addr)) (fp : List Addr), PE (X.blk s H scope (compEnvC scope cl C X.env) fp) kx tk)
    (he : ∀ (s : Shared) (H : Hp) (C : Addr) (cl : List (Str × Addr)) (fp : List Addr), PE (X.blk s H scope (compEnvC scope cl C X.env) fp) vx tv) (hs : ∀ x, foldedSetIterable iter X.env x = pure x := by intro _; rfl) :
    PE X (.DictComp kx vx [⟨tg, iter, ifs, 0⟩] scope pos) (tDcG O0 Put wi g tt tk tv (own.map (·.2))) := by
  refine ⟨fun pins s σ H Q I h => ?_⟩
  rw [arm_eval_DictComp]
  refine dcg_core h0 hput hc hN I hi ok hg ht hk he hs h fun D C s' m H' I' q hn f => ⟨m, hn, fun h'' sb => ?_⟩
  obtain ⟨f0, f1, f2, f3, f4, f5⟩ := f
  exact ⟨.ref D, H', I'.turned (t' := s'.toks) (fun b o hb e => (sb.2 b hb).trans e) f0 f1 f3 f4 f5, rfl, q⟩
end
/-- the dict at D: its keys and where they stand -/
def PhiD (P : Program) (w : World) (D : Addr) (kas : List (List Key × Addr)) (h : Heap) : Prop := (D == sysModules) = false ∧ ∃ xs : List (List Key × Addr × Value), xs.map (fun q => (q.1, q.2.1)) = kas ∧
  ∃ o es ep, h.get? D = some o ∧ o.ExactDict ∧ o.data = .dict es ep ∧ es.toList = xs.map (entryOfKey (tupleKind (mixKind P w))) ∧ (xs.map (·.1)).Nodup
def dO (P : Program) (w : World) (kas : List (List Key × Addr)) (D : Addr) : HO := .ext (PhiD P w D kas)
def PutD (P : Program) (w : World) (H : Hp) (D : Addr) (y z : V) (H' : Hp) : Prop := ∃ kas k b, H D = some (dO P w kas D) ∧ y = .ref b ∧ Tu H b (k.map kV) ∧ (∀ p ∈ kas, Tu H p.2 (p.1.map kV)) ∧ kas.length < sizeLine ∧ k ∉ kas.map (·.1) ∧ H' = upd H D (dO P w (kas ++ [(k, b)]) D)
section
variable {X : Cx} {pins : List (Addr × Obj)} {σ : L2.St} {H : Hp} {s : Shared}
theorem dO_empty {P : Program} {w : World} (H : Hp) (h : Heap) (hb : sysModules < h.objs.size) : ObjOk P w H (h.push { cls := .type "dict", data := .dict #[] }) h.objs.size (dO P w [] h.objs.size) := by
  refine ⟨⟨beq_eq_false_iff_ne.mpr (Ne.symm (Nat.ne_of_lt hb)), [], rfl, _, #[], 0, Heap.get?_push_size _ rfl, ⟨rfl, rfl, rfl⟩, rfl, rfl, List.nodup_nil⟩, ⟨_, Heap.get?_push_size _ rfl⟩, fun h1 h2 p k => ?_⟩
  obtain ⟨z, xs, e, o, es, ep, h3, r⟩ := p
  exact ⟨z, xs, e, o, es, ep, k _ h3, r⟩
theorem tu_key {b : Addr} {ks : List Key} (I : L2.Inv X pins σ H s) (h : Tu H b (ks.map kV)) : (tupleKind (mixKind X.prog X.w)).is s.heap ks b := by
  obtain ⟨its, r, ⟨o, h1, h2, n, h3⟩, _⟩ := I.tuple h.q
  exact ⟨o, its.toArray, n, h1, h2, h3, by simpa using items_are r⟩
theorem dO_of {D : Addr} {kas : List (List Key × Addr)} (I : L2.Inv X pins σ H s) (h : H D = some (dO X.prog X.w kas D)) (hk : ∀ p ∈ kas, Tu H p.2 (p.1.map kV)) :
    (D == sysModules) = false ∧ ∃ xs : List (List Key × Addr × Value), xs.map (fun q => (q.1, q.2.1)) = kas ∧ s.heap.DictOfH (tupleKind (mixKind X.prog X.w)) D xs := by
  obtain ⟨⟨z, xs, e, o, es, ep, h1, h2, h3, h4, h5⟩, _⟩ := (show ObjOk X.prog X.w H s.heap D (.ext (PhiD X.prog X.w D kas)) from I.hok D _ h)
  refine ⟨z, xs, e, o, es, ep, h1, h2, h3, h4, fun x hx => ?_, h5⟩
  exact tu_key I (hk (x.1, x.2.1) (by rw [← e]; exact List.mem_map.mpr ⟨x, hx, rfl⟩))
theorem putD_ok {E : Value → Shared → Prop} {D : Addr} {y z : V} {H' : Hp} {u r : Value} {Q : Unit → Shared → Prop} (hu : X.A.units < cLine) (I : L2.Inv X pins σ H s) (p : PutD X.prog X.w H D y z H') (ry : RelV y u) (rz : RelV z r)
    (q : ∀ s', L2.Inv X pins σ H' s' → Q () s') : wpAny (model X.prog X.w) X.A (dictSet D u r) Q E s := by
  obtain ⟨kas, k, b, hD, rfl, hb, hk, hl, hn, rfl⟩ := p
  cases ry
  obtain ⟨zD, xs, e, dd⟩ := dO_of I hD hk
  have hz : xs.length ≤ sizeLine := by
    have := congrArg List.length e
    rw [List.length_map] at this
    omega
  have hno : atKey xs k = none := by
    unfold atKey
    rw [Option.map_eq_none_iff, List.find?_eq_none]
    intro x hx ex
    refine hn ?_
    rw [← e, List.map_map]
    exact List.mem_map.mpr ⟨x, hx, of_decide_eq_true ex⟩
  refine wpAny_dictSet_heap (knd := tupleKind (mixKind X.prog X.w)) (hsz := hz) (show X.A.units < cLine from hu) (tu_key I hb) dd fun h' dd' hs => q _ ?_
  obtain ⟨o, es, ep, hq, h2, h3, h4, _, h5⟩ := dd'
  rw [storedH_new hno] at h4 h5
  refine I.write (x := D) (e := D) (by rw [hD]; exact True.intro) (.inl rfl) (fun b q hb z => (hs.2 b hb).trans z) ⟨o, hq⟩ ?_
  refine ⟨⟨zD, _, ?_, o, es, ep, hq, h2, h3, h4, h5⟩, ⟨o, hq⟩, fun h1 h2 p k => ?_⟩
  · rw [List.map_append, e]; rfl
  · obtain ⟨z, xs, e, o, es, ep, h3, r⟩ := p
    exact ⟨z, xs, e, o, es, ep, k _ h3, r⟩
def rLenD (P : Program) (w : World) : List V → Hp → VK → Prop := fun xs H Q => ∃ (p : Addr) (kas : List (List Key × Addr)), xs = [.ref p] ∧ H p = some (dO P w kas p) ∧ (∀ p ∈ kas, Tu H p.2 (p.1.map kV)) ∧ kas.length ≤ sizeLine ∧ Q (.int ((kas.length : Nat) : Int)) H
theorem call_len_dO : CallR X (.builtin "len") (rLenD X.prog X.w) := by
  intro pins s σ H xs us Q I r h
  obtain ⟨p, kas, rfl, hp, hk, hz, q⟩ := h
  obtain ⟨u, rfl, rx⟩ := vals1 r
  obtain rfl : u = .ref p := rx
  obtain ⟨zD, xs, e, dd⟩ := dO_of I hp hk
  have hl : xs.length = kas.length := by rw [← e, List.length_map]
  refine call_len_dictH zD dd (by rw [sizeLine_eq] at hz; omega) ?_
  rw [hl]
  exact ⟨.int ((kas.length : Nat) : Int), H, I.tok _, ⟨_, rfl⟩, q⟩
/-- {e: f for ..}, keys tuples of ints that stay, all different -/
theorem pe_dcT {kx vx tg iter : Expr} {ifs : List Expr} {scope : Scope} {own : List (Str × Nat)} {pos : Pos} {wi : TI} {g : TG} {tt : TT} {tk tv : TE} (hu : X.A.units < cLine) (hc : X.calm = true) (hN : X.N.Nodup) (hi : PI X tg iter wi) (ok : BlkOk X.N X.env.scope scope own)
    (hg : ∀ (s : Shared) (H : Hp) (C : Addr) (cl : List (Str × Addr)) (fp : List Addr), PG (X.blk s H scope (compEnvC scope cl C X.env) fp) tg g) (ht : ∀ (s : Shared) (H : Hp) (C : Addr) (cl : List (Str × Addr)) (fp : List Addr), PTs (X.blk s H scope (compEnvC scope cl C X.env) fp) ifs tt)
    (hk : ∀ (s : Shared) (H : Hp) (C : Addr) (cl : List (Str × Addr)) (fp : List Addr), PE (X.blk s H scope (compEnvC scope cl C X.env) fp) kx tk)
    (he : ∀ (s : Shared) (H : Hp) (C : Addr) (cl : List (Str × Addr)) (fp : List Addr), PE (X.blk s H scope (compEnvC scope cl C X.env) fp) vx tv) (hs : ∀ x, foldedSetIterable iter X.env x = pure x := by intro _; rfl) :
    PE X (.DictComp kx vx [⟨tg, iter, ifs, 0⟩] scope pos) (tDcG (dO X.prog X.w []) (PutD X.prog X.w) wi g tt tk tv (own.map (·.2))) :=
  pe_dcg (O0 := dO X.prog X.w []) (fun H h hb => dO_empty H h hb) (fun s0 H0 scope ce fp pins σ H s E D y z H' u r Q I p ry rz q => putD_ok (X := X.blk s0 H0 scope ce fp) hu I p ry rz q) hc hN hi ok hg ht hk he hs
end
end K60
/-! Readings that make nothing but data. -/
namespace K60
open PySem L2
def Ev (t : TE) (σ : L2.St) (H : Hp) (d : PyData) : Prop := ∀ H1 Q, Same H H1 → (∀ v H2, Same H1 H2 → Dt H2 v d → Q v H2) → t σ H1 Q
def EvA (t : TA) (σ : L2.St) (H : Hp) (ds : List PyData) : Prop := ∀ H1 Q, Same H H1 → (∀ vs H2, Same H1 H2 → DtA H2 vs ds → Q vs H2) → t σ H1 Q
def EvT (t : TT) (σ : L2.St) (H : Hp) (b : Bool) : Prop := ∀ H1 Q, Same H H1 → (∀ H2, Same H1 H2 → Q b H2) → t σ H1 Q
def EvL (t : TE) (σ : L2.St) (H : Hp) (ds : List PyData) : Prop := ∀ H1 Q, Same H H1 → (∀ p ys H2, Same H1 H2 → H1 p = none → H2 p = some (.lst ys) → DtA H2 ys ds → Q (.ref p) H2) → t σ H1 Q
def spD (f : List PyData → PyData → Prop) : Sp := fun vs H Q _ => ∃ ds d, f ds d ∧ DtA H vs ds ∧ ∀ v H', Same H H' → Dt H' v d → Q v H'
def Rt (t : TS) (σ : L2.St) (H : Hp) (d : PyData) : Prop := ∀ H1 D, Same H H1 → (∀ v H2, Same H1 H2 → Dt H2 v d → D.rt v H2) → t D σ H1
section
variable {K : PySem.W.Frag} {σ : L2.St} {H : Hp} {t u ta tb : TE}
theorem Ev.eq {d e : PyData} (h : Ev t σ H d) (q : d = e) : Ev t σ H e := q ▸ h
theorem EvA.eq {t : TA} {d e : List PyData} (h : EvA t σ H d) (q : d = e) : EvA t σ H e := q ▸ h
theorem EvL.eq {d e : List PyData} (h : EvL t σ H d) (q : d = e) : EvL t σ H e := q ▸ h
theorem EvT.eq {t : TT} {d e : Bool} (h : EvT t σ H d) (q : d = e) : EvT t σ H e := q ▸ h
theorem Rt.eq {t : TS} {d e : PyData} (h : Rt t σ H d) (q : d = e) : Rt t σ H e := q ▸ h
theorem Ev.s {d : PyData} {H' : Hp} (h : Ev t σ H d) (s : Same H H') : Ev t σ H' d := fun H1 Q s1 q => h H1 Q (s.trans s1) q
theorem EvA.s {t : TA} {d : List PyData} {H' : Hp} (h : EvA t σ H d) (s : Same H H') : EvA t σ H' d := fun H1 Q s1 q => h H1 Q (s.trans s1) q
theorem EvL.s {d : List PyData} {H' : Hp} (h : EvL t σ H d) (s : Same H H') : EvL t σ H' d := fun H1 Q s1 q => h H1 Q (s.trans s1) q
theorem EvT.s {t : TT} {d : Bool} {H' : Hp} (h : EvT t σ H d) (s : Same H H') : EvT t σ H' d := fun H1 Q s1 q => h H1 Q (s.trans s1) q
theorem Rt.s {t : TS} {d : PyData} {H' : Hp} (h : Rt t σ H d) (s : Same H H') : Rt t σ H' d := fun H1 Q s1 q => h H1 Q (s.trans s1) q
/-- used -/
theorem Ev.go {d : PyData} {Q : VK} (h : Ev t σ H d) (q : ∀ v H2, Same H H2 → Dt H2 v d → Q v H2) : t σ H Q := h H Q (Same.refl H) q
theorem EvA.go {t : TA} {d : List PyData} {Q : List V → Hp → Prop} (h : EvA t σ H d) (q : ∀ v H2, Same H H2 → DtA H2 v d → Q v H2) : t σ H Q := h H Q (Same.refl H) q
theorem EvL.go {d : List PyData} {Q : VK} (h : EvL t σ H d) (q : ∀ p ys H2, Same H H2 → H p = none → H2 p = some (.lst ys) → DtA H2 ys d → Q (.ref p) H2) : t σ H Q := h H Q (Same.refl H) q
theorem EvT.go {t : TT} {d : Bool} {Q : Bool → Hp → Prop} (h : EvT t σ H d) (q : ∀ H2, Same H H2 → Q d H2) : t σ H Q := h H Q (Same.refl H) q
theorem ev_var {i : Nat} {v : V} {d : PyData} (h : σ[i]? = some (some v)) (hd : Dt H v d) : Ev (tVar i) σ H d := fun H1 Q s q => ⟨v, h, q v H1 (Same.refl _) (hd.s s)⟩
theorem ev_int {i : Int} : Ev (tC (.int i)) σ H (.int i) := fun H1 Q s q => q _ H1 (Same.refl _) (.int i)
theorem ev_bl {i : Bool} : Ev (tC (.bl i)) σ H (.bool i) := fun H1 Q s q => q _ H1 (Same.refl _) (.bl i)
theorem ev_str {i : Str} : Ev (tC (.str i)) σ H (.str i) := fun H1 Q s q => q _ H1 (Same.refl _) (.str i)
theorem ev_non : Ev (tC .non) σ H .none := fun H1 Q s q => q _ H1 (Same.refl _) .non
/-- two parts -/
theorem ev_op {r : R2} {d e f : PyData} (ha : Ev ta σ H d) (hb : Ev tb σ H e) (hr : ∀ x y H1 Q, Same H H1 → Dt H1 x d → Dt H1 y e → (∀ v H2, Same H1 H2 → Dt H2 v f → Q v H2) → r x y H1 Q) : Ev (tOp r ta tb) σ H f := fun H1 Q s q =>
  ha H1 _ s fun x H2 s2 hx => hb H2 _ (s.trans s2) fun y H3 s3 hy => hr x y H3 Q ((s.trans s2).trans s3) (hx.s s3) hy fun v H4 s4 hv => q v H4 ((s2.trans s3).trans s4) hv
theorem ev_i {g : Int → Int → V} {i j : Int} {d : PyData} (ha : Ev ta σ H (.int i)) (hb : Ev tb σ H (.int j)) (hg : ∀ H, Dt H (g i j) d) : Ev (tOp (rI0 g) ta tb) σ H d :=
  ev_op ha hb fun x y H1 Q s hx hy q => ⟨i, j, hx.i, hy.i, q _ _ (Same.refl _) (hg _)⟩
theorem ev_ic {C : Int → Int → Prop} {g : Int → Int → V} {i j : Int} {d : PyData} (ha : Ev ta σ H (.int i)) (hb : Ev tb σ H (.int j)) (hc : C i j) (hg : ∀ H, Dt H (g i j) d) : Ev (tOp (rI C g) ta tb) σ H d :=
  ev_op ha hb fun x y H1 Q s hx hy q => ⟨i, j, hx.i, hy.i, hc, q _ _ (Same.refl _) (hg _)⟩
theorem ev_ii {g : Int → Int → Int} {i j : Int} (ha : Ev ta σ H (.int i)) (hb : Ev tb σ H (.int j)) : Ev (tOp (rI0 fun i j => .int (g i j)) ta tb) σ H (.int (g i j)) := ev_i ha hb fun _ => .int _
theorem ev_ib {g : Int → Int → Bool} {i j : Int} (ha : Ev ta σ H (.int i)) (hb : Ev tb σ H (.int j)) : Ev (tOp (rI0 fun i j => .bl (g i j)) ta tb) σ H (.bool (g i j)) := ev_i ha hb fun _ => .bl _
theorem ev_eqI {i j : Int} (ha : Ev ta σ H (.int i)) (hb : Ev tb σ H (.int j)) : Ev (tOp rEq ta tb) σ H (.bool (i == j)) :=
  ev_op ha hb fun x y H1 Q s hx hy q => by
    rw [hx.i, hy.i]
    refine ⟨rfl, ?_⟩
    rw [dec_int]
    exact q _ _ (Same.refl _) (.bl _)
theorem ev_neI {i j : Int} (ha : Ev ta σ H (.int i)) (hb : Ev tb σ H (.int j)) : Ev (tOp rNe ta tb) σ H (.bool (i != j)) :=
  ev_op ha hb fun x y H1 Q s hx hy q => by
    rw [hx.i, hy.i]
    refine ⟨rfl, ?_⟩
    rw [dec_int]
    exact q _ _ (Same.refl _) (.bl _)
theorem dec_str {i j : Str} : decide (V.str i = V.str j) = (i == j) := by
  rw [Bool.eq_iff_iff]
  simp
/-- a scalar against a text -/
def isStr (y : Str) : PyData → Bool
  | .str z => z == y
  | _ => false
def isNon : PyData → Bool
  | .none => true
  | _ => false
def flatD : PyData → Bool
  | .none => true | .int _ => true | .bool _ => true | .str _ => true
  | _ => false
theorem eqs_ok {x z : V} {d : PyData} {y : Str} {H1 : Hp} (hx : Dt H1 x d) (hz : Dt H1 z (.str y)) (hd : flatD d = true) : scal x z = true ∧ decide (x = z) = isStr y d := by
  rw [hz.st]
  cases hx with
  | str w => exact ⟨rfl, dec_str⟩
  | non => exact ⟨rfl, rfl⟩
  | bl b => exact ⟨rfl, by simp [isStr]⟩
  | int i => exact ⟨rfl, by simp [isStr]⟩
  | tup _ _ => cases hd
theorem ev_eqS {d : PyData} {y : Str} (ha : Ev ta σ H d) (hb : Ev tb σ H (.str y)) (hd : flatD d = true) : Ev (tOp rEq ta tb) σ H (.bool (isStr y d)) :=
  ev_op ha hb fun x z H1 Q s hx hy q => by
    obtain ⟨e1, e2⟩ := eqs_ok hx hy hd
    refine ⟨e1, ?_⟩
    rw [e2]
    exact q _ _ (Same.refl _) (.bl _)
theorem ev_neS {d : PyData} {y : Str} (ha : Ev ta σ H d) (hb : Ev tb σ H (.str y)) (hd : flatD d = true) : Ev (tOp rNe ta tb) σ H (.bool (!isStr y d)) :=
  ev_op ha hb fun x z H1 Q s hx hy q => by
    obtain ⟨e1, e2⟩ := eqs_ok hx hy hd
    refine ⟨e1, ?_⟩
    rw [e2]
    exact q _ _ (Same.refl _) (.bl _)
theorem ev_eqD {d e : PyData} (ha : Ev ta σ H d) (hb : Ev tb σ H e) (hd : SeqAt.shaped d = true) (he : SeqAt.shaped e = true) : Ev (tOp (rEqD K) ta tb) σ H (.bool (PyData.eqv d e)) :=
  ev_op ha hb fun x y H1 Q s hx hy q => ⟨d, e, hx.p, hy.p, hd, he, q _ _ (Same.refl _) (.bl _)⟩
theorem ev_neD {d e : PyData} (ha : Ev ta σ H d) (hb : Ev tb σ H e) (hd : SeqAt.shaped d = true) (he : SeqAt.shaped e = true) : Ev (tOp (rNeD K) ta tb) σ H (.bool (!PyData.eqv d e)) :=
  ev_op ha hb fun x y H1 Q s hx hy q => ⟨d, e, hx.p, hy.p, hd, he, q _ _ (Same.refl _) (.bl _)⟩
theorem ev_and {a b : Bool} (ha : Ev ta σ H (.bool a)) (hb : a = true → Ev tb σ H (.bool b)) : Ev (tAndV ta tb) σ H (.bool (a && b)) := fun H1 Q s q =>
  ha H1 _ s fun x H2 s2 hx => ⟨a, hx.b, ite2 (fun e => by subst e; exact hb rfl H2 Q (s.trans s2) fun v H3 s3 hv => q v H3 (s2.trans s3) hv) fun e => by
    cases a with
    | true => exact absurd rfl e
    | false => exact q _ H2 s2 (.bl false)⟩
theorem ev_or {a b : Bool} (ha : Ev ta σ H (.bool a)) (hb : a = false → Ev tb σ H (.bool b)) : Ev (tOrV ta tb) σ H (.bool (a || b)) := fun H1 Q s q =>
  ha H1 _ s fun x H2 s2 hx => ⟨a, hx.b, ite2 (fun e => by subst e; exact q _ H2 s2 (.bl true)) fun e => by
    cases a with
    | true => exact absurd rfl e
    | false => exact hb rfl H2 Q (s.trans s2) fun v H3 s3 hv => q v H3 (s2.trans s3) hv⟩
theorem ev_not {a : Bool} (ha : Ev ta σ H (.bool a)) : Ev (tNotV ta) σ H (.bool (!a)) := fun H1 Q s q =>
  ha H1 _ s fun x H2 s2 hx => ⟨a, hx.b, q _ H2 s2 (.bl _)⟩
theorem ev_chain {g g' : Int → Int → Bool} {i j k : Int} {tc : TE} (ha : Ev ta σ H (.int i)) (hb : Ev tb σ H (.int j)) (hc : Ev tc σ H (.int k)) : Ev (tChain (rI0 fun i j => .bl (g i j)) (rI0 fun i j => .bl (g' i j)) ta tb tc) σ H (.bool (g i j && g' j k)) := fun H1 Q s q =>
  ha H1 _ s fun x H2 s2 hx => hb H2 _ (s.trans s2) fun y H3 s3 hy => ⟨i, j, hx.i, hy.i, _, rfl, by
    cases e : g i j with
    | true =>
      refine iteT (hc H3 _ ((s.trans s2).trans s3) fun z H4 s4 hz => ⟨j, k, hy.i, hz.i, ?_⟩)
      rw [e, Bool.true_and] at q
      exact q _ H4 ((s2.trans s3).trans s4) (.bl _)
    | false =>
      rw [e, Bool.false_and] at q
      exact iteF (q _ H3 (s2.trans s3) (.bl _))⟩
theorem ev_if {c : TT} {b : Bool} {d : PyData} (hc : EvT c σ H b) (h1 : b = true → Ev ta σ H d) (h2 : b = false → Ev tb σ H d) : Ev (tIf c ta tb) σ H d := fun H1 Q s q =>
  hc H1 _ s fun H2 s2 => by
    cases b with
    | true => exact iteT (h1 rfl H2 Q (s.trans s2) fun v H3 s3 hv => q v H3 (s2.trans s3) hv)
    | false => exact iteF (h2 rfl H2 Q (s.trans s2) fun v H3 s3 hv => q v H3 (s2.trans s3) hv)
theorem isn_ok {x : V} {d : PyData} {H1 : Hp} (hx : Dt H1 x d) : decide (x = .non) = isNon d := by
  cases hx <;> simp [isNon]
theorem ev_isN {d : PyData} (ha : Ev ta σ H d) : Ev (tIsN ta) σ H (.bool (isNon d)) := fun H1 Q s q =>
  ha H1 _ s fun x H2 s2 hx => by
    show Q (.bl (decide (x = .non))) H2
    rw [isn_ok hx]
    exact q _ H2 s2 (.bl _)
theorem ev_notN {d : PyData} (ha : Ev ta σ H d) : Ev (tNotN ta) σ H (.bool (!isNon d)) := fun H1 Q s q =>
  ha H1 _ s fun x H2 s2 hx => by
    show Q (.bl (!decide (x = .non))) H2
    rw [isn_ok hx]
    exact q _ H2 s2 (.bl _)
/-! tests -/
theorem evt_b {b : Bool} (h : Ev t σ H (.bool b)) : EvT (tB t) σ H b := fun H1 Q s q => h H1 _ s fun x H2 s2 hx => ⟨b, hx.b, q H2 s2⟩
theorem evt_t {b : Bool} (h : Ev t σ H (.bool b)) : EvT (tTest t) σ H b := fun H1 Q s q => h H1 _ s fun x H2 s2 hx => ⟨b, hx.b, q H2 s2⟩
theorem evt_not {c : TT} {b : Bool} (h : EvT c σ H b) : EvT (tNot c) σ H (!b) := fun H1 Q s q => h H1 _ s fun H2 s2 => q H2 s2
theorem evt_and {c e : TT} {a b : Bool} (ha : EvT c σ H a) (hb : a = true → EvT e σ H b) : EvT (tAnd c e) σ H (a && b) := fun H1 Q s q =>
  ha H1 _ s fun H2 s2 => by
    cases a with
    | true => exact iteT (hb rfl H2 Q (s.trans s2) fun H3 s3 => q H3 (s2.trans s3))
    | false => exact iteF (q H2 s2)
theorem evt_or {c e : TT} {a b : Bool} (ha : EvT c σ H a) (hb : a = false → EvT e σ H b) : EvT (tOr c e) σ H (a || b) := fun H1 Q s q =>
  ha H1 _ s fun H2 s2 => by
    cases a with
    | true => exact iteT (q H2 s2)
    | false => exact iteF (hb rfl H2 Q (s.trans s2) fun H3 s3 => q H3 (s2.trans s3))
theorem evt_yes : EvT tYes σ H true := fun H1 Q s q => q H1 (Same.refl _)
/-! arguments, calls -/
theorem eva_nil : EvA tNil σ H [] := fun H1 Q s q => q [] H1 (Same.refl _) .nil
theorem eva_cons {tr : TA} {d : PyData} {ds : List PyData} (ha : Ev ta σ H d) (hr : EvA tr σ H ds) : EvA (tCons ta tr) σ H (d :: ds) := fun H1 Q s q =>
  ha H1 _ s fun x H2 s2 hx => hr H2 _ (s.trans s2) fun xs H3 s3 hxs => q _ H3 (s2.trans s3) (.cons (hx.s s3) hxs)
theorem ev_call {f : List PyData → PyData → Prop} {t : TA} {ds : List PyData} {d : PyData} (ha : EvA t σ H ds) (hf : f ds d) : Ev (tCall (spD f) [] E0 t) σ H d := fun H1 Q s q =>
  ha H1 _ s fun vs H2 s2 hv => by
    rw [List.append_nil]
    exact ⟨ds, d, hf, hv, fun v H3 s3 hd => q v H3 (s2.trans s3) hd⟩
theorem ev_isi {n : String} {b : Bool} {d : PyData} (ha : Ev ta σ H d) (hn : ∀ H v, Dt H v d → IsTy K H v n b) : Ev (tCB (rIsiN K n) (tCons ta (tCons (tC (.ty n)) tNil))) σ H (.bool b) := fun H1 Q s q =>
  ha H1 _ s fun x H2 s2 hx => ⟨x, b, rfl, hn _ _ hx, q _ H2 s2 (.bl _)⟩
theorem ev_isInt {d : PyData} (ha : Ev ta σ H d) : Ev (tCB (rIsiN K "int") (tCons ta (tCons (tC (.ty "int")) tNil))) σ H (.bool (isI d)) := ev_isi ha fun _ _ h => h.isI
theorem ev_isBool {d : PyData} (ha : Ev ta σ H d) : Ev (tCB (rIsiN K "bool") (tCons ta (tCons (tC (.ty "bool")) tNil))) σ H (.bool (isB d)) := ev_isi ha fun _ _ h => h.isB
theorem ev_isTup {d : PyData} (ha : Ev ta σ H d) : Ev (tCB (rIsiN K "tuple") (tCons ta (tCons (tC (.ty "tuple")) tNil))) σ H (.bool (isT d)) := ev_isi ha fun _ _ h => h.isT
theorem ev_isStr {d : PyData} (ha : Ev ta σ H d) : Ev (tCB (rIsiN K "str") (tCons ta (tCons (tC (.ty "str")) tNil))) σ H (.bool (isS d)) := ev_isi ha fun _ _ h => h.isS
theorem ev_len {ds : List PyData} (ha : Ev ta σ H (.tuple ds)) : Ev (tCB (fun xs H Q => ∃ p ys, xs = [.ref p] ∧ (SqL K H p ys ∨ SqT K H p ys) ∧ Q (.int ys.length) H) (tCons ta tNil)) σ H (.int ds.length) := fun H1 Q s q =>
  ha H1 _ s fun x H2 s2 hx => by
    obtain ⟨a, xs, rfl, hxs, hd⟩ := hx.t
    refine ⟨a, xs, rfl, .inr hxs.q, ?_⟩
    rw [hd.len]
    exact q _ H2 s2 (.int _)
theorem ev_lenL {ds : List PyData} (ha : EvL ta σ H ds) : Ev (tCB (fun xs H Q => ∃ p ys, xs = [.ref p] ∧ (SqL K H p ys ∨ SqT K H p ys) ∧ Q (.int ys.length) H) (tCons ta tNil)) σ H (.int ds.length) := fun H1 Q s q =>
  ha H1 _ s fun p ys H2 s2 _ hp hd => by
    refine ⟨p, ys, rfl, .inl (SqL.of hp), ?_⟩
    rw [hd.len]
    exact q _ H2 s2 (.int _)
theorem ev_sumT {ns : List Int} (ha : Ev ta σ H (tI ns)) : Ev (tCB rSumT (tCons ta tNil)) σ H (.int ns.sum) := fun H1 Q s q =>
  ha H1 _ s fun x H2 s2 hx => by
    obtain ⟨a, rfl, h⟩ := hx.tI_
    exact ⟨a, ns, rfl, h, q _ H2 s2 (.int _)⟩
theorem ev_sumL {ns : List Int} (ha : EvL ta σ H (ns.map PyData.int)) : Ev (tCB (rSum K) (tCons ta tNil)) σ H (.int ns.sum) := fun H1 Q s q =>
  ha H1 _ s fun p ys H2 s2 _ hp hd => by
    rw [hd.ints] at hp
    exact ⟨p, ns, rfl, SqL.of hp, q _ H2 s2 (.int _)⟩
theorem ev_all {bs : List Bool} (ha : EvL ta σ H (bs.map PyData.bool)) : Ev (tCB (rAll K) (tCons ta tNil)) σ H (.bool (bs.all id)) := fun H1 Q s q =>
  ha H1 _ s fun p ys H2 s2 _ hp hd => by
    rw [hd.bls] at hp
    exact ⟨p, bs, rfl, SqL.of hp, q _ H2 s2 (.bl _)⟩
theorem ev_tupL {ds : List PyData} (ha : EvL ta σ H ds) : Ev (tCB (rTupF K) (tCons ta tNil)) σ H (.tuple ds) := fun H1 Q s q =>
  ha H1 _ s fun p ys H2 s2 _ hp hd => ⟨p, ys, rfl, SqL.of hp, fun r H3 s3 hr => q _ H3 (s2.trans s3) (.tup hr (hd.s s3))⟩
theorem ev_tup {t : TA} {ds : List PyData} (ha : EvA t σ H ds) (hz : ds.length ≤ sizeLine) : Ev (tTupF t) σ H (.tuple ds) := fun H1 Q s q =>
  ha H1 _ s fun xs H2 s2 hd => ⟨by rw [hd.len]; exact hz, fun r H3 s3 hr => q _ H3 (s2.trans s3) (.tup hr (hd.s s3))⟩
theorem ev_cat {ds es : List PyData} (ha : Ev ta σ H (.tuple ds)) (hb : Ev tb σ H (.tuple es)) (hz : ds.length + es.length ≤ sizeLine) : Ev (tOp rCatF ta tb) σ H (.tuple (ds ++ es)) :=
  ev_op ha hb fun x y H1 Q s hx hy q => by
    obtain ⟨a, xs, rfl, hxs, hd⟩ := hx.t
    obtain ⟨b, ys, rfl, hys, he⟩ := hy.t
    exact ⟨a, b, xs, ys, rfl, rfl, hxs, hys, by rw [hd.len, he.len]; exact hz, fun r H3 s3 hr => q _ H3 s3 (.tup hr ((hd.s s3).app (he.s s3)))⟩
theorem ev_ix {ds : List PyData} {n : Nat} {d : PyData} (ha : Ev ta σ H (.tuple ds)) (hb : Ev tb σ H (.int n)) (hd : ds[n]? = some d) : Ev (tOp (rIxT K) ta tb) σ H d :=
  ev_op ha hb fun x y H1 Q s hx hy q => by
    obtain ⟨a, xs, rfl, hxs, he⟩ := hx.t
    obtain ⟨v, hv, hdv⟩ := he.at hd
    exact ⟨a, xs, _, v, rfl, hy.i, hxs.q, atI_nat hv, q _ _ (Same.refl _) hdv⟩
theorem ev_ixI {ns : List Int} {i : Int} (ha : Ev ta σ H (tI ns)) (hb : Ev tb σ H (.int i)) (h0 : 0 ≤ i) (h1 : i < ns.length) : Ev (tOp (rIxT K) ta tb) σ H (.int (ns.getD i.toNat 0)) := by
  refine ev_ix (n := i.toNat) ha (hb.eq (by rw [Int.toNat_of_nonneg h0])) ?_
  have h : i.toNat < ns.length := by omega
  simp [h]
def cutD (xs : List PyData) (lo hi : Option Int) : List PyData := (xs.drop (HT.sIx xs.length 0 lo)).take (HT.sIx xs.length xs.length hi - HT.sIx xs.length 0 lo)
theorem DtA.cut {vs : List V} {ds : List PyData} (h : DtA H vs ds) (lo hi : Option Int) : DtA H (cutV vs lo hi) (cutD ds lo hi) := by
  unfold cutV cutD
  rw [h.len]
  exact (h.drop _).take _
def EvO (t : TO) (σ : L2.St) (H : Hp) (o : Option Int) : Prop := ∀ H1 Q, Same H H1 → (∀ H2, Same H1 H2 → Q o H2) → t σ H1 Q
theorem evo_none : EvO tNoPart σ H none := fun H1 Q s q => q H1 (Same.refl _)
theorem evo_some {i : Int} (h : Ev t σ H (.int i)) : EvO (tPart t) σ H (some i) := fun H1 Q s q => h H1 _ s fun x H2 s2 hx => ⟨i, hx.i, q H2 s2⟩
theorem ev_sl {ds : List PyData} {lo hi : Option Int} {tl th : TO} (ha : Ev ta σ H (.tuple ds)) (hl : EvO tl σ H lo) (hh : EvO th σ H hi) : Ev (tSl rSlF ta tl th) σ H (.tuple (cutD ds lo hi)) := fun H1 Q s q =>
  ha H1 _ s fun x H2 s2 hx => hl H2 _ (s.trans s2) fun H3 s3 => hh H3 _ ((s.trans s2).trans s3) fun H4 s4 => by
    obtain ⟨a, xs, rfl, hxs, hd⟩ := hx.t
    exact ⟨a, xs, rfl, (hxs.s s3).s s4, fun r H5 s5 hr => q _ H5 (((s2.trans s3).trans s4).trans s5) (.tup hr ((((hd.s s3).s s4).s s5).cut lo hi))⟩
theorem DtA.rev {vs : List V} {ds : List PyData} (h : DtA H vs ds) : DtA H vs.reverse ds.reverse := by
  have : ∀ (ds : List PyData) (vs : List V), DtA H vs ds → DtA H vs.reverse ds.reverse := by
    intro ds
    induction ds with
    | nil => intro vs h; cases h; exact .nil
    | cons d ds ih =>
      intro vs h
      cases h with
      | cons a b =>
        rw [List.reverse_cons, List.reverse_cons]
        exact (ih _ b).app (.cons a .nil)
  exact this ds vs h
theorem ev_rev {ds : List PyData} (ha : Ev ta σ H (.tuple ds)) : Ev (tRevT ta) σ H (.tuple ds.reverse) := fun H1 Q s q =>
  ha H1 _ s fun x H2 s2 hx => by
    obtain ⟨a, xs, rfl, hxs, hd⟩ := hx.t
    exact ⟨a, xs, rfl, hxs, fun r H5 s5 hr => q _ H5 (s2.trans s5) (.tup hr (hd.s s5).rev)⟩
theorem ev_cnt {ns : List Int} {k : Int} (ha : Ev ta σ H (tI ns)) (hb : Ev tb σ H (.int k)) : Ev (tCntT ta (tCons tb tNil)) σ H (.int (ns.count k : Nat)) := fun H1 Q s q =>
  ha H1 _ s fun x H2 s2 hx => by
    obtain ⟨a, rfl, h⟩ := hx.tI_
    exact ⟨a, ns, rfl, h, hb H2 _ (s.trans s2) fun y H3 s3 hy => ⟨k, by rw [hy.i], h.s s3, q _ H3 (s2.trans s3) (.int _)⟩⟩
theorem inV_ints (i : Int) : ∀ ns : List Int, inV (.int i) (ns.map V.int) = ns.contains i
  | [] => rfl
  | n :: ns => by
    show ((n == i) || inV (.int i) (ns.map V.int)) = _
    rw [inV_ints i ns, List.contains_cons]
    rw [Bool.beq_comm (a := n)]
theorem flat_ints : ∀ ns : List Int, (ns.map V.int).all flatV = true
  | [] => rfl
  | n :: ns => by
    show (flatV (.int n) && (ns.map V.int).all flatV) = true
    rw [flat_ints ns]; rfl
theorem ev_in {ns : List Int} {i : Int} (ha : Ev ta σ H (.int i)) (hb : Ev tb σ H (tI ns)) : Ev (tOp (rIn K false) ta tb) σ H (.bool (ns.contains i)) :=
  ev_op ha hb fun x y H1 Q s hx hy q => by
    obtain ⟨a, rfl, h⟩ := hy.tI_
    rw [hx.i]
    refine ⟨a, _, rfl, .inr h.q, rfl, flat_ints ns, ?_⟩
    rw [if_neg Bool.false_ne_true, inV_ints]
    exact q _ _ (Same.refl _) (.bl _)
theorem ev_rgT {te : L2.St → Hp → (Int → Int → Hp → Prop) → Prop} {n : Nat} (h : ∀ H1 Q, Same H H1 → (∀ H2, Same H1 H2 → Q 0 n H2) → te σ H1 Q) (hz : RgOk 0 n) : Ev (tTupRgF te) σ H (tI ((List.range n).map fun (j : Nat) => (j : Int))) := fun H1 Q s q =>
  h H1 _ s fun H2 s2 => ⟨hz, fun r H3 s3 hr => q _ H3 (s2.trans s3) (.ofI (by
    have e : rgV 0 n = (((List.range n).map fun (j : Nat) => (j : Int))).map V.int := by
      unfold rgV
      simp
    rw [← e]; exact hr))⟩
/-! comprehensions -/
theorem fm_at {α β : Type} (F : α → Option β) : ∀ (ds : List α), (List.range ds.length).filterMap (fun i => (ds[i]?).bind F) = ds.filterMap F
  | [] => rfl
  | d :: ds => by
    rw [List.length_cons, List.range_succ_eq_map, List.filterMap_cons, List.filterMap_map]
    have e : (fun i => ((d :: ds)[i]?).bind F) ∘ Nat.succ = fun i => (ds[i]?).bind F := by
      funext i
      simp
    rw [e, fm_at F ds]
    show (match F d with | none => _ | some b => _) = _
    rw [List.filterMap_cons]
    rfl
theorem evl_tup {tl te : TE} {tt : TT} {j : Nat} {vs : List Nat} {ds : List PyData} (F : PyData → Option PyData) (hl : Ev tl σ H (.tuple ds)) (hz : ds.length ≤ sizeLine) (hw : ∀ x, wipe ((wipe σ vs).set j (some x)) vs = wipe σ vs)
    (hs : ∀ (d : PyData) (x : V) (H' : Hp), d ∈ ds → Same H H' → Dt H' x d → ∃ b, EvT tt ((wipe σ vs).set j (some x)) H' b ∧ (b = true → ∃ e, F d = some e ∧ Ev te ((wipe σ vs).set j (some x)) H' e) ∧ (b = false → F d = none)) : EvL (tLc (iTup K tl) (gName j) tt te vs) σ H (ds.filterMap F) := fun H1 Q s q =>
  hl H1 _ s fun x H2 s2 hx => by
    obtain ⟨a, xs, rfl, hxs, hd⟩ := hx.t
    refine ⟨a, rfl, ⟨xs, hxs.q⟩, fun D hD => ?_⟩
    refine lc_dt (n := ds.length) (G := fun H => SqT K H a xs) (Y := YAt xs) (by rw [← hd.len]; exact walk_tup) (fun i => (ds[i]?).bind F) hD hz (fun H' s' => (hxs.s s').q) (fun i H' y H'' _ _ hy => by rw [hy.1]; exact Same.refl _) (fun i y H' H'' Nx Kp hi s' s'' hy kp nx => ?_) fun H' ys s' hD' r => ?_
    · obtain ⟨rfl, hy⟩ := hy
      obtain ⟨d, e1, e2⟩ := (hd.s s').of hy
      obtain ⟨b, h1, h2, h3⟩ := hs d y H'' (List.mem_of_getElem? e1) ((s.trans s2).trans s') e2
      refine ⟨hw y, h1.go fun H3 s3 => ?_⟩
      cases b with
      | true =>
        obtain ⟨e, f1, f2⟩ := h2 rfl
        exact iteT ((f2.s s3).go fun v H4 s4 hv => kp v e H4 (s3.trans s4) (by rw [e1]; exact f1) hv)
      | false => exact iteF (nx H3 s3 (by rw [e1]; exact h3 rfl))
    · rw [fm_at] at r
      exact q D ys H' (s2.trans s') (by
        cases e : H1 D with
        | none => rfl
        | some u =>
          have := s2 _ _ e
          rw [hD] at this
          cases this) hD' r
theorem evl_rng {ta : TA} {te : TE} {tt : TT} {j : Nat} {vs : List Nat} {n : Nat} {m : Int} (F : Nat → Option PyData) (hl : EvA ta σ H [.int m]) (hm : m.toNat = n) (hz : -100000 ≤ m ∧ m ≤ 100000) (hw : ∀ x, wipe ((wipe σ vs).set j (some x)) vs = wipe σ vs)
    (hs : ∀ (i : Nat) (H' : Hp), i < n → Same H H' → ∃ b, EvT tt ((wipe σ vs).set j (some (.int i))) H' b ∧ (b = true → ∃ e, F i = some e ∧ Ev te ((wipe σ vs).set j (some (.int i))) H' e) ∧ (b = false → F i = none)) : EvL (tLc (iRng1 ta) (gName j) tt te vs) σ H ((List.range n).filterMap F) := fun H1 Q s q =>
  hl H1 _ s fun xs H2 s2 hx => by
    obtain ⟨x, rfl, hy⟩ := hx.one
    refine ⟨m, by rw [hy.i], by omega, by omega, fun D hD => ?_⟩
    rw [hm]
    refine lc_dt (n := n) walk_range F hD (by rw [sizeLine_eq]; omega) (fun _ _ => trivial) (fun i H' y H'' _ _ hy => by rw [hy.1]; exact Same.refl _) (fun i y H' H'' Nx Kp hi s' s'' hy kp nx => ?_) fun H' ys s' hD' r => ?_
    · obtain ⟨rfl, rfl⟩ := hy
      show gName j (.int (0 + (i : Int))) (wipe σ vs) H'' _
      rw [Int.zero_add]
      obtain ⟨b, h1, h2, h3⟩ := hs i H'' hi ((s.trans s2).trans s')
      refine ⟨hw _, h1.go fun H3 s3 => ?_⟩
      cases b with
      | true =>
        obtain ⟨e, f1, f2⟩ := h2 rfl
        exact iteT ((f2.s s3).go fun v H4 s4 hv => kp v e H4 (s3.trans s4) f1 hv)
      | false => exact iteF (nx H3 s3 (h3 rfl))
    · exact q D ys H' (s2.trans s') (by
        cases e : H1 D with
        | none => rfl
        | some u =>
          have := s2 _ _ e
          rw [hD] at this
          cases this) hD' r
/-! statements -/
theorem rt_ret {d : PyData} (h : Ev t σ H d) : Rt (tRet t) σ H d := fun H1 D s q => h H1 _ s q
theorem rt_retN : Rt tRetN σ H .none := fun H1 D s q => q _ H1 (Same.refl _) .non
theorem rt_if {c : TT} {b : Bool} {t u : TS} {d : PyData} (hc : EvT c σ H b) (h1 : b = true → Rt t σ H d) (h2 : b = false → Rt u σ H d) : Rt (tIfS c t u) σ H d := fun H1 D s q =>
  hc H1 _ s fun H2 s2 => by
    cases b with
    | true => exact iteT (h1 rfl H2 D (s.trans s2) fun v H3 s3 hv => q v H3 (s2.trans s3) hv)
    | false => exact iteF (h2 rfl H2 D (s.trans s2) fun v H3 s3 hv => q v H3 (s2.trans s3) hv)
/-- if c: return ..; rest -/
theorem rt_sif {c : TT} {b : Bool} {t u : TS} {d : PyData} (hc : EvT c σ H b) (h1 : b = true → Rt t σ H d) (h2 : b = false → Rt u σ H d) : Rt (tSeq (tIfS c t tNext) u) σ H d := fun H1 D s q =>
  hc H1 _ s fun H2 s2 => by
    cases b with
    | true => exact iteT (h1 rfl H2 _ (s.trans s2) fun v H3 s3 hv => q v H3 (s2.trans s3) hv)
    | false => exact iteF (h2 rfl H2 D (s.trans s2) fun v H3 s3 hv => q v H3 (s2.trans s3) hv)
theorem rt_set {i : Nat} {u : TS} {d e : PyData} (h : Ev t σ H e) (k : ∀ v H', Same H H' → Dt H' v e → Rt u (σ.set i (some v)) H' d) : Rt (tSeq (tAsg t (gName i)) u) σ H d := fun H1 D s q =>
  h H1 _ s fun v H2 s2 hv => k v H2 (s.trans s2) hv H2 D (Same.refl _) fun w H3 s3 hw => q w H3 (s2.trans s3) hw
theorem rt_expr {u : TS} {d e : PyData} {te : TE} (h : Ev te σ H e) (k : Rt u σ H d) : Rt (tSeq (fun D σ H => te σ H fun _ H1 => D.nx σ H1) u) σ H d := fun H1 D s q =>
  h H1 _ s fun v H2 s2 hv => k H2 D (s.trans s2) fun w H3 s3 hw => q w H3 (s2.trans s3) hw
end
/-- a def whose promise is told by f -/
theorem ok_d {P : Program} {w : World} {K : PySem.W.Frag} {mg : Str → Option Value} {base : Heap} {x qual : Str} {st : Stmt} {f : Addr} {fd : FuncData} {N ps : List Str} {k : Nat} {g : List PyData → PyData → Prop} (F : Fun K x qual st f fd) (S : FnScope N ps (defScope st)) (len : ∀ ds d, g ds d → ds.length = ps.length)
    (hb : ∀ (cdv : Value) (A : Around) (outer : List Env) (s : Shared) (H0 : Hp) (E : XK), Room k (A.deeper (PyProof.Rows.envOfC qual (defScope st) s.heap.objs.size f cdv)) →
      ∃ t, PSs (cxOf CX0 P w K mg base N qual (defScope st) f cdv A outer s H0 E).nox (defBody st) t ∧ ∀ ds d vs H, g ds d → DtA H vs ds → Rt t (start N vs) H d) : FnOk P w K mg base CX0 (k + 1) f fd ps (spD g) := by
  refine F.ok S (fun vs H Q E h => ?_) fun cdv A outer s H vs Q E hr h => ?_
  · obtain ⟨ds, d, hg, hd, _⟩ := h
    rw [hd.len]
    exact len ds d hg
  · obtain ⟨ds, d, hg, hd, q⟩ := h
    obtain ⟨t, hp, ht⟩ := hb cdv A outer s H E hr
    exact ⟨t, hp, ht ds d vs H hg hd H _ (Same.refl _) q⟩
end K60
/-! ### rules whose reading names K outright (a block's context would hide it) -/
namespace K60
open PySem L2
section
variable {X : Cx} {K : PySem.W.Frag} {e l : Expr} {te tl : TE} {ta : TA} {p pos tpos : Pos}
theorem ixk_tup (h : X.K = K) : IxR X (rIxT K) := h ▸ ix_tup
theorem ixk_list (h : X.K = K) : IxR X (rIxL K) := h ▸ ix_list
theorem opk_in (h : X.K = K) : OpR X (compareOp .In) (rIn K false) := h ▸ op_in_seq
theorem opk_eqD (h : X.K = K) (hu : X.A.units + 64 < cLine) : OpR X (compareOp .Eq) (rEqD K) := h ▸ op_eqD hu
theorem opk_neD (h : X.K = K) (hu : X.A.units + 64 < cLine) : OpR X (compareOp .NotEq) (rNeD K) := h ▸ op_neD hu
theorem call_lenk (h : X.K = K) : CallR X (.builtin "len") (fun xs H Q => ∃ p ys, xs = [.ref p] ∧ (SqL K H p ys ∨ SqT K H p ys) ∧ Q (.int ys.length) H) := h ▸ call_len_seq
theorem crk_all (h : X.K = K) (hc : X.calm = true) : CallR X (.builtin "all") (rAll K) := h ▸ cr_all hc
theorem crk_sum (h : X.K = K) (hc : X.calm = true) : CallR X (.builtin "sum") (rSum K) := h ▸ cr_sum hc
theorem callk_tupF (h : X.K = K) : CallR X (.type "tuple") (rTupF K) := h ▸ call_tupF
theorem callk_isi (h : X.K = K) {n : String} : CallR X (.builtin "isinstance") (rIsiN K n) := h ▸ call_isiN
theorem pik_tup {tg : Expr} (h : X.K = K) (hl : PE X l tl) : PI X tg l (iTup K tl) := h ▸ pi_tup hl
theorem pik_list {tg : Expr} (h : X.K = K) (hl : PE X l tl) : PI X tg l (iList K tl) := h ▸ pi_list hl
theorem pik_enumT {elts : List Expr} {kk : Nat} (h : X.K = K) (hm : X.mg "enumerate" = none) (ha : PA X [e] ta) (hg : Gl X "enumerate" := by rfl) (hs : starEach [e] X.env = [(false, eval e X.env)] := by rfl) :
    PI X (.Tuple elts kk tpos) (.Call (.Name "enumerate" p) [e] [] pos) (iEnumT K ta) := h ▸ pi_enumT hm ha hg hs
theorem pek_isi {n : String} {x : Str} {p2 : Pos} (h : X.K = K) (hm : X.mg "isinstance" = none) (hm2 : X.mg x = none) (hv : bootBuiltins x = some (.type n)) (he : PE X e te) (hg : Gl X "isinstance" := by rfl) (hg2 : Gl X x := by rfl)
    (hn : x ≠ "__name__" := by decide) (hdb : (x == ("__debug__" : Str)) = false := by decide) (hs : starEach [e, .Name x p2] X.env = (false, eval e X.env) :: starEach [.Name x p2] X.env := by rfl) (hs2 : starEach [.Name x p2] X.env = (false, eval (.Name x p2) X.env) :: starEach [] X.env := by rfl)
    (hpl : (backTo pos (starEach [.Name x p2] X.env)).any (·.1) = false := by rfl) :
    PE X (.Call (.Name "isinstance" p) [e, .Name x p2] [] pos) (tCB (rIsiN K n) (tCons te (tCons (tC (.ty n)) tNil))) := h ▸ pe_isi hm hm2 hv he hg hg2 hn hdb hs hs2 hpl
theorem pgk_tup {es : List Expr} {k : Nat} {t : TGs} {n : Nat} (h : X.K = K) (hc : X.calm = true) (hh : PGs X es t) (hn : (assignEach es X.env).length = n := by rfl) (hst : (assignEach es X.env).findIdx? (·.1) = none := by rfl) : PG X (.Tuple es k pos) (gTup K n t) := h ▸ pg_tup hc hh hn hst
theorem pak_star {es : List Expr} {t : TA} (h : X.K = K) (he : PE X e te) (hr : PA X es t) (hs : starEach (.Starred e p :: es) X.env = (true, eval e X.env) :: starEach es X.env := by rfl) : PA X (.Starred e p :: es) (StX.tStar K te t) := h ▸ StX.pa_star he hr hs
theorem ptk_truth (h : X.K = K) (ha : PE X e te) (he : ∀ whole, isTrue e X.env whole = (do let v ← whole; standAt e.pos; holding [v] (truthy v))) :
    PT X e (fun σ H Q => te σ H fun x H' => ∃ k, TruV K x H' k ∧ Q k H') := h ▸ pt_truth ha he
end
theorem ev_ixc {K : PySem.W.Frag} {σ : L2.St} {H : Hp} {ta tb : TE} {ds : List PyData} {n : Nat} {i : Int} {d : PyData} (ha : Ev ta σ H (.tuple ds)) (hb : Ev tb σ H (.int i)) (hi : i = (n : Int)) (hd : ds[n]? = some d) : Ev (tOp (rIxT K) ta tb) σ H d := ev_ix ha (hb.eq (by rw [hi])) hd
end K60
namespace K60
open PySem L2

section
variable {K : PySem.W.Frag} {σ : L2.St} {H : Hp}
theorem ev_whole {t : TA} {d : PyData} (ha : EvA t σ H [d]) : Ev (tCall spWhole [] E0 t) σ H (.bool (isW d)) := fun H1 Q s q =>
  ha H1 _ s fun vs H2 s2 hv => by
    rw [List.append_nil]
    exact ⟨d, hv, q _ H2 s2 (.bl _)⟩
theorem ev_btw {t : TA} {d : PyData} {lo hi : Int} (ha : EvA t σ H [d, .int lo, .int hi]) : Ev (tCall spBtw [] E0 t) σ H (.bool (isBtw d lo hi)) := fun H1 Q s q =>
  ha H1 _ s fun vs H2 s2 hv => by
    rw [List.append_nil]
    exact ⟨d, lo, hi, hv, q _ H2 s2 (.bl _)⟩
theorem ff {p : Prop} (h : false = true) : p := absurd h Bool.false_ne_true
theorem tt_ {p : Prop} (h : true = false) : p := absurd h.symm Bool.false_ne_true
/-- all of a block's answers -/
theorem evl_bs {t : TE} {ds : List PyData} {f : PyData → Bool} (h : EvL t σ H (ds.filterMap fun d => some (.bool (f d)))) : EvL t σ H ((ds.map f).map PyData.bool) := by
  rw [List.map_map]
  have e : (ds.filterMap fun d => some (PyData.bool (f d))) = ds.map (PyData.bool ∘ f) := List.filterMap_eq_map (f := PyData.bool ∘ f) ▸ rfl
  rw [← e]; exact h
theorem all_id {f : PyData → Bool} {ds : List PyData} : (ds.map f).all id = ds.all f := by rw [List.all_map]; rfl
end
/-- an allocation of N to V -/
def Alc (V N : Nat) (ns : List Int) : Prop := ns.length = V ∧ (∀ n ∈ ns, 0 ≤ n) ∧ ns.sum = N
/-- an assignment of N to V -/
def Asg (V N : Nat) (ns : List Int) : Prop := ns.length = N ∧ ∀ n ∈ ns, 0 ≤ n ∧ n < V
def fAlloc (ds : List PyData) (d : PyData) : Prop := ∃ (ns : List Int) (V N : Nat), ds = [tI ns, .int V, .int N] ∧ Alc V N ns ∧ V ≤ 100 ∧ d = .bool true
def fAsg (ds : List PyData) (d : PyData) : Prop := ∃ (ns : List Int) (V N : Nat), ds = [tI ns, .int V, .int N] ∧ Asg V N ns ∧ N ≤ 20 ∧ d = .bool true
section
variable {P : Program} {w : World} {K : PySem.W.Frag} {mg : Str → Option Value} {base : Heap}
abbrev N_is_allocation : List Str := ["value", "variants", "buckets", "share"]
theorem sc_is_allocation : FnScope N_is_allocation ["value", "variants", "buckets"] (defScope (top 9)) := ⟨rfl, rfl, rfl, by decide +kernel, rfl, by decide +kernel, by decide +kernel⟩
theorem ok_is_allocation {f : Addr} {fd : FuncData} (F : Fun K "is_allocation" "is_allocation" (top 9) f fd) (T : Txt mg) (G_is_whole : Has P w K mg base 1 "is_whole" ["value"] spWhole) : FnOk P w K mg base CX0 2 f fd ["value", "variants", "buckets"] (spD fAlloc) := by
  have nd := sc_is_allocation.nd
  refine ok_d F sc_is_allocation (fun ds d h => ?_) fun cdv A outer s H0 E hr => ⟨_, (pss_cons (ps_if (PW.pt (pw_or (pt_not (pt_val (pek_isi (K := K) rfl T.isi T.tuple PyProof.Rows.boot_tuple (pv 0)))) (pw_or1 (pt_cmpR op_ne (pe_callB (call_lenk (K := K) rfl) (by rfl) T.len PySem.boot_len (pa_cons (pv 0) pa_nil)) (pv 1) (nomark _))))) (pss_one (ps_ret pe_bl)) pss_nil) (pss_one (ps_ret (pe_and (pe_callB (crk_all (K := K) rfl rfl) (by rfl) T.all PyProof.Rows.boot_all (pa_cons (pe_lc (own := [("share", 3)]) (g := (gName 3)) (tt := tYes) rfl nd (pik_tup (K := K) rfl (pv 0)) (blkOk_by (N := N_is_allocation) (sc := defScope (top 9)) (by decide +kernel)) (fun _ _ _ _ _ => (pg_name (i := 3) nd rfl (Or.inl rfl))) (fun _ _ _ _ _ => pts_nil) (fun _ _ _ _ _ => (pe_and (pe_has G_is_whole hr (by decide) (pa_cons (pv 3) pa_nil)) (pe_one (pe_cmpR op_ge (pv 3) pe_int (nomark _)))))) pa_nil)) (pe_one (pe_cmpR op_eq (pe_callB (cr_sumT rfl) (by rfl) T.sum PyProof.Rows.boot_sum (pa_cons (pv 0) pa_nil)) (pv 2) (nomark _))))))), fun ds d vs H h hd => ?_⟩
  · obtain ⟨ns, V, N, rfl, _⟩ := h; rfl
  · skip
    obtain ⟨ns, V, N, rfl, ⟨hl, h0, hs⟩, hz, rfl⟩ := h
    obtain ⟨v0, v1, v2, rfl, d0, d1, d2⟩ := hd.three
    refine rt_sif (b := false) ((evt_or (evt_not (evt_b (ev_isTup (ev_var rfl d0)))) fun _ => evt_t (ev_neI (ev_len (ev_var rfl d0)) (ev_var rfl d1))).eq ?_) ff fun _ => ?_
    · show (!true || ((ns.map PyData.int).length : Int) != V) = false
      rw [List.length_map, hl]
      simp
    · refine rt_ret (Ev.eq (ev_and (ev_all (evl_bs (f := fun d => isW d && match d with | .int i => decide (0 ≤ i) | _ => false) (evl_tup _ (ev_var rfl d0) (by rw [List.length_map, sizeLine_eq]; omega) (fun _ => rfl) fun d x H' hm s' hx => ⟨true, evt_yes, fun _ => ⟨_, rfl, ?_⟩, tt_⟩))) fun _ => ev_eqI (ev_sumT (ev_var rfl d0)) (ev_var rfl d2)) ?_)
      · obtain ⟨i, hi, rfl⟩ := List.mem_map.mp hm
        exact ev_and (ev_whole (eva_cons (ev_var rfl hx) eva_nil)) fun _ => ev_ib (g := fun i j => decide (j ≤ i)) (ev_var rfl hx) ev_int
      · congr 1
        rw [all_id, hs]
        simp only [beq_self_eq_true, Bool.and_true, List.all_eq_true, List.mem_map]
        rintro d ⟨i, hi, rfl⟩
        simp [isW, h0 i hi]
abbrev N_is_assignment : List Str := ["value", "variants", "buckets", "variant"]
theorem sc_is_assignment : FnScope N_is_assignment ["value", "variants", "buckets"] (defScope (top 11)) := ⟨rfl, rfl, rfl, by decide +kernel, rfl, by decide +kernel, by decide +kernel⟩
theorem ok_is_assignment {f : Addr} {fd : FuncData} (F : Fun K "is_assignment" "is_assignment" (top 11) f fd) (T : Txt mg) (G_is_between : Has P w K mg base 2 "is_between" ["value", "low", "high"] spBtw) : FnOk P w K mg base CX0 3 f fd ["value", "variants", "buckets"] (spD fAsg) := by
  have nd := sc_is_assignment.nd
  refine ok_d F sc_is_assignment (fun ds d h => ?_) fun cdv A outer s H0 E hr => ⟨_, (pss_cons (ps_if (PW.pt (pw_or (pt_not (pt_val (pek_isi (K := K) rfl T.isi T.tuple PyProof.Rows.boot_tuple (pv 0)))) (pw_or1 (pt_cmpR op_ne (pe_callB (call_lenk (K := K) rfl) (by rfl) T.len PySem.boot_len (pa_cons (pv 0) pa_nil)) (pv 2) (nomark _))))) (pss_one (ps_ret pe_bl)) pss_nil) (pss_one (ps_ret (pe_callB (crk_all (K := K) rfl rfl) (by rfl) T.all PyProof.Rows.boot_all (pa_cons (pe_lc (own := [("variant", 3)]) (g := (gName 3)) (tt := tYes) rfl nd (pik_tup (K := K) rfl (pv 0)) (blkOk_by (N := N_is_assignment) (sc := defScope (top 11)) (by decide +kernel)) (fun _ _ _ _ _ => (pg_name (i := 3) nd rfl (Or.inl rfl))) (fun _ _ _ _ _ => pts_nil) (fun _ _ _ _ _ => (pe_has G_is_between hr (by decide) (pa_cons (pv 3) (pa_cons pe_int (pa_cons (pe_op op_sub (pv 1) pe_int) pa_nil)))))) pa_nil))))), fun ds d vs H h hd => ?_⟩
  · obtain ⟨ns, V, N, rfl, _⟩ := h; rfl
  · skip
    obtain ⟨ns, V, N, rfl, ⟨hl, h0⟩, hz, rfl⟩ := h
    obtain ⟨v0, v1, v2, rfl, d0, d1, d2⟩ := hd.three
    refine rt_sif (b := false) ((evt_or (evt_not (evt_b (ev_isTup (ev_var rfl d0)))) fun _ => evt_t (ev_neI (ev_len (ev_var rfl d0)) (ev_var rfl d2))).eq ?_) ff fun _ => ?_
    · show (!true || ((ns.map PyData.int).length : Int) != N) = false
      rw [List.length_map, hl]
      simp
    · refine rt_ret (Ev.eq (ev_all (evl_bs (f := fun d => isBtw d 0 (V - 1)) (evl_tup _ (ev_var rfl d0) (by rw [List.length_map, sizeLine_eq]; omega) (fun _ => rfl) fun d x H' hm s' hx => ⟨true, evt_yes, fun _ => ⟨_, rfl, ?_⟩, tt_⟩))) ?_)
      · exact ev_btw (eva_cons (ev_var rfl hx) (eva_cons ev_int (eva_cons (ev_ii (g := fun i j => i - j) (ev_var rfl (d1.s s')) ev_int) eva_nil)))
      · congr 1
        rw [all_id]
        simp only [List.all_eq_true, List.mem_map]
        rintro d ⟨i, hi, rfl⟩
        have := h0 i hi
        simp only [isBtw, Bool.and_eq_true, decide_eq_true_eq]
        omega
end
end K60
/-! More of the calculus: walks, loops, ends. -/
namespace K60
open PySem L2
/-- a walk that makes no change to what stands -/
def EvI (wi : TI) (σ : L2.St) (H : Hp) (n : Nat) (Yd : Nat → Hp → V → Prop) : Prop := ∀ H1 (R : It → Hp → Prop), Same H H1 → (∀ J H2 G Y, Same H1 H2 → Walk J n G Y → (∀ H', Same H2 H' → G H') → (∀ i H' x H'', i < n → Same H2 H' → Y i H' x H'' → Same H' H'' ∧ Yd i H'' x) → R J H2) → wi σ H1 R
def GT (g : TG) (x : V) (σ : L2.St) (H : Hp) (σ2 : L2.St) : Prop := ∀ Q, Q σ2 H → g x σ H Q
def YdT (ds : List PyData) (i : Nat) (H : Hp) (x : V) : Prop := ∃ d, ds[i]? = some d ∧ Dt H x d
def YdE (ds : List PyData) (i : Nat) (H : Hp) (x : V) : Prop := ∃ T y d, x = .ref T ∧ H T = some (.tup [.int (i : Nat), y]) ∧ ds[i]? = some d ∧ Dt H y d
def YdR (i : Nat) (H : Hp) (x : V) : Prop := x = .int (i : Nat)
def RtR (t : TS) (σ : L2.St) (H : Hp) (R : PyData → Prop) : Prop := ∀ H1 D, Same H H1 → (∀ d v H2, R d → Same H1 H2 → Dt H2 v d → D.rt v H2) → t D σ H1
def RtN (t : TS) (σ : L2.St) (H : Hp) : Prop := ∀ H1 D, Same H H1 → (∀ σ' H2, Same H1 H2 → D.nx σ' H2) → t D σ H1
def EvP (t : TE) (σ : L2.St) (H : Hp) (v : V) : Prop := ∀ H1 Q, Same H H1 → (∀ H2, Same H1 H2 → Q v H2) → t σ H1 Q
def spR (g : List PyData → Prop) (R : List PyData → PyData → Prop) : Sp := fun vs H Q _ => ∃ ds, g ds ∧ DtA H vs ds ∧ ∀ d v H', R ds d → Same H H' → Dt H' v d → Q v H'
section
variable {K : PySem.W.Frag} {σ : L2.St} {H : Hp} {t u ta tb te : TE}
theorem evp_var {i : Nat} {v : V} (h : σ[i]? = some (some v)) : EvP (tVar i) σ H v := fun H1 Q s q => ⟨v, h, q H1 (Same.refl _)⟩
theorem gt_name {i : Nat} {x : V} : GT (gName i) x σ H (σ.set i (some x)) := fun Q q => q
theorem gt_two {i j : Nat} {T : Addr} {y z : V} (h : SqT K H T [y, z]) : GT (gTup K 2 (gCons (gName i) (gCons (gName j) gNil))) (.ref T) σ H ((σ.set i (some y)).set j (some z)) := fun Q q =>
  ⟨T, _, rfl, h, rfl, y, _, rfl, z, _, rfl, rfl, q⟩
theorem evi_tup {tl : TE} {ds : List PyData} (hl : Ev tl σ H (.tuple ds)) : EvI (iTup K tl) σ H ds.length (YdT ds) := fun H1 R s q =>
  hl H1 _ s fun x H2 s2 hx => by
    obtain ⟨a, xs, rfl, hxs, hd⟩ := hx.t
    refine ⟨a, rfl, ⟨xs, hxs.q⟩, q _ H2 (fun H => SqT K H a xs) (YAt xs) s2 (by rw [← hd.len]; exact walk_tup) (fun H' s' => (hxs.s s').q) fun i H' y H'' hi s' hy => ?_⟩
    obtain ⟨rfl, hy⟩ := hy
    obtain ⟨d, e1, e2⟩ := (hd.s s').of hy
    exact ⟨Same.refl _, d, e1, e2⟩
theorem evi_list {tl : TE} {ds : List PyData} {p : Addr} {ys : List V} (hl : EvP tl σ H (.ref p)) (hp : H p = some (.lst ys)) (hd : DtA H ys ds) : EvI (iList K tl) σ H ds.length (YdT ds) := fun H1 R s q =>
  hl H1 _ s fun H2 s2 => by
    have hp2 := s2 _ _ (s _ _ hp)
    refine ⟨p, rfl, ⟨ys, SqL.of hp2⟩, q _ H2 (fun H => SqL K H p ys) (YAt ys) s2 (by rw [← hd.len]; exact walk_list) (fun H' s' => SqL.of (s' _ _ hp2)) fun i H' y H'' hi s' hy => ?_⟩
    obtain ⟨rfl, hy⟩ := hy
    obtain ⟨d, e1, e2⟩ := (((hd.s s).s s2).s s').of hy
    exact ⟨Same.refl _, d, e1, e2⟩
theorem evi_rng {ta : TA} {n : Nat} {m : Int} (hl : EvA ta σ H [.int m]) (hm : m.toNat = n) (hz : -100000 ≤ m ∧ m ≤ 100000) : EvI (iRng1 ta) σ H n YdR := fun H1 R s q =>
  hl H1 _ s fun xs H2 s2 hx => by
    obtain ⟨x, rfl, hy⟩ := hx.one
    refine ⟨m, by rw [hy.i], by omega, by omega, ?_⟩
    rw [hm]
    refine q _ H2 _ _ s2 walk_range (fun _ _ => trivial) fun i H' y H'' hi s' hy => ?_
    obtain ⟨rfl, rfl⟩ := hy
    exact ⟨Same.refl _, by show V.int (0 + (i : Int)) = _; rw [Int.zero_add]⟩
theorem evi_enum {ta : TA} {ds : List PyData} (hl : EvA ta σ H [.tuple ds]) : EvI (iEnumT K ta) σ H ds.length (YdE ds) := fun H1 R s q =>
  hl H1 _ s fun vs H2 s2 hv => by
    obtain ⟨x, rfl, hx⟩ := hv.one
    obtain ⟨a, xs, rfl, hxs, hd⟩ := hx.t
    refine ⟨a, xs, rfl, hxs.q, q _ H2 (fun H => SqT K H a xs) _ s2 (by rw [← hd.len]; exact walk_enumT) (fun H' s' => (hxs.s s').q) fun i H' y H'' hi s' hy => ?_⟩
    obtain ⟨T, y1, y2, rfl, hT, rfl, e1, e2⟩ := hy
    obtain ⟨d, f1, f2⟩ := (hd.s s').of e2
    have sn := same_new (o := .tup [y1, y2]) hT
    cases e1
    exact ⟨sn, T, y2, d, rfl, upd_same, f1, f2.s sn⟩
theorem evl_lc {wi : TI} {g : TG} {tt : TT} {vs : List Nat} {n : Nat} {Yd : Nat → Hp → V → Prop} (F : Nat → Option PyData) (hi : EvI wi σ H n Yd) (hz : n ≤ sizeLine)
    (hs : ∀ i x H', i < n → Same H H' → Yd i H' x → ∃ σ2, GT g x (wipe σ vs) H' σ2 ∧ wipe σ2 vs = wipe σ vs ∧ ∃ b, EvT tt σ2 H' b ∧ (b = true → ∃ e, F i = some e ∧ Ev te σ2 H' e) ∧ (b = false → F i = none)) : EvL (tLc wi g tt te vs) σ H ((List.range n).filterMap F) := fun H1 Q s q =>
  hi H1 _ s fun J H2 G Y s2 W hG hY D hD => by
    refine lc_dt W F hD hz hG (fun i H' y H'' h1 h2 h3 => (hY i H' y H'' h1 h2 h3).1) (fun i y H' H'' Nx Kp hi s' s'' hy kp nx => ?_) fun H' ys s' hD' r => ?_
    · obtain ⟨σ2, gt, w, b, h1, h2, h3⟩ := hs i y H'' hi (((s.trans s2).trans s').trans s'') (hY i H' y H'' hi s' hy).2
      refine gt _ ⟨w, h1.go fun H3 s3 => ?_⟩
      cases b with
      | true =>
        obtain ⟨e, f1, f2⟩ := h2 rfl
        exact iteT ((f2.s s3).go fun v H4 s4 hv => kp v e H4 (s3.trans s4) f1 hv)
      | false => exact iteF (nx H3 s3 (h3 rfl))
    · exact q D ys H' (s2.trans s') (by
        cases e : H1 D with
        | none => rfl
        | some u =>
          have := s2 _ _ e
          rw [hD] at this
          cases this) hD' r
/-! returns under R -/
theorem RtR.rt {t : TS} {d : PyData} (h : RtR t σ H (· = d)) : Rt t σ H d := fun H1 D s q => h H1 D s fun e v H2 he s2 hv => by subst he; exact q v H2 s2 hv
theorem RtR.s {t : TS} {R : PyData → Prop} {H' : Hp} (h : RtR t σ H R) (s : Same H H') : RtR t σ H' R := fun H1 Q s1 q => h H1 Q (s.trans s1) q
theorem rr_ret {d : PyData} {R : PyData → Prop} (h : Ev t σ H d) (r : R d) : RtR (tRet t) σ H R := fun H1 D s q => h H1 _ s fun v H2 s2 hv => q d v H2 r s2 hv
theorem rr_if {c : TT} {b : Bool} {t u : TS} {R : PyData → Prop} (hc : EvT c σ H b) (h1 : b = true → RtR t σ H R) (h2 : b = false → RtR u σ H R) : RtR (tIfS c t u) σ H R := fun H1 D s q =>
  hc H1 _ s fun H2 s2 => by
    cases b with
    | true => exact iteT (h1 rfl H2 D (s.trans s2) fun d v H3 r s3 hv => q d v H3 r (s2.trans s3) hv)
    | false => exact iteF (h2 rfl H2 D (s.trans s2) fun d v H3 r s3 hv => q d v H3 r (s2.trans s3) hv)
theorem rr_sif {c : TT} {b : Bool} {t u : TS} {R : PyData → Prop} (hc : EvT c σ H b) (h1 : b = true → RtR t σ H R) (h2 : b = false → RtR u σ H R) : RtR (tSeq (tIfS c t tNext) u) σ H R := fun H1 D s q =>
  hc H1 _ s fun H2 s2 => by
    cases b with
    | true => exact iteT (h1 rfl H2 _ (s.trans s2) fun d v H3 r s3 hv => q d v H3 r (s2.trans s3) hv)
    | false => exact iteF (h2 rfl H2 D (s.trans s2) fun d v H3 r s3 hv => q d v H3 r (s2.trans s3) hv)
theorem rr_set {i : Nat} {u : TS} {e : PyData} {R : PyData → Prop} (h : Ev t σ H e) (k : ∀ v H', Same H H' → Dt H' v e → RtR u (σ.set i (some v)) H' R) : RtR (tSeq (tAsg t (gName i)) u) σ H R := fun H1 D s q =>
  h H1 _ s fun v H2 s2 hv => k v H2 (s.trans s2) hv H2 D (Same.refl _) fun d w H3 r s3 hw => q d w H3 r (s2.trans s3) hw
theorem rr_drop {u : TS} {e : PyData} {R : PyData → Prop} (h : Ev t σ H e) (k : RtR u σ H R) : RtR (tSeq (tDrop t) u) σ H R := fun H1 D s q =>
  h H1 _ s fun v H2 s2 hv => k H2 D (s.trans s2) fun d w H3 r s3 hw => q d w H3 r (s2.trans s3) hw
theorem rt_drop {u : TS} {d e : PyData} (h : Ev t σ H e) (k : Rt u σ H d) : Rt (tSeq (tDrop t) u) σ H d := fun H1 D s q =>
  h H1 _ s fun v H2 s2 hv => k H2 D (s.trans s2) fun w H3 s3 hw => q w H3 (s2.trans s3) hw
/-- a call whose promise leaves the answer open -/
theorem rr_setR {i : Nat} {u : TS} {g : List PyData → Prop} {Rr : List PyData → PyData → Prop} {R : PyData → Prop} {ta : TA} {ds : List PyData} (ha : EvA ta σ H ds) (hg : g ds) (k : ∀ d v H', Rr ds d → Same H H' → Dt H' v d → RtR u (σ.set i (some v)) H' R) : RtR (tSeq (tAsg (tCall (spR g Rr) [] E0 ta) (gName i)) u) σ H R := fun H1 D s q =>
  ha H1 _ s fun vs H2 s2 hv => by
    rw [List.append_nil]
    exact ⟨ds, hg, hv, fun d v H3 hr s3 hd => k d v H3 hr ((s.trans s2).trans s3) hd H3 D (Same.refl _) fun e w H4 r s4 hw => q e w H4 r ((s2.trans s3).trans s4) hw⟩
theorem rr_for {wi : TI} {g : TG} {tb u : TS} {n : Nat} {Yd : Nat → Hp → V → Prop} {R : PyData → Prop} (I : Nat → L2.St → Prop) (hi : EvI wi σ H n Yd) (h0 : I 0 σ)
    (hs : ∀ i x σ' H', i < n → Same H H' → Yd i H' x → I i σ' → ∀ D : Ends, (∀ σ2 H2, Same H' H2 → I (i + 1) σ2 → D.nx σ2 H2) → (∀ d v H2, R d → Same H' H2 → Dt H2 v d → D.rt v H2) → g x σ' H' fun σ2 H2 => tb D σ2 H2)
    (hd : ∀ σ' H', Same H H' → I n σ' → RtR u σ' H' R) : RtR (tSeq (tFor wi g tb) u) σ H R := fun H1 D s q =>
  hi H1 _ s fun J H2 G Y s2 W hG hY => by
    refine for_it (D := { D with nx := u D }) W (fun i σ' H' => Same H2 H' ∧ I i σ') ⟨Same.refl _, h0⟩ (fun i σ' H' _ p => hG H' p.1) ?_ fun σ' H' p => ?_
    · rintro i x σ' H' H'' hi ⟨s', p⟩ hy
      obtain ⟨s'', yd⟩ := hY i H' x H'' hi s' hy
      exact hs i x σ' H'' hi (((s.trans s2).trans s').trans s'') yd p _ (fun σ2 H3 s3 p3 => ⟨(s'.trans s'').trans s3, p3⟩) fun d v H3 r s3 hv => q d v H3 r (((s2.trans s').trans s'').trans s3) hv
    · exact hd σ' H' ((s.trans s2).trans p.1) p.2 H' D (Same.refl _) fun d v H3 r s3 hv => q d v H3 r ((s2.trans p.1).trans s3) hv
/-- a loop in a loop's body: goes on or returns -/
theorem nx_for {wi : TI} {g : TG} {tb : TS} {n : Nat} {Yd : Nat → Hp → V → Prop} {R : PyData → Prop} {D : Ends} (I : Nat → L2.St → Prop) (hi : EvI wi σ H n Yd) (h0 : I 0 σ)
    (hs : ∀ i x σ' H', i < n → Same H H' → Yd i H' x → I i σ' → ∀ D : Ends, (∀ σ2 H2, Same H' H2 → I (i + 1) σ2 → D.nx σ2 H2) → (∀ d v H2, R d → Same H' H2 → Dt H2 v d → D.rt v H2) → g x σ' H' fun σ2 H2 => tb D σ2 H2)
    (hr : ∀ d v H2, R d → Same H H2 → Dt H2 v d → D.rt v H2) (hd : ∀ σ' H', Same H H' → I n σ' → D.nx σ' H') : tFor wi g tb D σ H :=
  hi H _ (Same.refl _) fun J H2 G Y s2 W hG hY => by
    refine for_it W (fun i σ' H' => Same H2 H' ∧ I i σ') ⟨Same.refl _, h0⟩ (fun i σ' H' _ p => hG H' p.1) ?_ fun σ' H' p => ?_
    · rintro i x σ' H' H'' hi ⟨s', p⟩ hy
      obtain ⟨s'', yd⟩ := hY i H' x H'' hi s' hy
      exact hs i x σ' H'' hi ((s2.trans s').trans s'') yd p _ (fun σ2 H3 s3 p3 => ⟨(s'.trans s'').trans s3, p3⟩) fun d v H3 r s3 hv => hr d v H3 r (((s2.trans s').trans s'').trans s3) hv
    · exact hd σ' H' (s2.trans p.1) p.2
/-- if c: return e, in a loop's body -/
theorem nx_if {c : TT} {b : Bool} {t u : TS} {D : Ends} (hc : EvT c σ H b) (h1 : b = true → ∀ H2, Same H H2 → t D σ H2) (h2 : b = false → ∀ H2, Same H H2 → u D σ H2) : tIfS c t u D σ H :=
  hc.go fun H2 s2 => by
    cases b with
    | true => exact iteT (h1 rfl H2 s2)
    | false => exact iteF (h2 rfl H2 s2)
/-! falls off its end -/
theorem rn_sif {c : TT} {t u : TS} (hc : EvT c σ H false) (h2 : RtN u σ H) : RtN (tSeq (tIfS c t tNext) u) σ H := fun H1 D s q =>
  hc H1 _ s fun H2 s2 => iteF (h2 H2 D (s.trans s2) fun σ' H3 s3 => q σ' H3 (s2.trans s3))
theorem rn_if {c : TT} {t : TS} (hc : EvT c σ H false) : RtN (tIfS c t tNext) σ H := fun H1 D s q =>
  hc H1 _ s fun H2 s2 => iteF (q σ H2 s2)
theorem rn_drop {u : TS} {e : PyData} (h : Ev t σ H e) (k : RtN u σ H) : RtN (tSeq (tDrop t) u) σ H := fun H1 D s q =>
  h H1 _ s fun v H2 s2 hv => k H2 D (s.trans s2) fun σ' H3 s3 => q σ' H3 (s2.trans s3)
end
section
variable {P : Program} {w : World} {K : PySem.W.Frag} {mg : Str → Option Value} {base : Heap} {x qual : Str} {st : Stmt} {f : Addr} {fd : FuncData} {N ps : List Str} {k : Nat}
theorem ok_n {g : List PyData → PyData → Prop} (F : Fun K x qual st f fd) (S : FnScope N ps (defScope st)) (len : ∀ ds d, g ds d → ds.length = ps.length)
    (hb : ∀ (cdv : Value) (A : Around) (outer : List Env) (s : Shared) (H0 : Hp) (E : XK), Room k (A.deeper (PyProof.Rows.envOfC qual (defScope st) s.heap.objs.size f cdv)) →
      ∃ t, PSs (cxOf CX0 P w K mg base N qual (defScope st) f cdv A outer s H0 E).nox (defBody st) t ∧ ∀ ds d vs H, g ds d → DtA H vs ds → d = .none ∧ RtN t (start N vs) H) : FnOk P w K mg base CX0 (k + 1) f fd ps (spD g) := by
  refine F.ok S (fun vs H Q E h => ?_) fun cdv A outer s H vs Q E hr h => ?_
  · obtain ⟨ds, d, hg, hd, _⟩ := h
    rw [hd.len]
    exact len ds d hg
  · obtain ⟨ds, d, hg, hd, q⟩ := h
    obtain ⟨t, hp, ht⟩ := hb cdv A outer s H E hr
    obtain ⟨rfl, ht⟩ := ht ds d vs H hg hd
    exact ⟨t, hp, ht H _ (Same.refl _) fun σ' H2 s2 => q _ _ s2 .non⟩
theorem ok_r {g : List PyData → Prop} {R : List PyData → PyData → Prop} (F : Fun K x qual st f fd) (S : FnScope N ps (defScope st)) (len : ∀ ds, g ds → ds.length = ps.length)
    (hb : ∀ (cdv : Value) (A : Around) (outer : List Env) (s : Shared) (H0 : Hp) (E : XK), Room k (A.deeper (PyProof.Rows.envOfC qual (defScope st) s.heap.objs.size f cdv)) →
      ∃ t, PSs (cxOf CX0 P w K mg base N qual (defScope st) f cdv A outer s H0 E).nox (defBody st) t ∧ ∀ ds vs H, g ds → DtA H vs ds → RtR t (start N vs) H (R ds)) : FnOk P w K mg base CX0 (k + 1) f fd ps (spR g R) := by
  refine F.ok S (fun vs H Q E h => ?_) fun cdv A outer s H vs Q E hr h => ?_
  · obtain ⟨ds, hg, hd, _⟩ := h
    rw [hd.len]
    exact len ds hg
  · obtain ⟨ds, hg, hd, q⟩ := h
    obtain ⟨t, hp, ht⟩ := hb cdv A outer s H E hr
    exact ⟨t, hp, ht ds vs H hg hd H _ (Same.refl _) fun d v H2 r s2 hv => q d v H2 r s2 hv⟩
end
/-! shapes compared -/
theorem ints_lay : ∀ ns : List Int, PyData.canLayAll0 (ns.map PyData.int) = true
  | [] => rfl
  | n :: ns => by
    rw [List.map_cons]
    show (PyData.canLay0 (.int n) && PyData.canLayAll0 (ns.map PyData.int)) = true
    rw [ints_lay ns]; rfl
theorem ints_depth : ∀ ns : List Int, PyData.depthAll (ns.map PyData.int) ≤ 1
  | [] => by simp [PyData.depthAll]
  | n :: ns => by
    have := ints_depth ns
    simp only [List.map_cons, PyData.depthAll, PyData.depth]
    omega
theorem tI_depth (ns : List Int) : (tI ns).depth ≤ 2 := by
  have := ints_depth ns
  simp only [PyData.depth]
  omega
theorem tI_shaped (ns : List Int) : SeqAt.shaped (tI ns) = true := by
  have := tI_depth ns
  unfold SeqAt.shaped
  rw [Bool.and_eq_true, decide_eq_true_eq]
  refine ⟨?_, by omega⟩
  show PyData.canLayAll0 _ = true
  exact ints_lay ns
theorem eqvAll_ints : ∀ ns ms : List Int, PyData.eqvAll (ns.map PyData.int) (ms.map PyData.int) = decide (ns = ms)
  | [], [] => by simp [PyData.eqvAll]
  | [], _ :: _ => by simp [PyData.eqvAll]
  | _ :: _, [] => by simp [PyData.eqvAll]
  | n :: ns, m :: ms => by
    rw [List.map_cons, List.map_cons]
    simp only [PyData.eqvAll, PyData.eqv, eqvAll_ints ns ms]
    rw [Bool.eq_iff_iff]
    simp
theorem eqv_tI (ns ms : List Int) : PyData.eqv (tI ns) (tI ms) = decide (ns = ms) := by
  show PyData.eqvAll _ _ = _
  exact eqvAll_ints ns ms
end K60
namespace K60
open PySem L2

section
variable {K : PySem.W.Frag} {σ : L2.St} {H : Hp}
theorem nx_set {t : TE} {u : TS} {i : Nat} {e : PyData} {D : Ends} (h : Ev t σ H e) (k : ∀ v H2, Same H H2 → Dt H2 v e → u D (σ.set i (some v)) H2) : tSeq (tAsg t (gName i)) u D σ H := h.go fun v H2 s2 hv => k v H2 s2 hv
theorem nx_sif {c : TT} {b : Bool} {t u : TS} {D : Ends} (hc : EvT c σ H b) (h1 : b = true → ∀ H2, Same H H2 → t { D with nx := u D } σ H2) (h2 : b = false → ∀ H2, Same H H2 → u D σ H2) : tSeq (tIfS c t tNext) u D σ H :=
  hc.go fun H2 s2 => by
    cases b with
    | true => exact iteT (h1 rfl H2 s2)
    | false => exact iteF (h2 rfl H2 s2)
theorem nx_ret {t : TE} {e : PyData} {D : Ends} (h : Ev t σ H e) (k : ∀ v H2, Same H H2 → Dt H2 v e → D.rt v H2) : tRet t D σ H := h.go k
end
def counts (V : Nat) (ns : List Int) : List Int := (List.range V).map fun (v : Nat) => ((ns.count (v : Int) : Nat) : Int)
def VP (V N : Nat) (p : List Int × List Int) : Prop := Alc V N p.1 ∧ Asg V N p.2 ∧ counts V p.2 = p.1
def VR (V N : Nat) (r : List (List Int × List Int)) : Prop := (∀ p ∈ r, VP V N p) ∧ (r.map (·.1)).Nodup ∧ r.length ≤ 20
def Sz (V N : Nat) : Prop := 1 ≤ V ∧ V ≤ 5 ∧ N ≤ 20
def fCkA (ds : List PyData) (d : PyData) : Prop := ∃ (ns : List Int) (V N : Nat) (nm : Str), ds = [tI ns, .int V, .str nm] ∧ Asg V N ns ∧ N ≤ 20 ∧ d = .none
def spCV : Sp := fun vs H Q _ => ∃ (V N : Nat) (p : Addr) (v : L2.V) (ns : List Int), vs = [.int V, .ref p] ∧ H p = some (.lst [v]) ∧ Dt H v (tI ns) ∧ Asg V N ns ∧ N ≤ 20 ∧ 1 ≤ V ∧ V ≤ 5 ∧ ∀ H', Same H H' → Q .non H'
def fCnt (ds : List PyData) (d : PyData) : Prop := ∃ (ns : List Int) (V : Nat), ds = [tI ns, .int V] ∧ V ≤ 100 ∧ d = tI (counts V ns)
def fAlOf (ds : List PyData) (d : PyData) : Prop := ∃ (ns : List Int) (V N : Nat), ds = [tI ns, .int V] ∧ Asg V N ns ∧ Sz V N ∧ d = tI (counts V ns)
def fIsInt (ds : List PyData) (d : PyData) : Prop := ∃ e, ds = [e] ∧ d = .bool (isW e)
def fPair (ds : List PyData) (d : PyData) : Prop := ∃ (p : List Int × List Int) (V N : Nat), ds = [tP p, .int V, .int N] ∧ VP V N p ∧ Sz V N ∧ d = .bool true
def fSizes (ds : List PyData) (d : PyData) : Prop := ∃ (V N : Nat), ds = [.int V, .int N] ∧ Sz V N ∧ d = .none
def fPairs (ds : List PyData) (d : PyData) : Prop := ∃ (r : List (List Int × List Int)) (V N : Nat), ds = [tR r, .int V, .int N] ∧ VR V N r ∧ Sz V N ∧ d = .bool true
def fCkR (ds : List PyData) (d : PyData) : Prop := ∃ (r : List (List Int × List Int)) (V N : Nat), ds = [.int V, .int N, tR r] ∧ VR V N r ∧ Sz V N ∧ d = .none
def fCkAll (ds : List PyData) (d : PyData) : Prop := ∃ (r : List (List Int × List Int)) (a : List Int) (V N : Nat), ds = [.int V, .int N, tR r, tI a] ∧ VR V N r ∧ Alc V N a ∧ Sz V N ∧ d = .none
theorem fm_some {α β : Type} (f : α → β) (l : List α) : (l.filterMap fun x => some (f x)) = l.map f := List.filterMap_eq_map (f := f) ▸ rfl
theorem cnt_eq (V : Nat) (ns : List Int) : ((List.range V).filterMap fun (i : Nat) => some (PyData.int ((ns.count (i : Int) : Nat) : Int))) = (counts V ns).map PyData.int := by
  rw [fm_some]
  unfold counts
  rw [List.map_map]
  rfl
section
variable {K : PySem.W.Frag} {σ : L2.St} {H : Hp}
theorem ev_cv {ta tb : TE} {V N : Nat} {ns : List Int} (ha : Ev ta σ H (.int V)) (hb : Ev tb σ H (tI ns)) (h : Asg V N ns) (hz : Sz V N) : Ev (tCall spCV [] E0 (tCons ta (tCons (tLst (tCons tb tNil)) tNil))) σ H .none := fun H1 Q s q =>
  ha H1 _ s fun x H2 s2 hx => hb H2 _ (s.trans s2) fun y H3 s3 hy => ⟨by show 1 ≤ sizeLine; decide, fun l hl => by
    have sn := same_new (o := .lst [y]) hl
    refine ⟨V, N, l, y, ns, by rw [hx.i]; rfl, upd_same, hy.s sn, h, hz.2.2, hz.1, hz.2.1, fun H' s' => q _ H' (((s2.trans s3).trans sn).trans s') .non⟩⟩
end
section
variable {P : Program} {w : World} {K : PySem.W.Frag} {mg : Str → Option Value} {base : Heap}
abbrev N_check_assignment : List Str := ["value", "variants", "name"]
theorem sc_check_assignment : FnScope N_check_assignment ["value", "variants", "name"] (defScope (top 12)) := ⟨rfl, rfl, rfl, by decide +kernel, rfl, by decide +kernel, by decide +kernel⟩
theorem ok_check_assignment {f : Addr} {fd : FuncData} (F : Fun K "check_assignment" "check_assignment" (top 12) f fd) (T : Txt mg) (G_is_assignment : Has P w K mg base 3 "is_assignment" ["value", "variants", "buckets"] (spD fAsg)) : FnOk P w K mg base CX0 4 f fd ["value", "variants", "name"] (spD fCkA) := by
  have nd := sc_check_assignment.nd
  refine ok_n F sc_check_assignment (fun ds d h => ?_) fun cdv A outer s H0 E hr => ⟨_, (pss_cons (ps_if (PW.pt (pw_or (pt_not (pt_val (pek_isi (K := K) rfl T.isi T.tuple PyProof.Rows.boot_tuple (pv 0)))) (pw_or1 (pt_cmpR op_gt (pe_callB (call_lenk (K := K) rfl) (by rfl) T.len PySem.boot_len (pa_cons (pv 0) pa_nil)) (pe_num T.mba) (nomark _))))) pss_never pss_nil) (pss_one (ps_if (pt_not (pt_val (pe_has G_is_assignment hr (by decide) (pa_cons (pv 0) (pa_cons (pv 1) (pa_cons (pe_callB (call_lenk (K := K) rfl) (by rfl) T.len PySem.boot_len (pa_cons (pv 0) pa_nil)) pa_nil)))))) pss_never pss_nil))), fun ds d vs H h hd => ?_⟩
  · obtain ⟨ns, V, N, nm, rfl, _⟩ := h; rfl
  · skip
    obtain ⟨ns, V, N, nm, rfl, ha, hz, rfl⟩ := h
    obtain ⟨v0, v1, v2, rfl, d0, d1, d2⟩ := hd.three
    refine ⟨rfl, rn_sif ((evt_or (evt_not (evt_b (ev_isTup (ev_var rfl d0)))) fun _ => evt_t (ev_ib (g := fun i j => decide (j < i)) (ev_len (ev_var rfl d0)) ev_int)).eq ?_) (rn_if ((evt_not (evt_b (ev_call (eva_cons (ev_var rfl d0) (eva_cons (ev_var rfl d1) (eva_cons (ev_len (ev_var rfl d0)) eva_nil))) ⟨ns, V, N, ?_, ha, hz, rfl⟩))).eq rfl))⟩
    · show (!true || decide ((20 : Int) < ((ns.map PyData.int).length : Int))) = false
      rw [List.length_map, ha.1]
      simp; omega
    · rw [List.length_map, ha.1]
abbrev N_check_variants : List Str := ["variants", "assignments", "assignment"]
theorem sc_check_variants : FnScope N_check_variants ["variants", "assignments"] (defScope (top 13)) := ⟨rfl, rfl, rfl, by decide +kernel, rfl, by decide +kernel, by decide +kernel⟩
theorem ok_check_variants {f : Addr} {fd : FuncData} (F : Fun K "check_variants" "check_variants" (top 13) f fd) (T : Txt mg) (G_is_between : Has P w K mg base 2 "is_between" ["value", "low", "high"] spBtw) (G_is_assignment : Has P w K mg base 3 "is_assignment" ["value", "variants", "buckets"] (spD fAsg)) : FnOk P w K mg base CX0 4 f fd ["variants", "assignments"] spCV := by
  have nd := sc_check_variants.nd
  refine F.ok sc_check_variants (fun vs H Q E h => ?_) fun cdv A outer s H vs Q E hr h => ?_
  · obtain ⟨V, N, p, v, ns, rfl, _⟩ := h; rfl
  · refine ⟨_, (pss_cons (ps_if (pt_not (pt_val (pe_has G_is_between hr (by decide) (pa_cons (pv 0) (pa_cons pe_int (pa_cons (pe_num T.mva) pa_nil)))))) pss_never pss_nil) (pss_one (ps_if (pt_not (pt_val (pe_callB (crk_all (K := K) rfl rfl) (by rfl) T.all PyProof.Rows.boot_all (pa_cons (pe_lc (own := [("assignment", 2)]) (g := (gName 2)) (tt := tYes) rfl nd (pik_list (K := K) rfl (pv 1)) (blkOk_by (N := N_check_variants) (sc := defScope (top 13)) (by decide +kernel)) (fun _ _ _ _ _ => (pg_name (i := 2) nd rfl (Or.inl rfl))) (fun _ _ _ _ _ => pts_nil) (fun _ _ _ _ _ => (pe_has G_is_assignment hr (by decide) (pa_cons (pv 2) (pa_cons (pv 0) (pa_cons (pe_callB (call_lenk (K := K) rfl) (by rfl) T.len PySem.boot_len (pa_cons (pv 2) pa_nil)) pa_nil)))))) pa_nil)))) pss_never pss_nil))), ?_⟩
    obtain ⟨V, N, p, v, ns, rfl, hp, hv, ha, hz, h1, h5, k⟩ := h
    refine (?_ : RtN _ _ H) H _ (Same.refl _) fun σ' H2 s2 => k H2 s2
    refine rn_sif ((evt_not (evt_b (ev_btw (eva_cons (ev_var rfl (.int _)) (eva_cons ev_int (eva_cons ev_int eva_nil)))))).eq ?_) (rn_if ((evt_not (evt_b (ev_all (bs := [true]) (evl_lc (n := 1) (fun _ => some (.bool true)) (evi_list (evp_var rfl) hp (.cons hv .nil)) (by decide) fun i x H' hi s' yd => ?_)))).eq rfl))
    · simp only [isBtw, Bool.not_eq_false', Bool.and_eq_true, decide_eq_true_eq]
      omega
    · obtain ⟨d, e, hx⟩ := yd
      have : i = 0 := by omega
      subst this
      cases e
      refine ⟨_, gt_name, rfl, true, evt_yes, fun _ => ⟨_, rfl, ev_call (eva_cons (ev_var rfl hx) (eva_cons (ev_var rfl (.int _)) (eva_cons (ev_len (ev_var rfl hx)) eva_nil))) ⟨ns, V, N, ?_, ha, hz, rfl⟩⟩, tt_⟩
      rw [List.length_map, ha.1]
abbrev N_counts_of : List Str := ["assignment", "variants", "variant"]
theorem sc_counts_of : FnScope N_counts_of ["assignment", "variants"] (defScope (top 14)) := ⟨rfl, rfl, rfl, by decide +kernel, rfl, by decide +kernel, by decide +kernel⟩
theorem ok_counts_of {f : Addr} {fd : FuncData} (F : Fun K "counts_of" "counts_of" (top 14) f fd) (T : Txt mg)  : FnOk P w K mg base CX0 1 f fd ["assignment", "variants"] (spD fCnt) := by
  have nd := sc_counts_of.nd
  refine ok_d F sc_counts_of (fun ds d h => ?_) fun cdv A outer s H0 E hr => ⟨_, (pss_one (ps_ret (pe_callTy (callk_tupF (K := K) rfl) (by rfl) T.tuple PyProof.Rows.boot_tuple (pa_cons (pe_lc (own := [("variant", 2)]) (g := (gName 2)) (tt := tYes) rfl nd (pi_range1 (by rfl) T.range (pa_cons (pv 1) pa_nil)) (blkOk_by (N := N_counts_of) (sc := defScope (top 14)) (by decide +kernel)) (fun _ _ _ _ _ => (pg_name (i := 2) nd rfl (Or.inl rfl))) (fun _ _ _ _ _ => pts_nil) (fun _ _ _ _ _ => (pe_cntT (pv 0) (pa_cons (pv 2) pa_nil)))) pa_nil)))), fun ds d vs H h hd => ?_⟩
  · obtain ⟨ns, V, rfl, _⟩ := h; rfl
  · skip
    obtain ⟨ns, V, rfl, hz, rfl⟩ := h
    obtain ⟨v0, v1, rfl, d0, d1⟩ := hd.two
    refine rt_ret ((ev_tupL (evl_lc (n := V) (fun i => some (.int ((ns.count (i : Int) : Nat) : Int))) (evi_rng (eva_cons (ev_var rfl d1) eva_nil) (by simp) (by omega)) (by rw [sizeLine_eq]; omega) fun i x H' hi s' yd => ?_)).eq (by rw [cnt_eq]))
    obtain rfl := yd
    exact ⟨_, gt_name, rfl, true, evt_yes, fun _ => ⟨_, rfl, ev_cnt (ev_var rfl (d0.s s')) (ev_var rfl (.int _))⟩, tt_⟩
abbrev N__law_shares : List Str := ["_law_assignment", "_law_variants", "_law_variant"]
theorem sc__law_shares : FnScope N__law_shares ["_law_assignment", "_law_variants"] (defScope (top 48)) := ⟨rfl, rfl, rfl, by decide +kernel, rfl, by decide +kernel, by decide +kernel⟩
theorem ok__law_shares {f : Addr} {fd : FuncData} (F : Fun K "_law_shares" "_law_shares" (top 48) f fd) (T : Txt mg)  : FnOk P w K mg base CX0 1 f fd ["_law_assignment", "_law_variants"] (spD fCnt) := by
  have nd := sc__law_shares.nd
  refine ok_d F sc__law_shares (fun ds d h => ?_) fun cdv A outer s H0 E hr => ⟨_, (pss_one (ps_ret (pe_callTy (callk_tupF (K := K) rfl) (by rfl) T.tuple PyProof.Rows.boot_tuple (pa_cons (pe_lc (own := [("_law_variant", 2)]) (g := (gName 2)) (tt := tYes) rfl nd (pi_range1 (by rfl) T.range (pa_cons (pv 1) pa_nil)) (blkOk_by (N := N__law_shares) (sc := defScope (top 48)) (by decide +kernel)) (fun _ _ _ _ _ => (pg_name (i := 2) nd rfl (Or.inl rfl))) (fun _ _ _ _ _ => pts_nil) (fun _ _ _ _ _ => (pe_cntT (pv 0) (pa_cons (pv 2) pa_nil)))) pa_nil)))), fun ds d vs H h hd => ?_⟩
  · obtain ⟨ns, V, rfl, _⟩ := h; rfl
  · skip
    obtain ⟨ns, V, rfl, hz, rfl⟩ := h
    obtain ⟨v0, v1, rfl, d0, d1⟩ := hd.two
    refine rt_ret ((ev_tupL (evl_lc (n := V) (fun i => some (.int ((ns.count (i : Int) : Nat) : Int))) (evi_rng (eva_cons (ev_var rfl d1) eva_nil) (by simp) (by omega)) (by rw [sizeLine_eq]; omega) fun i x H' hi s' yd => ?_)).eq (by rw [cnt_eq]))
    obtain rfl := yd
    exact ⟨_, gt_name, rfl, true, evt_yes, fun _ => ⟨_, rfl, ev_cnt (ev_var rfl (d0.s s')) (ev_var rfl (.int _))⟩, tt_⟩
abbrev N_allocation_of : List Str := ["assignment", "variants"]
theorem sc_allocation_of : FnScope N_allocation_of ["assignment", "variants"] (defScope (top 15)) := ⟨rfl, rfl, rfl, by decide +kernel, rfl, by decide +kernel, by decide +kernel⟩
theorem ok_allocation_of {f : Addr} {fd : FuncData} (F : Fun K "allocation_of" "allocation_of" (top 15) f fd) (T : Txt mg) (G_check_assignment : Has P w K mg base 4 "check_assignment" ["value", "variants", "name"] (spD fCkA)) (G_check_variants : Has P w K mg base 4 "check_variants" ["variants", "assignments"] spCV) (G_counts_of : Has P w K mg base 1 "counts_of" ["assignment", "variants"] (spD fCnt)) : FnOk P w K mg base CX0 5 f fd ["assignment", "variants"] (spD fAlOf) := by
  have nd := sc_allocation_of.nd
  refine ok_d F sc_allocation_of (fun ds d h => ?_) fun cdv A outer s H0 E hr => ⟨_, (pss_cons (ps_expr (pe_has G_check_assignment hr (by decide) (pa_cons (pv 0) (pa_cons (pe_num T.mva) (pa_cons pe_str pa_nil))))) (pss_cons (ps_expr (pe_has G_check_variants hr (by decide) (pa_cons (pv 1) (pa_cons (pe_lst (pa_cons (pv 0) pa_nil)) pa_nil)))) (pss_one (ps_ret (pe_has G_counts_of hr (by decide) (pa_cons (pv 0) (pa_cons (pv 1) pa_nil))))))), fun ds d vs H h hd => ?_⟩
  · obtain ⟨ns, V, N, rfl, _⟩ := h; rfl
  · skip
    obtain ⟨ns, V, N, rfl, ha, hz, rfl⟩ := h
    obtain ⟨v0, v1, rfl, d0, d1⟩ := hd.two
    refine rt_drop (ev_call (eva_cons (ev_var rfl d0) (eva_cons ev_int (eva_cons ev_str eva_nil))) ⟨ns, 5, N, _, rfl, ⟨ha.1, fun n hn => ?_⟩, hz.2.2, rfl⟩) (rt_drop (ev_cv (ev_var rfl d1) (ev_var rfl d0) ha hz) (rt_ret (ev_call (eva_cons (ev_var rfl d0) (eva_cons (ev_var rfl d1) eva_nil)) ⟨ns, V, rfl, ?_, rfl⟩)))
    · have h1 := ha.2 n hn
      have h2 := hz.2.1
      omega
    · have h2 := hz.2.1
      omega
abbrev N_is_integer : List Str := ["value"]
theorem sc_is_integer : FnScope N_is_integer ["value"] (defScope (top 17)) := ⟨rfl, rfl, rfl, by decide +kernel, rfl, by decide +kernel, by decide +kernel⟩
theorem ok_is_integer {f : Addr} {fd : FuncData} (F : Fun K "is_integer" "is_integer" (top 17) f fd) (T : Txt mg)  : FnOk P w K mg base CX0 1 f fd ["value"] (spD fIsInt) := by
  have nd := sc_is_integer.nd
  refine ok_d F sc_is_integer (fun ds d h => ?_) fun cdv A outer s H0 E hr => ⟨_, (pss_one (ps_ret (pe_and (pek_isi (K := K) rfl T.isi T.int PyProof.Rows.boot_int (pv 0)) (pe_one (pe_not (pek_isi (K := K) rfl T.isi T.bool PyProof.Rows.boot_bool (pv 0))))))), fun ds d vs H h hd => ?_⟩
  · obtain ⟨e, rfl, _⟩ := h; rfl
  · skip
    obtain ⟨e, rfl, rfl⟩ := h
    obtain ⟨v, rfl, hv⟩ := hd.one
    exact rt_ret ((ev_and (ev_isInt (ev_var rfl hv)) fun _ => ev_not (ev_isBool (ev_var rfl hv))).eq (by cases e <;> rfl))
abbrev N_is_pair : List Str := ["value", "variants", "buckets"]
theorem sc_is_pair : FnScope N_is_pair ["value", "variants", "buckets"] (defScope (top 29)) := ⟨rfl, rfl, rfl, by decide +kernel, rfl, by decide +kernel, by decide +kernel⟩
theorem ok_is_pair {f : Addr} {fd : FuncData} (F : Fun K "is_pair" "is_pair" (top 29) f fd) (T : Txt mg) (G_allocation_of : Has P w K mg base 5 "allocation_of" ["assignment", "variants"] (spD fAlOf)) (G_is_allocation : Has P w K mg base 2 "is_allocation" ["value", "variants", "buckets"] (spD fAlloc)) (G_is_assignment : Has P w K mg base 3 "is_assignment" ["value", "variants", "buckets"] (spD fAsg)) : FnOk P w K mg base CX0 6 f fd ["value", "variants", "buckets"] (spD fPair) := by
  have nd := sc_is_pair.nd
  refine ok_d F sc_is_pair (fun ds d h => ?_) fun cdv A outer s H0 E hr => ⟨_, (pss_cons (ps_if (PW.pt (pw_or (pt_not (pt_val (pek_isi (K := K) rfl T.isi T.tuple PyProof.Rows.boot_tuple (pv 0)))) (pw_or1 (pt_cmpR op_ne (pe_callB (call_lenk (K := K) rfl) (by rfl) T.len PySem.boot_len (pa_cons (pv 0) pa_nil)) pe_int (nomark _))))) (pss_one (ps_ret pe_bl)) pss_nil) (pss_cons (ps_if (PW.pt (pw_or (pt_not (pt_val (pe_has G_is_allocation hr (by decide) (pa_cons (pe_ix (ixk_tup (K := K) rfl) (pv 0) pe_int (fun _ _ => rfl)) (pa_cons (pv 1) (pa_cons (pv 2) pa_nil)))))) (pw_or1 (pt_not (pt_val (pe_has G_is_assignment hr (by decide) (pa_cons (pe_ix (ixk_tup (K := K) rfl) (pv 0) pe_int (fun _ _ => rfl)) (pa_cons (pv 1) (pa_cons (pv 2) pa_nil))))))))) (pss_one (ps_ret pe_bl)) pss_nil) (pss_one (ps_ret (pe_cmpR (opk_eqD (K := K) rfl hr.units) (pe_has G_allocation_of hr (by decide) (pa_cons (pe_ix (ixk_tup (K := K) rfl) (pv 0) pe_int (fun _ _ => rfl)) (pa_cons (pv 1) pa_nil))) (pe_ix (ixk_tup (K := K) rfl) (pv 0) pe_int (fun _ _ => rfl)) (nomark _)))))), fun ds d vs H h hd => ?_⟩
  · obtain ⟨p, V, N, rfl, _⟩ := h; rfl
  · skip
    obtain ⟨p, V, N, rfl, ⟨hp1, hp2, hp3⟩, hz, rfl⟩ := h
    obtain ⟨v0, v1, v2, rfl, d0, d1, d2⟩ := hd.three
    have h5 := hz.2.1
    refine rt_sif (b := false) ((evt_or (evt_not (evt_b (ev_isTup (ev_var rfl d0)))) fun _ => evt_t (ev_neI (ev_len (ev_var rfl d0)) ev_int)).eq rfl) ff fun _ => ?_
    refine rt_sif (b := false) ((evt_or (evt_not (evt_b (ev_call (eva_cons (ev_ixc (n := 0) (ev_var rfl d0) ev_int rfl rfl) (eva_cons (ev_var rfl d1) (eva_cons (ev_var rfl d2) eva_nil))) ⟨p.1, V, N, rfl, hp1, by omega, rfl⟩))) fun _ => evt_not (evt_b (ev_call (eva_cons (ev_ixc (n := 1) (ev_var rfl d0) ev_int rfl rfl) (eva_cons (ev_var rfl d1) (eva_cons (ev_var rfl d2) eva_nil))) ⟨p.2, V, N, rfl, hp2, hz.2.2, rfl⟩))).eq rfl) ff fun _ => ?_
    refine rt_ret ((ev_eqD (ev_call (eva_cons (ev_ixc (n := 1) (ev_var rfl d0) ev_int rfl rfl) (eva_cons (ev_var rfl d1) eva_nil)) ⟨p.2, V, N, rfl, hp2, hz, rfl⟩) (ev_ixc (n := 0) (ev_var rfl d0) ev_int rfl rfl) (tI_shaped _) (tI_shaped _)).eq ?_)
    rw [eqv_tI, hp3]
    simp
abbrev N_check_sizes : List Str := ["variants", "buckets"]
theorem sc_check_sizes : FnScope N_check_sizes ["variants", "buckets"] (defScope (top 30)) := ⟨rfl, rfl, rfl, by decide +kernel, rfl, by decide +kernel, by decide +kernel⟩
theorem ok_check_sizes {f : Addr} {fd : FuncData} (F : Fun K "check_sizes" "check_sizes" (top 30) f fd) (T : Txt mg) (G_is_between : Has P w K mg base 2 "is_between" ["value", "low", "high"] spBtw) : FnOk P w K mg base CX0 3 f fd ["variants", "buckets"] (spD fSizes) := by
  have nd := sc_check_sizes.nd
  refine ok_n F sc_check_sizes (fun ds d h => ?_) fun cdv A outer s H0 E hr => ⟨_, (pss_cons (ps_if (pt_not (pt_val (pe_has G_is_between hr (by decide) (pa_cons (pv 0) (pa_cons pe_int (pa_cons (pe_num T.mvr) pa_nil)))))) pss_never pss_nil) (pss_one (ps_if (pt_not (pt_val (pe_has G_is_between hr (by decide) (pa_cons (pv 1) (pa_cons pe_int (pa_cons (pe_num T.mbr) pa_nil)))))) pss_never pss_nil))), fun ds d vs H h hd => ?_⟩
  · obtain ⟨V, N, rfl, _⟩ := h; rfl
  · skip
    obtain ⟨V, N, rfl, ⟨h1, h5, h20⟩, rfl⟩ := h
    obtain ⟨v0, v1, rfl, d0, d1⟩ := hd.two
    refine ⟨rfl, rn_sif ((evt_not (evt_b (ev_btw (eva_cons (ev_var rfl d0) (eva_cons ev_int (eva_cons ev_int eva_nil)))))).eq ?_) (rn_if ((evt_not (evt_b (ev_btw (eva_cons (ev_var rfl d1) (eva_cons ev_int (eva_cons ev_int eva_nil)))))).eq ?_))⟩
    · simp only [isBtw, Bool.not_eq_false', Bool.and_eq_true, decide_eq_true_eq]
      omega
    · simp only [isBtw, Bool.not_eq_false', Bool.and_eq_true, decide_eq_true_eq]
      omega
end
end K60
/-! The length of a dict by a comprehension; small facts. -/
namespace K60
open PySem L2
section
variable {P : Program} {w : World} {K : PySem.W.Frag} {σ : L2.St} {H : Hp}
theorem keys_kV (ns : List Int) : (ns.map (Sum.inl : Int → Key)).map kV = ns.map V.int := by
  rw [List.map_map]; rfl
theorem inl_inj : ∀ {ns ms : List Int}, ns.map (Sum.inl : Int → Key) = ms.map Sum.inl → ns = ms
  | [], [], _ => rfl
  | [], _ :: _, h => by simp at h
  | _ :: _, [], h => by simp at h
  | n :: ns, m :: ms, h => by
    rw [List.map_cons, List.map_cons] at h
    injection h with h1 h2
    injection h1 with h1
    rw [h1, inl_inj h2]
theorem ev_lenDc {tl tk tv : TE} {j : Nat} {r : List (List Int × List Int)} (hl : Ev tl σ H (tR r)) (hn : (r.map (·.1)).Nodup) (hz : r.length ≤ 100) (hw : ∀ x, wipe ((wipe σ [j]).set j (some x)) [j] = wipe σ [j])
    (hk : ∀ x p H', Dt H' x (tP p) → Ev tk ((wipe σ [j]).set j (some x)) H' (tI p.1)) (hv : ∀ x H', Ev tv ((wipe σ [j]).set j (some x)) H' (.bool true)) :
    Ev (tCB (rLenD P w) (tCons (tDcG (dO P w []) (PutD P w) (iTup K tl) (gName j) tYes tk tv [j]) tNil)) σ H (.int r.length) := fun H1 Q s q =>
  hl H1 _ s fun x H2 s2 hx => by
    obtain ⟨a, xs, rfl, hxs, hd⟩ := hx.t
    have hlen : xs.length = r.length := by rw [hd.len, List.length_map]
    refine ⟨a, rfl, ⟨xs, hxs.q⟩, fun D hD => ?_⟩
    refine ⟨fun i m H' => m = r.length - i ∧ i ≤ r.length ∧ Same H2 H' ∧ ∃ kas, H' D = some (dO P w kas D) ∧ (∀ p ∈ kas, Tu H' p.2 (p.1.map kV)) ∧ kas.map (·.1) = (r.take i).map fun p => p.1.map Sum.inl,
      ⟨_, rfl, Nat.zero_le _, same_new hD, [], upd_same, fun p hp => (by cases hp), by simp⟩, ?_⟩
    rintro i m H' ⟨rfl, hi, s3, kas, hDk, hka, hke⟩
    have hkl : kas.length = i := by
      have := congrArg List.length hke
      simp only [List.length_map, List.length_take] at this
      omega
    by_cases hlt : i < r.length
    · obtain ⟨p, hp⟩ : ∃ p, r[i]? = some p := ⟨r[i], by simp [hlt]⟩
      refine .inr ⟨⟨xs, xs[i]'(by omega), (hxs.s s3).q, by simp [hlen, hlt]⟩, fun H4 => ∃ m', m' = r.length - (i + 1) ∧ i + 1 ≤ r.length ∧ Same H2 H4 ∧ ∃ kas, H4 D = some (dO P w kas D) ∧ (∀ p ∈ kas, Tu H4 p.2 (p.1.map kV)) ∧ kas.map (·.1) = (r.take (i + 1)).map fun p => p.1.map Sum.inl,
        fun H4 ⟨m', h⟩ => ⟨m', by rw [h.1]; omega, h⟩, fun x H4 hy => ?_⟩
      obtain ⟨rfl, hy⟩ := hy
      have hy := hy xs (hxs.s s3).q
      obtain ⟨d, e1, e2⟩ := (hd.s s3).of hy
      rw [List.getElem?_map, hp] at e1
      cases e1
      refine ⟨hw x, evt_yes.go (H := H4) fun H4' s4 => iteT ?_⟩
      refine (hk x p H4' (e2.s s4)).go fun y H5 s5 hy5 => (hv x H5).go fun z H6 s6 hz6 => ?_
      obtain ⟨b, rfl, hb⟩ := (hy5.s s6).tI_
      have s46 : Same H4 H6 := (s4.trans s5).trans s6
      have hD6 := s46 _ _ hDk
      have kk : KpT H6 (upd H6 D (dO P w (kas ++ [(p.1.map Sum.inl, b)]) D)) := KpT.at hD6 fun u xs z => by cases z
      refine ⟨_, ⟨kas, p.1.map Sum.inl, b, hD6, rfl, by rw [keys_kV]; exact hb, fun q hq => (hka q hq).s s46, by rw [sizeLine_eq]; omega, ?_, rfl⟩, _, rfl, hlt, ?_, _, upd_same, fun q hq => ?_, ?_⟩
      · rw [hke]
        intro hm
        obtain ⟨p', hp', e⟩ := List.mem_map.mp hm
        have e' := inl_inj e
        rw [List.mem_take_iff_getElem] at hp'
        obtain ⟨j', hj', ej⟩ := hp'
        have hj2 : j' < i := by omega
        have hj3 : j' < r.length := by omega
        rw [List.nodup_iff_pairwise_ne, List.pairwise_iff_getElem] at hn
        have := hn j' i (by simp; omega) (by simp; omega) hj2
        simp only [List.getElem_map] at this
        apply this
        have hpi : r[i] = p := by
          have := List.getElem?_eq_getElem hlt
          rw [hp] at this
          exact (Option.some.inj this).symm
        rw [ej, hpi]
        exact e'
      · intro c o e
        rw [upd_ne (ne_of_none e hD)]
        exact s46 _ _ (s3 _ _ e)
      · rcases List.mem_append.mp hq with hq | hq
        · exact ((hka q hq).s s46).k kk
        · rw [List.mem_singleton.mp hq]
          show Tu _ b ((p.1.map Sum.inl).map kV)
          rw [keys_kV]
          exact hb.k kk
      · rw [List.map_append, hke, List.take_add_one, hp]
        simp
    · have e : i = r.length := by omega
      subst e
      refine .inl ⟨⟨xs, (hxs.s s3).q, by omega⟩, ?_⟩
      refine ⟨D, kas, rfl, hDk, hka, by rw [sizeLine_eq]; omega, ?_⟩
      rw [hkl]
      exact q _ H' (s2.trans s3) (.int _)
theorem ev_ixN {ta tb : TE} {ns : List Int} {n : Nat} (ha : Ev ta σ H (tI ns)) (hb : Ev tb σ H (.int n)) (h : n < ns.length) : Ev (tOp (rIxT K) ta tb) σ H (.int (ns.getD n 0)) := by
  refine ev_ix (n := n) ha hb ?_
  simp [h]
end
theorem wipe1 {σ : L2.St} {j : Nat} {x : V} : wipe ((wipe σ [j]).set j (some x)) [j] = wipe σ [j] := by
  show (((σ.set j none).set j (some x)).set j none) = σ.set j none
  rw [List.set_set, List.set_set]
def goesF (p q : List Int × List Int) (b : Nat) : Bool := p.2.getD b 0 != 0 && (q.2.getD b 0 != p.2.getD b 0 && decide (p.1.getD (p.2.getD b 0).toNat 0 ≤ q.1.getD (p.2.getD b 0).toNat 0))
def okP (a : List Int) (b : Nat) (v : Int) (p : List Int × List Int) : Bool :=
  !(p.2.getD b 0 != 0 && (decide (p.1.getD (p.2.getD b 0).toNat 0 ≤ a.getD (p.2.getD b 0).toNat 0) && v != p.2.getD b 0)) && !(v != 0 && (decide (a.getD v.toNat 0 ≤ p.1.getD v.toNat 0) && v != p.2.getD b 0))
def allowedF (r : List (List Int × List Int)) (a : List Int) (b : Nat) (v : Int) : Bool := r.all (okP a b v)
def menusF (V N : Nat) (r : List (List Int × List Int)) (a : List Int) : List (List Int) := (List.range N).map fun b => ((List.range V).filter fun (v : Nat) => allowedF r a b (v : Int)).map fun (v : Nat) => (v : Int)
theorem getD_mem {ns : List Int} {n : Nat} (h : n < ns.length) : ns.getD n 0 ∈ ns := by
  have : ns.getD n 0 = ns[n] := by simp [h]
  rw [this]
  exact List.getElem_mem h
theorem Asg.at {V N : Nat} {ns : List Int} (h : Asg V N ns) {b : Nat} (hb : b < N) : 0 ≤ ns.getD b 0 ∧ ns.getD b 0 < V := h.2 _ (getD_mem (by rw [h.1]; exact hb))
theorem tR_at {r : List (List Int × List Int)} {i : Nat} {d : PyData} (h : (r.map tP)[i]? = some d) : ∃ p, r[i]? = some p ∧ d = tP p := by
  rw [List.getElem?_map] at h
  cases e : r[i]? with
  | none => rw [e] at h; cases h
  | some p => rw [e] at h; cases h; exact ⟨p, rfl, rfl⟩
end K60
namespace K60
open PySem L2

def fGoes (ds : List PyData) (d : PyData) : Prop := ∃ (p q : List Int × List Int) (b V N : Nat), ds = [tP p, tP q, .int b] ∧ VP V N p ∧ VP V N q ∧ b < N ∧ d = .bool (goesF p q b)
def fAllowed (ds : List PyData) (d : PyData) : Prop := ∃ (r : List (List Int × List Int)) (a : List Int) (b v V N : Nat), ds = [tR r, tI a, .int b, .int v] ∧ (∀ p ∈ r, VP V N p) ∧ r.length ≤ 100 ∧ Alc V N a ∧ b < N ∧ v < V ∧ d = .bool (allowedF r a b v)
def fMenus (ds : List PyData) (d : PyData) : Prop := ∃ (r : List (List Int × List Int)) (a : List Int) (V N : Nat), ds = [.int V, .int N, tR r, tI a] ∧ VR V N r ∧ Alc V N a ∧ Sz V N ∧ d = tM (menusF V N r a)
def gNeed (ds : List PyData) : Prop := ∃ (r : List (List Int × List Int)) (V N : Nat), ds = [.int N, tR r] ∧ VR V N r ∧ Sz V N
def rNeed (ds : List PyData) (d : PyData) : Prop := d = .none ∨ ∃ i j b : Nat, d = .tuple [.int i, .int j, .int b]
def gLeave (ds : List PyData) : Prop := ∃ (r : List (List Int × List Int)) (V N : Nat), ds = [tR r, .int N] ∧ (∀ p ∈ r, VP V N p) ∧ r.length ≤ 100 ∧ N ≤ 20
def rLeave (ds : List PyData) (d : PyData) : Prop := (∃ (r : List (List Int × List Int)) (N : Nat), ds = [tR r, .int N] ∧ d = .none ∧ ∀ (p q : List Int × List Int) (b : Nat), p ∈ r → q ∈ r → b < N → goesF p q b = false) ∨ ∃ i j b : Nat, d = .tuple [.int i, .int j, .int b]
section
variable {P : Program} {w : World} {K : PySem.W.Frag} {mg : Str → Option Value} {base : Heap}
abbrev N_are_pairs : List Str := ["value", "variants", "buckets", "pair"]
theorem sc_are_pairs : FnScope N_are_pairs ["value", "variants", "buckets"] (defScope (top 31)) := ⟨rfl, rfl, rfl, by decide +kernel, rfl, by decide +kernel, by decide +kernel⟩
theorem ok_are_pairs {f : Addr} {fd : FuncData} (F : Fun K "are_pairs" "are_pairs" (top 31) f fd) (T : Txt mg) (G_is_pair : Has P w K mg base 6 "is_pair" ["value", "variants", "buckets"] (spD fPair)) : FnOk P w K mg base CX0 7 f fd ["value", "variants", "buckets"] (spD fPairs) := by
  have nd := sc_are_pairs.nd
  refine ok_d F sc_are_pairs (fun ds d h => ?_) fun cdv A outer s H0 E hr => ⟨_, (pss_cons (ps_if (PW.pt (pw_or (pt_not (pt_val (pek_isi (K := K) rfl T.isi T.tuple PyProof.Rows.boot_tuple (pv 0)))) (pw_or1 (pt_cmpR op_gt (pe_callB (call_lenk (K := K) rfl) (by rfl) T.len PySem.boot_len (pa_cons (pv 0) pa_nil)) (pe_num T.mp) (nomark _))))) (pss_one (ps_ret pe_bl)) pss_nil) (pss_cons (ps_if (pt_not (pt_val (pe_callB (crk_all (K := K) rfl rfl) (by rfl) T.all PyProof.Rows.boot_all (pa_cons (pe_lc (own := [("pair", 3)]) (g := (gName 3)) (tt := tYes) rfl nd (pik_tup (K := K) rfl (pv 0)) (blkOk_by (N := N_are_pairs) (sc := defScope (top 31)) (by decide +kernel)) (fun _ _ _ _ _ => (pg_name (i := 3) nd rfl (Or.inl rfl))) (fun _ _ _ _ _ => pts_nil) (fun _ _ _ _ _ => (pe_has G_is_pair hr (by decide) (pa_cons (pv 3) (pa_cons (pv 1) (pa_cons (pv 2) pa_nil)))))) pa_nil)))) (pss_one (ps_ret pe_bl)) pss_nil) (pss_one (ps_ret (pe_cmpR op_eq (pe_callB call_len_dO (by rfl) T.len PySem.boot_len (pa_cons (pe_dcT hr.units0 (own := [("pair", 3)]) (g := (gName 3)) (tt := tYes) rfl nd (pik_tup (K := K) rfl (pv 0)) (blkOk_by (N := N_are_pairs) (sc := defScope (top 31)) (by decide +kernel)) (fun _ _ _ _ _ => (pg_name (i := 3) nd rfl (Or.inl rfl))) (fun _ _ _ _ _ => pts_nil) (fun _ _ _ _ _ => (pe_ix (ixk_tup (K := K) rfl) (pv 3) pe_int (fun _ _ => rfl))) (fun _ _ _ _ _ => pe_bl)) pa_nil)) (pe_callB (call_lenk (K := K) rfl) (by rfl) T.len PySem.boot_len (pa_cons (pv 0) pa_nil)) (nomark _)))))), fun ds d vs H h hd => ?_⟩
  · obtain ⟨r, V, N, rfl, _⟩ := h; rfl
  · skip
    obtain ⟨r, V, N, rfl, ⟨hp, hn, hz⟩, hs, rfl⟩ := h
    obtain ⟨v0, v1, v2, rfl, d0, d1, d2⟩ := hd.three
    refine rt_sif (b := false) ((evt_or (evt_not (evt_b (ev_isTup (ev_var rfl d0)))) fun _ => evt_t (ev_ib (g := fun i j => decide (j < i)) (ev_len (ev_var rfl d0)) ev_int)).eq ?_) ff fun _ => ?_
    · show (!true || decide ((20 : Int) < ((r.map tP).length : Int))) = false
      rw [List.length_map]
      simp; omega
    refine rt_sif (b := false) ((evt_not (evt_b (ev_all (evl_bs (f := fun _ => true) (evl_tup _ (ev_var rfl d0) (by rw [List.length_map, sizeLine_eq]; omega) (fun _ => rfl) fun d x H' hm s' hx => ⟨true, evt_yes, fun _ => ⟨_, rfl, ?_⟩, tt_⟩))))).eq ?_) ff fun _ => ?_
    · obtain ⟨p, hm2, rfl⟩ := List.mem_map.mp hm
      exact ev_call (eva_cons (ev_var rfl hx) (eva_cons (ev_var rfl (d1.s s')) (eva_cons (ev_var rfl (d2.s s')) eva_nil))) ⟨p, V, N, rfl, hp p hm2, hs, rfl⟩
    · rw [all_id]
      simp
    refine rt_ret ((ev_eqI (ev_lenDc (ev_var rfl d0) hn (by omega) (fun _ => rfl) (fun x p H' hx => ev_ixc (n := 0) (ev_var rfl hx) ev_int rfl rfl) fun x H' => ev_bl) (ev_len (ev_var rfl d0))).eq ?_)
    rw [List.length_map]
    simp
abbrev N_check_rule : List Str := ["variants", "buckets", "rule"]
theorem sc_check_rule : FnScope N_check_rule ["variants", "buckets", "rule"] (defScope (top 32)) := ⟨rfl, rfl, rfl, by decide +kernel, rfl, by decide +kernel, by decide +kernel⟩
theorem ok_check_rule {f : Addr} {fd : FuncData} (F : Fun K "check_rule" "check_rule" (top 32) f fd) (T : Txt mg) (G_check_sizes : Has P w K mg base 3 "check_sizes" ["variants", "buckets"] (spD fSizes)) (G_are_pairs : Has P w K mg base 7 "are_pairs" ["value", "variants", "buckets"] (spD fPairs)) : FnOk P w K mg base CX0 8 f fd ["variants", "buckets", "rule"] (spD fCkR) := by
  have nd := sc_check_rule.nd
  refine ok_n F sc_check_rule (fun ds d h => ?_) fun cdv A outer s H0 E hr => ⟨_, (pss_cons (ps_expr (pe_has G_check_sizes hr (by decide) (pa_cons (pv 0) (pa_cons (pv 1) pa_nil)))) (pss_one (ps_if (pt_not (pt_val (pe_has G_are_pairs hr (by decide) (pa_cons (pv 2) (pa_cons (pv 0) (pa_cons (pv 1) pa_nil)))))) pss_never pss_nil))), fun ds d vs H h hd => ?_⟩
  · obtain ⟨r, V, N, rfl, _⟩ := h; rfl
  · skip
    obtain ⟨r, V, N, rfl, hr1, hs, rfl⟩ := h
    obtain ⟨v0, v1, v2, rfl, d0, d1, d2⟩ := hd.three
    exact ⟨rfl, rn_drop (ev_call (eva_cons (ev_var rfl d0) (eva_cons (ev_var rfl d1) eva_nil)) ⟨V, N, rfl, hs, rfl⟩) (rn_if ((evt_not (evt_b (ev_call (eva_cons (ev_var rfl d2) (eva_cons (ev_var rfl d0) (eva_cons (ev_var rfl d1) eva_nil))) ⟨r, V, N, rfl, hr1, hs, rfl⟩))).eq rfl))⟩
abbrev N_goes_needlessly : List Str := ["one", "other", "bucket", "variant"]
theorem sc_goes_needlessly : FnScope N_goes_needlessly ["one", "other", "bucket"] (defScope (top 33)) := ⟨rfl, rfl, rfl, by decide +kernel, rfl, by decide +kernel, by decide +kernel⟩
theorem ok_goes_needlessly {f : Addr} {fd : FuncData} (F : Fun K "goes_needlessly" "goes_needlessly" (top 33) f fd) (T : Txt mg)  : FnOk P w K mg base CX0 1 f fd ["one", "other", "bucket"] (spD fGoes) := by
  have nd := sc_goes_needlessly.nd
  refine ok_d F sc_goes_needlessly (fun ds d h => ?_) fun cdv A outer s H0 E hr => ⟨_, (pss_cons (ps_set (i := 3) nd rfl (Or.inl rfl) (pe_ix (ixk_tup (K := K) rfl) (pe_ix (ixk_tup (K := K) rfl) (pv 0) pe_int (fun _ _ => rfl)) (pv 2) (fun _ _ => rfl))) (pss_one (ps_ret (pe_and (pe_cmpR op_ne (pv 3) pe_int (nomark _)) (pe_and (pe_cmpR op_ne (pe_ix (ixk_tup (K := K) rfl) (pe_ix (ixk_tup (K := K) rfl) (pv 1) pe_int (fun _ _ => rfl)) (pv 2) (fun _ _ => rfl)) (pv 3) (nomark _)) (pe_one (pe_cmpR op_ge (pe_ix (ixk_tup (K := K) rfl) (pe_ix (ixk_tup (K := K) rfl) (pv 1) pe_int (fun _ _ => rfl)) (pv 3) (fun _ _ => rfl)) (pe_ix (ixk_tup (K := K) rfl) (pe_ix (ixk_tup (K := K) rfl) (pv 0) pe_int (fun _ _ => rfl)) (pv 3) (fun _ _ => rfl)) (nomark _)))))))), fun ds d vs H h hd => ?_⟩
  · obtain ⟨p, q, b, V, N, rfl, _⟩ := h; rfl
  · skip
    obtain ⟨p, q, b, V, N, rfl, ⟨p1, p2, _⟩, ⟨q1, q2, _⟩, hb, rfl⟩ := h
    obtain ⟨v0, v1, v2, rfl, d0, d1, d2⟩ := hd.three
    have hv := p2.at hb
    refine rt_set (ev_ixN (ev_ixc (n := 1) (ev_var rfl d0) ev_int rfl rfl) (ev_var rfl d2) (by rw [p2.1]; exact hb)) fun v H' s' dv => ?_
    refine rt_ret ((ev_and (ev_neI (ev_var rfl dv) ev_int) fun _ => ev_and (ev_neI (ev_ixN (ev_ixc (n := 1) (ev_var rfl (d1.s s')) ev_int rfl rfl) (ev_var rfl (d2.s s')) (by rw [q2.1]; exact hb)) (ev_var rfl dv)) fun _ => ev_ib (g := fun i j => decide (j ≤ i)) (ev_ixI (ev_ixc (n := 0) (ev_var rfl (d1.s s')) ev_int rfl rfl) (ev_var rfl dv) hv.1 (by rw [q1.1]; exact hv.2)) (ev_ixI (ev_ixc (n := 0) (ev_var rfl (d0.s s')) ev_int rfl rfl) (ev_var rfl dv) hv.1 (by rw [p1.1]; exact hv.2))).eq rfl)
abbrev N__law_goes : List Str := ["_law_one", "_law_other", "_law_bucket", "_law_variant"]
theorem sc__law_goes : FnScope N__law_goes ["_law_one", "_law_other", "_law_bucket"] (defScope (top 55)) := ⟨rfl, rfl, rfl, by decide +kernel, rfl, by decide +kernel, by decide +kernel⟩
theorem ok__law_goes {f : Addr} {fd : FuncData} (F : Fun K "_law_goes" "_law_goes" (top 55) f fd) (T : Txt mg)  : FnOk P w K mg base CX0 1 f fd ["_law_one", "_law_other", "_law_bucket"] (spD fGoes) := by
  have nd := sc__law_goes.nd
  refine ok_d F sc__law_goes (fun ds d h => ?_) fun cdv A outer s H0 E hr => ⟨_, (pss_cons (ps_set (i := 3) nd rfl (Or.inl rfl) (pe_ix (ixk_tup (K := K) rfl) (pe_ix (ixk_tup (K := K) rfl) (pv 0) pe_int (fun _ _ => rfl)) (pv 2) (fun _ _ => rfl))) (pss_one (ps_ret (pe_and (pe_cmpR op_gt (pv 3) pe_int (nomark _)) (pe_and (pe_cmpR op_ne (pe_ix (ixk_tup (K := K) rfl) (pe_ix (ixk_tup (K := K) rfl) (pv 1) pe_int (fun _ _ => rfl)) (pv 2) (fun _ _ => rfl)) (pv 3) (nomark _)) (pe_one (pe_cmpR op_ge (pe_ix (ixk_tup (K := K) rfl) (pe_ix (ixk_tup (K := K) rfl) (pv 1) pe_int (fun _ _ => rfl)) (pv 3) (fun _ _ => rfl)) (pe_ix (ixk_tup (K := K) rfl) (pe_ix (ixk_tup (K := K) rfl) (pv 0) pe_int (fun _ _ => rfl)) (pv 3) (fun _ _ => rfl)) (nomark _)))))))), fun ds d vs H h hd => ?_⟩
  · obtain ⟨p, q, b, V, N, rfl, _⟩ := h; rfl
  · skip
    obtain ⟨p, q, b, V, N, rfl, ⟨p1, p2, _⟩, ⟨q1, q2, _⟩, hb, rfl⟩ := h
    obtain ⟨v0, v1, v2, rfl, d0, d1, d2⟩ := hd.three
    have hv := p2.at hb
    refine rt_set (ev_ixN (ev_ixc (n := 1) (ev_var rfl d0) ev_int rfl rfl) (ev_var rfl d2) (by rw [p2.1]; exact hb)) fun v H' s' dv => ?_
    refine rt_ret ((ev_and (ev_ib (g := fun i j => decide (j < i)) (ev_var rfl dv) ev_int) fun _ => ev_and (ev_neI (ev_ixN (ev_ixc (n := 1) (ev_var rfl (d1.s s')) ev_int rfl rfl) (ev_var rfl (d2.s s')) (by rw [q2.1]; exact hb)) (ev_var rfl dv)) fun _ => ev_ib (g := fun i j => decide (j ≤ i)) (ev_ixI (ev_ixc (n := 0) (ev_var rfl (d1.s s')) ev_int rfl rfl) (ev_var rfl dv) hv.1 (by rw [q1.1]; exact hv.2)) (ev_ixI (ev_ixc (n := 0) (ev_var rfl (d0.s s')) ev_int rfl rfl) (ev_var rfl dv) hv.1 (by rw [p1.1]; exact hv.2))).eq ?_)
    unfold goesF
    have e : decide (0 < p.2.getD b 0) = (p.2.getD b 0 != 0) := by
      rw [Bool.eq_iff_iff]
      simp only [decide_eq_true_eq, bne_iff_ne, ne_eq]
      omega
    rw [e]
abbrev N_check_all : List Str := ["variants", "buckets", "rule", "allocation"]
theorem sc_check_all : FnScope N_check_all ["variants", "buckets", "rule", "allocation"] (defScope (top 36)) := ⟨rfl, rfl, rfl, by decide +kernel, rfl, by decide +kernel, by decide +kernel⟩
theorem ok_check_all {f : Addr} {fd : FuncData} (F : Fun K "check_all" "check_all" (top 36) f fd) (T : Txt mg) (G_check_rule : Has P w K mg base 8 "check_rule" ["variants", "buckets", "rule"] (spD fCkR)) (G_is_allocation : Has P w K mg base 2 "is_allocation" ["value", "variants", "buckets"] (spD fAlloc)) : FnOk P w K mg base CX0 9 f fd ["variants", "buckets", "rule", "allocation"] (spD fCkAll) := by
  have nd := sc_check_all.nd
  refine ok_n F sc_check_all (fun ds d h => ?_) fun cdv A outer s H0 E hr => ⟨_, (pss_cons (ps_expr (pe_has G_check_rule hr (by decide) (pa_cons (pv 0) (pa_cons (pv 1) (pa_cons (pv 2) pa_nil))))) (pss_one (ps_if (pt_not (pt_val (pe_has G_is_allocation hr (by decide) (pa_cons (pv 3) (pa_cons (pv 0) (pa_cons (pv 1) pa_nil)))))) pss_never pss_nil))), fun ds d vs H h hd => ?_⟩
  · obtain ⟨r, a, V, N, rfl, _⟩ := h; rfl
  · skip
    obtain ⟨r, a, V, N, rfl, hr1, ha, hs, rfl⟩ := h
    obtain ⟨v0, v1, v2, v3, rfl, d0, d1, d2, d3⟩ := hd.four
    have h5 := hs.2.1
    exact ⟨rfl, rn_drop (ev_call (eva_cons (ev_var rfl d0) (eva_cons (ev_var rfl d1) (eva_cons (ev_var rfl d2) eva_nil))) ⟨r, V, N, rfl, hr1, hs, rfl⟩) (rn_if ((evt_not (evt_b (ev_call (eva_cons (ev_var rfl d3) (eva_cons (ev_var rfl d0) (eva_cons (ev_var rfl d1) eva_nil))) ⟨a, V, N, rfl, ha, by omega, rfl⟩))).eq rfl))⟩
abbrev N_is_allowed : List Str := ["rule", "allocation", "bucket", "variant", "shares", "assignment", "old"]
theorem sc_is_allowed : FnScope N_is_allowed ["rule", "allocation", "bucket", "variant"] (defScope (top 37)) := ⟨rfl, rfl, rfl, by decide +kernel, rfl, by decide +kernel, by decide +kernel⟩
theorem ok_is_allowed {f : Addr} {fd : FuncData} (F : Fun K "is_allowed" "is_allowed" (top 37) f fd) (T : Txt mg)  : FnOk P w K mg base CX0 1 f fd ["rule", "allocation", "bucket", "variant"] (spD fAllowed) := by
  have nd := sc_is_allowed.nd
  refine ok_d F sc_is_allowed (fun ds d h => ?_) fun cdv A outer s H0 E hr => ⟨_, (pss_cons (ps_for PassesOwn.never rfl (pik_tup (K := K) rfl (pv 0)) (pgk_tup (K := K) rfl rfl (pgs_cons (pg_name (i := 4) nd rfl (Or.inl rfl)) (pgs_cons (pg_name (i := 5) nd rfl (Or.inl rfl)) pgs_nil))) (pss_cons (ps_set (i := 6) nd rfl (Or.inl rfl) (pe_ix (ixk_tup (K := K) rfl) (pv 5) (pv 2) (fun _ _ => rfl))) (pss_cons (ps_if (PW.pt (pw_and (pt_cmpR op_ne (pv 6) pe_int (nomark _)) (pw_and (pt_cmpR op_le (pe_ix (ixk_tup (K := K) rfl) (pv 4) (pv 6) (fun _ _ => rfl)) (pe_ix (ixk_tup (K := K) rfl) (pv 1) (pv 6) (fun _ _ => rfl)) (nomark _)) (pw_and1 (pt_cmpR op_ne (pv 3) (pv 6) (nomark _)))))) (pss_one (ps_ret pe_bl)) pss_nil) (pss_one (ps_if (PW.pt (pw_and (pt_cmpR op_ne (pv 3) pe_int (nomark _)) (pw_and (pt_cmpR op_ge (pe_ix (ixk_tup (K := K) rfl) (pv 4) (pv 3) (fun _ _ => rfl)) (pe_ix (ixk_tup (K := K) rfl) (pv 1) (pv 3) (fun _ _ => rfl)) (nomark _)) (pw_and1 (pt_cmpR op_ne (pv 3) (pv 6) (nomark _)))))) (pss_one (ps_ret pe_bl)) pss_nil))))) (pss_one (ps_ret pe_bl))), fun ds d vs H h hd => ?_⟩
  · obtain ⟨r, a, b, v, V, N, rfl, _⟩ := h; rfl
  · skip
    obtain ⟨r, a, b, v, V, N, rfl, hp, hz, ha, hb, hv, rfl⟩ := h
    obtain ⟨v0, v1, v2, v3, rfl, d0, d1, d2, d3⟩ := hd.four
    refine RtR.rt (rr_for (fun i σ' => (∃ x4 x5 x6, σ' = [some v0, some v1, some v2, some v3, x4, x5, x6]) ∧ ∀ p ∈ r.take i, okP a b v p = true) (evi_tup (ev_var rfl d0)) ⟨⟨_, _, _, rfl⟩, fun p hp => by cases hp⟩ ?_ ?_)
    · rintro i x σ' H' hi s' ⟨d, e1, hx⟩ ⟨⟨x4, x5, x6, rfl⟩, hok⟩ D nx rt
      obtain ⟨p, hp1, rfl⟩ := tR_at e1
      have hpm : p ∈ r := List.mem_of_getElem? hp1
      obtain ⟨⟨p1, p1', _⟩, p2, _⟩ := hp p hpm
      obtain ⟨T, u, z, rfl, hT, hu, hw⟩ := hx.tP_
      have ho := p2.at hb
      have no : okP a b v p = false → PyData.bool false = .bool (allowedF r a b v) := fun e => by
        congr 1
        symm
        unfold allowedF
        rw [List.all_eq_false]
        exact ⟨p, hpm, by rw [e]; exact Bool.false_ne_true⟩
      refine gt_two hT.q _ (nx_set (ev_ixN (ev_var rfl hw) (ev_var rfl (d2.s s')) (by rw [p2.1]; exact hb)) fun w H2 s2 dw => ?_)
      refine nx_sif (evt_and (evt_t (ev_neI (ev_var rfl dw) ev_int)) fun _ => evt_and (evt_t (ev_ib (g := fun i j => decide (i ≤ j)) (ev_ixI (ev_var rfl (hu.s s2)) (ev_var rfl dw) ho.1 (by rw [p1]; exact ho.2)) (ev_ixI (ev_var rfl ((d1.s s').s s2)) (ev_var rfl dw) ho.1 (by rw [ha.1]; exact ho.2)))) fun _ => evt_t (ev_neI (ev_var rfl ((d3.s s').s s2)) (ev_var rfl dw))) (fun e H3 s3 => ?_) fun e H3 s3 => ?_
      · refine nx_ret ev_bl fun w' H4 s4 h4 => rt _ w' H4 (no ?_) ((s2.trans s3).trans s4) h4
        unfold okP
        rw [e]; rfl
      · have s23 := s2.trans s3
        refine nx_if (evt_and (evt_t (ev_neI (ev_var rfl ((d3.s s').s s23)) ev_int)) fun _ => evt_and (evt_t (ev_ib (g := fun i j => decide (j ≤ i)) (ev_ixN (ev_var rfl (hu.s s23)) (ev_var rfl ((d3.s s').s s23)) (by rw [p1]; exact hv)) (ev_ixN (ev_var rfl ((d1.s s').s s23)) (ev_var rfl ((d3.s s').s s23)) (by rw [ha.1]; exact hv)))) fun _ => evt_t (ev_neI (ev_var rfl ((d3.s s').s s23)) (ev_var rfl (dw.s s3)))) (fun e2 H4 s4 => ?_) fun e2 H4 s4 => ?_
        · refine nx_ret ev_bl fun w' H5 s5 h5 => rt _ w' H5 (no ?_) ((s23.trans s4).trans s5) h5
          unfold okP
          have e2' := e2
          simp only [Int.toNat_natCast]
          rw [e2', Bool.not_true, Bool.and_false]
        · refine nx _ H4 (s23.trans s4) ⟨⟨_, _, _, rfl⟩, fun p' hp' => ?_⟩
          rw [List.take_add_one, hp1] at hp'
          rcases List.mem_append.mp hp' with hp' | hp'
          · exact hok p' hp'
          · have : p' = p := by simpa using hp'
            subst this
            unfold okP
            simp only [Int.toNat_natCast]
            rw [e, e2]; rfl
    · rintro σ' H' s' ⟨⟨x4, x5, x6, rfl⟩, hok⟩
      refine rr_ret ev_bl ?_
      congr 1
      symm
      unfold allowedF
      rw [List.all_eq_true]
      intro p hp
      refine hok p ?_
      rw [List.length_map, List.take_length]
      exact hp
end
end K60
/-! Walks over items and combinations; the tally; the sequence of combinations. -/
namespace K60
open PySem L2
/-! ### combinations, in order -/
def choose : List Nat → Nat → List (List Nat)
  | _, 0 => [[]]
  | [], _ + 1 => []
  | x :: xs, k + 1 => (choose xs k).map (x :: ·) ++ choose xs (k + 1)
def stepOk (n : Nat) (seq : List (List Nat)) : Bool := (List.range seq.length).all fun j => match seq[j]? with
  | some ix => decide (nextC n ix = seq[j + 1]?)
  | none => true
theorem seq_by {n k : Nat} (h1 : (choose (List.range n) k)[0]? = some (List.range k)) (h2 : stepOk n (choose (List.range n) k) = true) (h3 : ((choose (List.range n) k).all fun ix => decide (ix.length ≤ 100) && ix.all fun j => decide (j < n)) = true) : SeqOk n k (choose (List.range n) k) := by
  refine ⟨h1, fun j ix e => ?_, fun ix hm => ?_⟩
  · have hj := (List.getElem?_eq_some_iff.mp e).1
    have := List.all_eq_true.mp h2 j (List.mem_range.mpr hj)
    rw [e] at this
    exact of_decide_eq_true this
  · have := List.all_eq_true.mp h3 ix hm
    rw [Bool.and_eq_true, List.all_eq_true] at this
    exact ⟨of_decide_eq_true this.1, fun j hj => of_decide_eq_true (this.2 j hj)⟩
theorem seq_ok {n k : Nat} (hn : n ≤ 3) (hk : k ≤ n) : SeqOk n k (choose (List.range n) k) := by
  have hn' : n = 0 ∨ n = 1 ∨ n = 2 ∨ n = 3 := by omega
  have hk' : k = 0 ∨ k = 1 ∨ k = 2 ∨ k = 3 := by omega
  rcases hn' with rfl | rfl | rfl | rfl <;> rcases hk' with rfl | rfl | rfl | rfl <;> first | omega | exact seq_by (by decide) (by decide) (by decide)
section
variable {K : PySem.W.Frag} {σ : L2.St} {H : Hp} {te t2 : TE}
def YdC (seq : List (List Nat)) (i : Nat) (H : Hp) (x : V) : Prop := ∃ ix, seq[i]? = some ix ∧ Dt H x (tI (ix.map fun (j : Nat) => (j : Int)))
theorem evi_cb {n k : Nat} {seq : List (List Nat)} (h1 : Ev te σ H (.int n)) (h2 : Ev t2 σ H (.int k)) (hn : n ≤ 50) (hk : k ≤ n) (S : SeqOk n k seq) : EvI (iCb te t2) σ H seq.length (YdC seq) := fun H1 R s q =>
  h1 H1 _ s fun x H2 s2 hx => ⟨n, hx.i, h2 H2 _ (s.trans s2) fun y H3 s3 hy => ⟨k, hy.i, hn, hk, seq, S, q _ H3 _ _ (s2.trans s3) walk_cb (fun _ _ => trivial) fun i H' v H'' hi s' hv => by
    obtain ⟨T, ix, e1, rfl, s4, hT⟩ := hv
    refine ⟨s4, ix, e1, .ofI ?_⟩
    rw [List.map_map]
    exact hT⟩⟩
/-! ### items of a dict -/
theorem items_fm (p : Int → Bool) : ∀ es : List (Int × Int), ((es.filter fun e => p e.1).map (·.2)).map PyData.int = es.filterMap fun (e : Int × Int) => if p e.1 then some (PyData.int e.2) else none
  | [] => rfl
  | e :: es => by
    rw [List.filter_cons, List.filterMap_cons]
    cases ep : p e.1 with
    | true => simp [items_fm p es]
    | false => simp [items_fm p es]
theorem evl_items {i a b : Nat} {q : Addr} {es : List (Int × Int)} {tt : TT} (p : Int → Bool) (hv : σ[i]? = some (some (.ref q))) (hq : H q = some (.dK (es.map fun e => ((Sum.inl e.1 : Key), V.int e.2)))) (hz : es.length ≤ 100000)
    (hw : ∀ x y, wipe (((wipe σ [a, b]).set a (some x)).set b (some y)) [a, b] = wipe σ [a, b]) (hwv : (wipe σ [a, b])[i]? = σ[i]?)
    (ht : ∀ x y H', EvT tt (((wipe σ [a, b]).set a (some (.int x))).set b (some (.int y))) H' (p x)) (hb : ∀ x y H', Ev te (((wipe σ [a, b]).set a (some (.int x))).set b (some (.int y))) H' (.int y)) :
    EvL (tLockE (tLc (iItems (tVar i)) (gTup K 2 (gCons (gName a) (gCons (gName b) gNil))) tt te [a, b])) σ H (((es.filter fun e => p e.1).map (·.2)).map PyData.int) := fun H1 Q s k => by
  have hq1 := s _ _ hq
  refine ⟨q, _, hq1, trivial, fun od => ⟨_, hv, q, od, _, rfl, upd_same, fun D hD => ?_⟩⟩
  have hDq : D ≠ q := fun z => by
    rw [z, upd_same] at hD
    cases hD
  refine lc_dt (n := es.length) (G := fun H => H q = some (.frz od (.dK (es.map fun e => ((Sum.inl e.1 : Key), V.int e.2))))) (Y := _) (by have := walk_items (d := q) (o := od) (kvs := es.map fun e => ((Sum.inl e.1 : Key), V.int e.2)); rw [List.length_map] at this; exact this)
    (fun j => (es[j]?).bind fun e => if p e.1 then some (.int e.2) else none) hD (by rw [sizeLine_eq]; omega) (fun H' s' => s' _ _ upd_same) (fun j H' y H'' _ _ hy => ?_) (fun j y H' H'' Nx Kp hj s' s'' hy kp nx => ?_) fun H' ys s' hD' r => ?_
  · obtain ⟨T, x, y, rfl, hT, rfl, _⟩ := hy
    exact same_new hT
  · obtain ⟨T, x, y, rfl, hT, rfl, e1, e2⟩ := hy
    have he : es[j]? = some es[j] := by simp [hj]
    have e1 : (((es.map fun e => ((Sum.inl e.1 : Key), V.int e.2))[j]?).map fun kv => kV kv.1) = some x := e1
    have e2 : (((es.map fun e => ((Sum.inl e.1 : Key), V.int e.2))[j]?).map Prod.snd) = some y := e2
    rw [List.getElem?_map, he] at e1 e2
    cases e1
    cases e2
    refine ⟨T, _, rfl, .inl (.inl upd_same), rfl, _, _, rfl, _, _, rfl, rfl, hw _ _, (ht _ _ _).go fun H3 s3 => ?_⟩
    cases ep : p es[j].1 with
    | true => exact iteT ((hb _ _ _).go fun v H4 s4 hv => kp v _ H4 (s3.trans s4) (by rw [he]; simp [ep]) hv)
    | false => exact iteF (nx H3 s3 (by rw [he]; simp [ep]))
  · have hq' : H' q = some (.frz od (.dK (es.map fun e => ((Sum.inl e.1 : Key), V.int e.2)))) := s' _ _ upd_same
    have kk : KpT H' (upd H' q (.dK (es.map fun e => ((Sum.inl e.1 : Key), V.int e.2)))) := KpT.at hq' fun u xs z => by cases z
    refine ⟨hq', k D ys _ (fun c o e => ?_) ?_ (by rw [upd_ne hDq]; exact hD') ?_⟩
    · by_cases hc : c = q
      · subst hc
        rw [hq1] at e
        rw [upd_same]
        exact e
      · rw [upd_ne hc]
        exact s' _ _ (by rw [upd_ne hc]; exact e)
    · cases e : H1 D with
      | none => rfl
      | some u =>
        rw [upd_ne hDq] at hD
        rw [hD] at e
        cases e
    · have e : ((es.filter fun e => p e.1).map (·.2)).map PyData.int = (List.range es.length).filterMap fun j => (es[j]?).bind fun e => if p e.1 then some (.int e.2) else none := by
        rw [fm_at (fun (e : Int × Int) => if p e.1 then some (PyData.int e.2) else none) es]
        exact items_fm p es
      rw [e]
      exact r.k kk
theorem ev_tupP {t : TE} {p : Addr} {ys : List V} {ds : List PyData} (hl : EvP t σ H (.ref p)) (hp : H p = some (.lst ys)) (hd : DtA H ys ds) : Ev (tCB (rTupF K) (tCons t tNil)) σ H (.tuple ds) := fun H1 Q s q =>
  hl H1 _ s fun H2 s2 => ⟨p, ys, rfl, SqL.of (s2 _ _ (s _ _ hp)), fun r H3 s3 hr => q _ H3 (s2.trans s3) (.tup hr (((hd.s s).s s2).s s3))⟩
theorem eva_star {t : TE} {ta : TA} {es ds : List PyData} (ha : Ev t σ H (.tuple es)) (hr : EvA ta σ H ds) : EvA (StX.tStar K t ta) σ H (es ++ ds) := fun H1 Q s q =>
  ha H1 _ s fun x H2 s2 hx => by
    obtain ⟨a, xs, rfl, hxs, hd⟩ := hx.t
    exact ⟨a, xs, rfl, .inl hxs.q, hr H2 _ (s.trans s2) fun ys H3 s3 hy => q _ H3 (s2.trans s3) ((hd.s s3).app hy)⟩
end
/-! ### the tally -/
abbrev kE (es : List (Int × Int)) : List (Key × V) := es.map fun e => ((Sum.inl e.1 : Key), V.int e.2)
def sE (f : Int → Bool) (es : List (Int × Int)) : Int := ((es.filter fun e => f e.1).map (·.2)).sum
def TallyOk (es : List (Int × Int)) (ms : List Int) : Prop := (es.map (·.1)).Nodup ∧ es.length ≤ ms.length ∧ ∀ f : Int → Bool, sE f es = ((ms.filter f).length : Nat)
theorem sE_cons (f : Int → Bool) (e : Int × Int) (es : List (Int × Int)) : sE f (e :: es) = (if f e.1 then e.2 else 0) + sE f es := by
  unfold sE
  rw [List.filter_cons]
  cases f e.1 <;> simp
theorem sE_app (f : Int → Bool) (es fs : List (Int × Int)) : sE f (es ++ fs) = sE f es + sE f fs := by
  unfold sE
  rw [List.filter_append, List.map_append, List.sum_append]
def putE (es : List (Int × Int)) (k : Int) (v : Int) : List (Int × Int) := es.map fun e => if e.1 = k then (e.1, v) else e
theorem putE_no {es : List (Int × Int)} {k v : Int} (h : k ∉ es.map (·.1)) : putE es k v = es := by
  unfold putE
  have : ∀ e ∈ es, (if e.1 = k then (e.1, v) else e) = e := fun e he => if_neg fun z => h (by rw [← z]; exact List.mem_map.mpr ⟨e, he, rfl⟩)
  rw [List.map_congr_left this, List.map_id']
theorem val_E : ∀ (es : List (Int × Int)) (k : Int), (es.map (·.1)).Nodup → (k ∉ es.map (·.1) ∧ valV (kE es) (Sum.inl k) = none) ∨ ∃ o, valV (kE es) (Sum.inl k) = some (V.int o) ∧ k ∈ es.map (·.1) ∧ ∀ f, sE f (putE es k (o + 1)) = sE f es + if f k then 1 else 0
  | [], k, _ => .inl ⟨by simp, rfl⟩
  | e :: es, k, hn => by
    rw [List.map_cons, List.nodup_cons] at hn
    by_cases h : e.1 = k
    · subst h
      refine .inr ⟨e.2, ?_, by simp, fun f => ?_⟩
      · exact valV_pos rfl
      · have : putE (e :: es) e.1 (e.2 + 1) = (e.1, e.2 + 1) :: es := by
          show (if e.1 = e.1 then (e.1, e.2 + 1) else e) :: putE es e.1 (e.2 + 1) = _
          rw [if_pos rfl, putE_no hn.1]
        rw [this, sE_cons, sE_cons]
        cases f e.1 <;> simp <;> omega
    · have hv : valV (kE (e :: es)) (Sum.inl k) = valV (kE es) (Sum.inl k) := valV_neg fun z => h (by injection z)
      rcases val_E es k hn.2 with ⟨h1, h2⟩ | ⟨o, h1, h2, h3⟩
      · refine .inl ⟨?_, by rw [hv, h2]⟩
        rw [List.map_cons, List.mem_cons]
        rintro (z | z)
        · exact h z.symm
        · exact h1 z
      · refine .inr ⟨o, by rw [hv, h1], by rw [List.map_cons]; exact List.mem_cons_of_mem _ h2, fun f => ?_⟩
        have : putE (e :: es) k (o + 1) = e :: putE es k (o + 1) := by
          show (if e.1 = k then (e.1, o + 1) else e) :: putE es k (o + 1) = _
          rw [if_neg h]
        rw [this, sE_cons, sE_cons, h3 f]
        omega
theorem any_E (es : List (Int × Int)) (k : Int) : ((kE es).any fun kv => decide (kv.1 = Sum.inl k)) = decide (k ∈ es.map (·.1)) := by
  rw [Bool.eq_iff_iff, List.any_eq_true, decide_eq_true_eq]
  constructor
  · rintro ⟨kv, hm, e⟩
    obtain ⟨x, hx, rfl⟩ := List.mem_map.mp hm
    have e' := of_decide_eq_true e
    injection e' with e'
    exact List.mem_map.mpr ⟨x, hx, e'⟩
  · intro hm
    obtain ⟨x, hx, rfl⟩ := List.mem_map.mp hm
    exact ⟨_, List.mem_map.mpr ⟨x, hx, rfl⟩, by simp⟩
theorem tally_step {es : List (Int × Int)} {ms : List Int} {m : Int} (h : TallyOk es ms) : ∃ o es', (valV (kE es) (Sum.inl m)).getD (.int 0) = .int o ∧ putK (kE es) (Sum.inl m) (.int (o + 1)) = kE es' ∧ TallyOk es' (ms ++ [m]) := by
  obtain ⟨hn, hl, hs⟩ := h
  have hf : ∀ f : Int → Bool, (((ms ++ [m]).filter f).length : Int) = ((ms.filter f).length : Nat) + if f m then 1 else 0 := fun f => by
    rw [List.filter_append, List.length_append, List.filter_cons]
    cases f m <;> simp
  rcases val_E es m hn with ⟨h1, h2⟩ | ⟨o, h1, h2, h3⟩
  · refine ⟨0, es ++ [(m, 1)], by rw [h2]; rfl, ?_, ?_, ?_, fun f => ?_⟩
    · unfold putK
      rw [any_E, decide_eq_false h1, if_neg Bool.false_ne_true]
      show _ = List.map _ (es ++ [(m, 1)])
      rw [List.map_append]
      rfl
    · rw [List.map_append, List.nodup_append]
      refine ⟨hn, by simp, fun a ha b hb => ?_⟩
      rw [List.map_singleton, List.mem_singleton] at hb
      subst hb
      exact fun z => h1 (z ▸ ha)
    · simp only [List.length_append, List.length_singleton]; omega
    · rw [sE_app, hs f, hf, sE_cons]
      simp [sE]
  · refine ⟨o, putE es m (o + 1), by rw [h1]; rfl, ?_, ?_, ?_, fun f => ?_⟩
    · unfold putK
      rw [any_E, decide_eq_true h2, if_pos rfl]
      unfold putE
      show _ = List.map _ (List.map _ es)
      rw [List.map_map, List.map_map]
      apply List.map_congr_left
      intro e _
      show (if (Sum.inl e.1 : Key) = Sum.inl m then ((Sum.inl e.1 : Key), V.int (o + 1)) else (Sum.inl e.1, V.int e.2)) = _
      by_cases he : e.1 = m
      · rw [if_pos (by rw [he])]
        show _ = ((Sum.inl (if e.1 = m then (e.1, o + 1) else e).1 : Key), V.int (if e.1 = m then (e.1, o + 1) else e).2)
        rw [if_pos he]
      · rw [if_neg (fun z => he (by injection z))]
        show _ = ((Sum.inl (if e.1 = m then (e.1, o + 1) else e).1 : Key), V.int (if e.1 = m then (e.1, o + 1) else e).2)
        rw [if_neg he]
    · have : (putE es m (o + 1)).map (·.1) = es.map (·.1) := by
        unfold putE
        rw [List.map_map]
        apply List.map_congr_left
        intro e _
        show (if e.1 = m then (e.1, o + 1) else e).1 = e.1
        split <;> rfl
      rw [this]; exact hn
    · unfold putE
      simp only [List.length_map, List.length_append, List.length_singleton]; omega
    · rw [h3 f, hs f, hf]
end K60
namespace K60
open PySem L2

def spTally : Sp := fun vs H Q _ => ∃ (p : Addr) (ms : List Int), vs = [.ref p] ∧ H p = some (.lst (ms.map V.int)) ∧ ms.length ≤ 100 ∧ ∀ q es H', Same H H' → H' q = some (.dK (kE es)) → TallyOk es ms → Q (.ref q) H'
def maskF (c : List Int) : Int := (c.map fun n => 1 * 2 ^ n.toNat).sum
def fMask (ds : List PyData) (d : PyData) : Prop := ∃ ns : List Int, ds = [tI ns] ∧ (∀ n ∈ ns, 0 ≤ n ∧ n ≤ 100) ∧ ns.length ≤ 100 ∧ d = .int (maskF ns)
def fMenusA (ds : List PyData) (d : PyData) : Prop := fMenus ds d
section
variable {P : Program} {w : World} {K : PySem.W.Frag} {mg : Str → Option Value} {base : Heap}
abbrev N_menus_of : List Str := ["variants", "buckets", "rule", "allocation", "rows", "bucket", "variant"]
theorem sc_menus_of : FnScope N_menus_of ["variants", "buckets", "rule", "allocation"] (defScope (top 38)) := ⟨rfl, rfl, rfl, by decide +kernel, rfl, by decide +kernel, by decide +kernel⟩
theorem ok_menus_of {f : Addr} {fd : FuncData} (F : Fun K "menus_of" "menus_of" (top 38) f fd) (T : Txt mg) (G_is_allowed : Has P w K mg base 1 "is_allowed" ["rule", "allocation", "bucket", "variant"] (spD fAllowed)) : FnOk P w K mg base CX0 2 f fd ["variants", "buckets", "rule", "allocation"] (spD fMenus) := by
  have nd := sc_menus_of.nd
  refine ok_d F sc_menus_of (fun ds d h => ?_) fun cdv A outer s H0 E hr => ⟨_, (pss_cons (ps_set (i := 4) nd rfl (Or.inl rfl) (pe_lst pa_nil)) (pss_cons (ps_for PassesOwn.never rfl (pi_range1 (by rfl) T.range (pa_cons (pv 1) pa_nil)) (pg_name (i := 5) nd rfl (Or.inr rfl)) (pss_one (ps_expr (pe_bm PySem.F.plainAttrs_list PySem.F.slot_list_append PySem.F.type_list_append mt_append (pv 4) (pa_cons (pe_callTy (callk_tupF (K := K) rfl) (by rfl) T.tuple PyProof.Rows.boot_tuple (pa_cons (pe_lc (own := [("variant", 6)]) (g := (gName 6)) rfl nd (pi_range1 (by rfl) T.range (pa_cons (pv 0) pa_nil)) (blkOk_by (N := N_menus_of) (sc := defScope (top 38)) (by decide +kernel)) (fun _ _ _ _ _ => (pg_name (i := 6) nd rfl (Or.inl rfl))) (fun _ _ _ _ _ => (pts_one (pt_val (pe_has G_is_allowed hr (by decide) (pa_cons (pv 2) (pa_cons (pv 3) (pa_cons (pv 5) (pa_cons (pv 6) pa_nil)))))))) (fun _ _ _ _ _ => (pv 6))) pa_nil)) pa_nil))))) (pss_one (ps_ret (pe_callTy (callk_tupF (K := K) rfl) (by rfl) T.tuple PyProof.Rows.boot_tuple (pa_cons (pv 4) pa_nil)))))), fun ds d vs H h hd => ?_⟩
  · obtain ⟨r, a, V, N, rfl, _⟩ := h; rfl
  · skip
    obtain ⟨r, a, V, N, rfl, ⟨hp, _, hz⟩, ha, hs, rfl⟩ := h
    obtain ⟨v0, v1, v2, v3, rfl, d0, d1, d2, d3⟩ := hd.four
    obtain ⟨hs1, hs2, hs3⟩ := hs
    intro H1 D s1 q
    refine ⟨Nat.zero_le _, fun l hl => ?_⟩
    have sn := same_new (o := .lst []) hl
    obtain rfl := d1.i
    refine ⟨_, rfl, (N : Int), rfl, by omega, by omega, ?_⟩
    rw [Int.toNat_natCast]
    refine for_it walk_range (fun i σ' H' => (∃ x5 x6, σ' = [some v0, some (.int N), some v2, some v3, some (.ref l), x5, x6]) ∧ Same H1 H' ∧ ∃ ys, H' l = some (.lst ys) ∧ DtA H' ys (((List.range i).map fun b => ((List.range V).filter fun (v : Nat) => allowedF r a b (v : Int)).map fun (v : Nat) => (v : Int)).map tI)) ⟨⟨_, _, rfl⟩, sn, [], upd_same, .nil⟩ (fun _ _ _ _ _ => trivial) ?_ ?_
    · rintro i x σ' H' H'' hi ⟨⟨x5, x6, rfl⟩, s2, ys, hy, hdy⟩ ⟨rfl, rfl⟩
      show tDrop _ _ _ _
      have s02 : Same H H'' := s1.trans s2
      refine ⟨_, rfl, .inl ⟨rfl, ys, SqL.of hy⟩, ?_⟩
      have key : Ev (tCB (rTupF K) (tCons (tLc (iRng1 (tCons (tVar 0) tNil)) (gName 6) (tB (tCall (spD fAllowed) [] E0 (tCons (tVar 2) (tCons (tVar 3) (tCons (tVar 5) (tCons (tVar 6) tNil)))))) (tVar 6) [6]) tNil)) [some v0, some (.int N), some v2, some v3, some (.ref l), some (.int (0 + (i : Int))), x6] H'' (tI (((List.range V).filter fun (v : Nat) => allowedF r a i (v : Int)).map fun (v : Nat) => (v : Int))) := by
        refine (ev_tupL (evl_lc (n := V) (fun v => if allowedF r a i (v : Int) then some (.int (v : Nat)) else none) (evi_rng (eva_cons (ev_var rfl (d0.s s02)) eva_nil) (by simp) (by omega)) (by rw [sizeLine_eq]; omega) fun v x H3 hv s3 yd => ?_)).eq ?_
        · obtain rfl := yd
          refine ⟨_, gt_name, rfl, allowedF r a i (v : Int), evt_b (ev_call (eva_cons (ev_var rfl (d2.s (s02.trans s3))) (eva_cons (ev_var rfl (d3.s (s02.trans s3))) (eva_cons (ev_var rfl (.int _)) (eva_cons (ev_var rfl (.int _)) eva_nil)))) ⟨r, a, i, v, V, N, ?_, hp, by omega, ha, hi, hv, rfl⟩), fun e => ⟨_, by rw [e]; rfl, ev_var rfl (.int _)⟩, fun e => by rw [e]; rfl⟩
          rw [Int.zero_add]
        · show PyData.tuple _ = PyData.tuple _
          congr 1
          induction List.range V with
          | nil => rfl
          | cons v vs ih =>
            rw [List.filterMap_cons, List.filter_cons]
            cases allowedF r a i (v : Int) with
            | true => simp [ih]
            | false => simp [ih]
      refine key.go fun y H3 s3 hy3 => ?_
      have hy' : H3 l = some (.lst ys) := s3 _ _ hy
      have kk : KpT H3 (upd H3 l (.lst (ys ++ [y]))) := KpT.lst hy'
      refine ⟨l, ys, y, rfl, rfl, hy', ?_, ⟨_, _, rfl⟩, fun c o e => ?_, ys ++ [y], upd_same, ?_⟩
      · have := hdy.len
        rw [List.length_map, List.length_map, List.length_range] at this
        rw [sizeLine_eq]; omega
      · rw [upd_ne (ne_of_none e hl)]
        exact s3 _ _ (s2 _ _ e)
      · rw [List.range_succ, List.map_append, List.map_append]
        exact ((hdy.s s3).k kk).app (.cons (hy3.k kk) .nil)
    · rintro σ' H' ⟨⟨x5, x6, rfl⟩, s2, ys, hy, hdy⟩
      exact (ev_tupP (evp_var rfl) hy hdy).go fun v H3 s3 h3 => q v H3 (s2.trans s3) h3
abbrev N_allowed_variants : List Str := ["variants", "buckets", "rule", "allocation"]
theorem sc_allowed_variants : FnScope N_allowed_variants ["variants", "buckets", "rule", "allocation"] (defScope (top 39)) := ⟨rfl, rfl, rfl, by decide +kernel, rfl, by decide +kernel, by decide +kernel⟩
theorem ok_allowed_variants {f : Addr} {fd : FuncData} (F : Fun K "allowed_variants" "allowed_variants" (top 39) f fd) (T : Txt mg) (G_check_all : Has P w K mg base 9 "check_all" ["variants", "buckets", "rule", "allocation"] (spD fCkAll)) (G_menus_of : Has P w K mg base 2 "menus_of" ["variants", "buckets", "rule", "allocation"] (spD fMenus)) : FnOk P w K mg base CX0 10 f fd ["variants", "buckets", "rule", "allocation"] (spD fMenus) := by
  have nd := sc_allowed_variants.nd
  refine ok_d F sc_allowed_variants (fun ds d h => ?_) fun cdv A outer s H0 E hr => ⟨_, (pss_cons (ps_expr (pe_has G_check_all hr (by decide) (pa_cons (pv 0) (pa_cons (pv 1) (pa_cons (pv 2) (pa_cons (pv 3) pa_nil)))))) (pss_one (ps_ret (pe_has G_menus_of hr (by decide) (pa_cons (pv 0) (pa_cons (pv 1) (pa_cons (pv 2) (pa_cons (pv 3) pa_nil)))))))), fun ds d vs H h hd => ?_⟩
  · obtain ⟨r, a, V, N, rfl, _⟩ := h; rfl
  · skip
    obtain ⟨r, a, V, N, rfl, hr1, ha, hs, rfl⟩ := h
    obtain ⟨v0, v1, v2, v3, rfl, d0, d1, d2, d3⟩ := hd.four
    have e4 := eva_cons (ev_var (σ := start N_allowed_variants [v0, v1, v2, v3]) (i := 0) rfl d0) (eva_cons (ev_var (i := 1) rfl d1) (eva_cons (ev_var (i := 2) rfl d2) (eva_cons (ev_var (i := 3) rfl d3) eva_nil)))
    exact rt_drop (ev_call e4 ⟨r, a, V, N, rfl, hr1, ha, hs, rfl⟩) (rt_ret (ev_call e4 ⟨r, a, V, N, rfl, hr1, ha, hs, rfl⟩))
abbrev N_first_needless : List Str := ["buckets", "rule", "first", "one", "second", "other", "bucket"]
theorem sc_first_needless : FnScope N_first_needless ["buckets", "rule"] (defScope (top 34)) := ⟨rfl, rfl, rfl, by decide +kernel, rfl, by decide +kernel, by decide +kernel⟩
theorem ok_first_needless {f : Addr} {fd : FuncData} (F : Fun K "first_needless" "first_needless" (top 34) f fd) (T : Txt mg) (G_goes_needlessly : Has P w K mg base 1 "goes_needlessly" ["one", "other", "bucket"] (spD fGoes)) : FnOk P w K mg base CX0 2 f fd ["buckets", "rule"] (spR gNeed rNeed) := by
  have nd := sc_first_needless.nd
  refine ok_r F sc_first_needless (fun ds h => ?_) fun cdv A outer s H0 E hr => ⟨_, (pss_cons (ps_for PassesOwn.never rfl (pik_enumT (K := K) rfl T.enum (pa_cons (pv 1) pa_nil)) (pgk_tup (K := K) rfl rfl (pgs_cons (pg_name (i := 2) nd rfl (Or.inl rfl)) (pgs_cons (pg_name (i := 3) nd rfl (Or.inl rfl)) pgs_nil))) (pss_one (ps_for PassesOwn.never rfl (pik_enumT (K := K) rfl T.enum (pa_cons (pv 1) pa_nil)) (pgk_tup (K := K) rfl rfl (pgs_cons (pg_name (i := 4) nd rfl (Or.inl rfl)) (pgs_cons (pg_name (i := 5) nd rfl (Or.inl rfl)) pgs_nil))) (pss_one (ps_for PassesOwn.never rfl (pi_range1 (by rfl) T.range (pa_cons (pv 0) pa_nil)) (pg_name (i := 6) nd rfl (Or.inl rfl)) (pss_one (ps_if (pt_val (pe_has G_goes_needlessly hr (by decide) (pa_cons (pv 3) (pa_cons (pv 5) (pa_cons (pv 6) pa_nil))))) (pss_one (ps_ret (pe_tupF (pa_cons (pv 2) (pa_cons (pv 4) (pa_cons (pv 6) pa_nil)))))) pss_nil))))))) (pss_one (ps_ret pe_non))), fun ds vs H h hd => ?_⟩
  · obtain ⟨r, V, N, rfl, _⟩ := h; rfl
  · skip
    obtain ⟨r, V, N, rfl, ⟨hp, _, hz⟩, hs⟩ := h
    obtain ⟨v0, v1, rfl, d0, d1⟩ := hd.two
    have h3 := hs.2.2
    refine rr_for (fun i σ' => ∃ a b c d e, σ' = [some v0, some v1, a, b, c, d, e]) (evi_enum (eva_cons (ev_var rfl d1) eva_nil)) ⟨_, _, _, _, _, rfl⟩ ?_ fun σ' H' s' _ => rr_ret ev_non (.inl rfl)
    rintro i x σ' H' hi s' ⟨T, y, dd, rfl, hT, e1, hy⟩ ⟨a, b, c, d, e, rfl⟩ D nx rt
    obtain ⟨p, hp1, rfl⟩ := tR_at e1
    refine gt_two (.inl (.inl hT)) _ (nx_for (R := rNeed [.int N, tR r]) (fun j σ' => ∃ c d e, σ' = [some v0, some v1, some (.int i), some y, c, d, e]) (evi_enum (eva_cons (ev_var rfl (d1.s s')) eva_nil)) ⟨_, _, _, rfl⟩ ?_ rt fun σ' H2 s2 ⟨c, d, e, h⟩ => nx σ' H2 s2 ⟨_, _, _, _, _, h⟩)
    rintro j x σ' H2 hj s2 ⟨T, z, dd, rfl, hT, e2, hz⟩ ⟨c, d, e, rfl⟩ D nx rt
    obtain ⟨p', hp2, rfl⟩ := tR_at e2
    have s02 := s'.trans s2
    refine gt_two (.inl (.inl hT)) _ (nx_for (n := N) (R := rNeed [.int N, tR r]) (fun b σ' => ∃ e, σ' = [some v0, some v1, some (.int i), some y, some (.int j), some z, e]) (evi_rng (eva_cons (ev_var rfl (d0.s s02)) eva_nil) (by simp) (by omega)) ⟨_, rfl⟩ ?_ rt fun σ' H3 s3 ⟨e, h⟩ => nx σ' H3 s3 ⟨_, _, _, h⟩)
    rintro b x σ' H3 hb s3 rfl ⟨e, rfl⟩ D nx rt
    refine nx_if (b := goesF p p' b) (evt_b (ev_call (eva_cons (ev_var rfl ((hy.s s2).s s3)) (eva_cons (ev_var rfl (hz.s s3)) (eva_cons (ev_var rfl (.int _)) eva_nil))) ⟨p, p', b, V, N, rfl, hp p (List.mem_of_getElem? hp1), hp p' (List.mem_of_getElem? hp2), hb, rfl⟩)) (fun e H4 s4 => ?_) fun e H4 s4 => nx _ H4 s4 ⟨_, rfl⟩
    exact nx_ret (ev_tup (eva_cons (ev_var rfl (.int _)) (eva_cons (ev_var rfl (.int _)) (eva_cons (ev_var rfl (.int _)) eva_nil))) (by show 3 ≤ sizeLine; decide)) fun v H5 s5 hv => rt _ v H5 (.inr ⟨i, j, b, rfl⟩) (s4.trans s5) hv
abbrev N__law_first_leave : List Str := ["_law_rule_here", "_law_buckets", "_law_i", "_law_j", "_law_bucket"]
theorem sc__law_first_leave : FnScope N__law_first_leave ["_law_rule_here", "_law_buckets"] (defScope (top 56)) := ⟨rfl, rfl, rfl, by decide +kernel, rfl, by decide +kernel, by decide +kernel⟩
theorem ok__law_first_leave {f : Addr} {fd : FuncData} (F : Fun K "_law_first_leave" "_law_first_leave" (top 56) f fd) (T : Txt mg) (G__law_goes : Has P w K mg base 1 "_law_goes" ["_law_one", "_law_other", "_law_bucket"] (spD fGoes)) : FnOk P w K mg base CX0 2 f fd ["_law_rule_here", "_law_buckets"] (spR gLeave rLeave) := by
  have nd := sc__law_first_leave.nd
  refine ok_r F sc__law_first_leave (fun ds h => ?_) fun cdv A outer s H0 E hr => ⟨_, (pss_cons (ps_for PassesOwn.never rfl (pi_range1 (by rfl) T.range (pa_cons (pe_callB (call_lenk (K := K) rfl) (by rfl) T.len PySem.boot_len (pa_cons (pv 0) pa_nil)) pa_nil)) (pg_name (i := 2) nd rfl (Or.inl rfl)) (pss_one (ps_for PassesOwn.never rfl (pi_range1 (by rfl) T.range (pa_cons (pe_callB (call_lenk (K := K) rfl) (by rfl) T.len PySem.boot_len (pa_cons (pv 0) pa_nil)) pa_nil)) (pg_name (i := 3) nd rfl (Or.inl rfl)) (pss_one (ps_for PassesOwn.never rfl (pi_range1 (by rfl) T.range (pa_cons (pv 1) pa_nil)) (pg_name (i := 4) nd rfl (Or.inl rfl)) (pss_one (ps_if (pt_val (pe_has G__law_goes hr (by decide) (pa_cons (pe_ix (ixk_tup (K := K) rfl) (pv 0) (pv 2) (fun _ _ => rfl)) (pa_cons (pe_ix (ixk_tup (K := K) rfl) (pv 0) (pv 3) (fun _ _ => rfl)) (pa_cons (pv 4) pa_nil))))) (pss_one (ps_ret (pe_tupF (pa_cons (pv 2) (pa_cons (pv 3) (pa_cons (pv 4) pa_nil)))))) pss_nil))))))) (pss_one (ps_ret pe_non))), fun ds vs H h hd => ?_⟩
  · obtain ⟨r, V, N, rfl, _⟩ := h; rfl
  · skip
    obtain ⟨r, V, N, rfl, hp, hz, h3⟩ := h
    obtain ⟨v0, v1, rfl, d0, d1⟩ := hd.two
    have at_ : ∀ {i : Nat}, i < r.length → ∃ p, r[i]? = some p ∧ p ∈ r := fun {i} h => ⟨r[i], by simp [h], List.getElem_mem h⟩
    have ix : ∀ {H' : Hp} {σ' : L2.St} {ta tb : TE} {i : Nat} {p : List Int × List Int}, Ev ta σ' H' (tR r) → Ev tb σ' H' (.int i) → r[i]? = some p → Ev (tOp (rIxT K) ta tb) σ' H' (tP p) := fun {H' σ' ta tb i p} ha hb hi => ev_ix (n := i) ha hb (by rw [List.getElem?_map, hi]; rfl)
    refine rr_for (n := r.length) (fun i σ' => (∃ a b c, σ' = [some v0, some v1, a, b, c]) ∧ ∀ (p q : List Int × List Int) (b : Nat), p ∈ r.take i → q ∈ r → b < N → goesF p q b = false) (evi_rng (eva_cons (ev_len (ev_var rfl d0)) eva_nil) (by rw [List.length_map]; simp) (by rw [List.length_map]; omega)) ⟨⟨_, _, _, rfl⟩, fun p q b h => by cases h⟩ ?_ fun σ' H' s' ⟨_, h⟩ => rr_ret ev_non (.inl ⟨r, N, rfl, rfl, fun p q b h1 h2 h3 => h p q b (by rw [List.take_length]; exact h1) h2 h3⟩)
    rintro i x σ' H' hi s' rfl ⟨⟨a, b, c, rfl⟩, hno⟩ D nx rt
    obtain ⟨p, hp1, hpm⟩ := at_ hi
    refine nx_for (n := r.length) (R := rLeave [tR r, .int N]) (fun j σ' => (∃ b c, σ' = [some v0, some v1, some (.int i), b, c]) ∧ ∀ (q : List Int × List Int) (b : Nat), q ∈ r.take j → b < N → goesF p q b = false) (evi_rng (eva_cons (ev_len (ev_var rfl (d0.s s'))) eva_nil) (by rw [List.length_map]; simp) (by rw [List.length_map]; omega)) ⟨⟨_, _, rfl⟩, fun q b h => by cases h⟩ ?_ rt fun σ' H2 s2 ⟨⟨b, c, h⟩, hq⟩ => nx σ' H2 s2 ⟨⟨_, _, _, h⟩, fun p' q b h1 h2 h3 => ?_⟩
    · rintro j x σ' H2 hj s2 rfl ⟨⟨b, c, rfl⟩, hno2⟩ D nx rt
      obtain ⟨q, hq1, hqm⟩ := at_ hj
      have s02 := s'.trans s2
      refine nx_for (n := N) (R := rLeave [tR r, .int N]) (fun b σ' => (∃ c, σ' = [some v0, some v1, some (.int i), some (.int j), c]) ∧ ∀ b' : Nat, b' < b → goesF p q b' = false) (evi_rng (eva_cons (ev_var rfl (d1.s s02)) eva_nil) (by simp) (by omega)) ⟨⟨_, rfl⟩, fun b' h => by omega⟩ ?_ rt fun σ' H3 s3 ⟨⟨c, h⟩, hb⟩ => nx σ' H3 s3 ⟨⟨_, _, h⟩, fun q' b' h1 h2 => ?_⟩
      · rintro b x σ' H3 hb s3 rfl ⟨⟨c, rfl⟩, hno3⟩ D nx rt
        have s03 := s02.trans s3
        refine nx_if (b := goesF p q b) (evt_b (ev_call (eva_cons (ix (ev_var rfl (d0.s s03)) (ev_var rfl (.int _)) hp1) (eva_cons (ix (ev_var rfl (d0.s s03)) (ev_var rfl (.int _)) hq1) (eva_cons (ev_var rfl (.int _)) eva_nil))) ⟨p, q, b, V, N, rfl, hp p hpm, hp q hqm, hb, rfl⟩)) (fun e H4 s4 => ?_) fun e H4 s4 => nx _ H4 s4 ⟨⟨_, rfl⟩, fun b' h => ?_⟩
        · exact nx_ret (ev_tup (eva_cons (ev_var rfl (.int _)) (eva_cons (ev_var rfl (.int _)) (eva_cons (ev_var rfl (.int _)) eva_nil))) (by show 3 ≤ sizeLine; decide)) fun v H5 s5 hv => rt _ v H5 (.inr ⟨i, j, b, rfl⟩) (s4.trans s5) hv
        · by_cases hbb : b' = b
          · rw [hbb]; exact e
          · exact hno3 b' (by omega)
      · rw [List.take_add_one, hq1] at h1
        rcases List.mem_append.mp h1 with h1 | h1
        · exact hno2 q' b' h1 h2
        · have : q' = q := by simpa using h1
          rw [this]
          exact hb b' h2
    · rw [List.take_add_one, hp1] at h1
      rcases List.mem_append.mp h1 with h1 | h1
      · exact hno p' q b h1 h2 h3
      · have : p' = p := by simpa using h1
        rw [this]
        exact hq q b (by rw [List.take_length]; exact h2) h3
abbrev N_mask_of : List Str := ["chosen", "one"]
theorem sc_mask_of : FnScope N_mask_of ["chosen"] (defScope (top 19)) := ⟨rfl, rfl, rfl, by decide +kernel, rfl, by decide +kernel, by decide +kernel⟩
theorem ok_mask_of {f : Addr} {fd : FuncData} (F : Fun K "mask_of" "mask_of" (top 19) f fd) (T : Txt mg)  : FnOk P w K mg base CX0 1 f fd ["chosen"] (spD fMask) := by
  have nd := sc_mask_of.nd
  refine ok_d F sc_mask_of (fun ds d h => ?_) fun cdv A outer s H0 E hr => ⟨_, (pss_one (ps_ret (pe_callB (crk_sum (K := K) rfl rfl) (by rfl) T.sum PyProof.Rows.boot_sum (pa_cons (pe_lc (own := [("one", 1)]) (g := (gName 1)) (tt := tYes) rfl nd (pik_tup (K := K) rfl (pv 0)) (blkOk_by (N := N_mask_of) (sc := defScope (top 19)) (by decide +kernel)) (fun _ _ _ _ _ => (pg_name (i := 1) nd rfl (Or.inl rfl))) (fun _ _ _ _ _ => pts_nil) (fun _ _ _ _ _ => (pe_op op_shl pe_int (pv 1)))) pa_nil)))), fun ds d vs H h hd => ?_⟩
  · obtain ⟨ns, rfl, _⟩ := h; rfl
  · skip
    obtain ⟨ns, rfl, hn, hz, rfl⟩ := h
    obtain ⟨v0, rfl, d0⟩ := hd.one
    refine rt_ret ((ev_sumL (ns := ns.map fun n => 1 * 2 ^ n.toNat) ((evl_lc (fun i => (ns[i]?).map fun n => .int (1 * 2 ^ n.toNat)) (evi_tup (ev_var rfl d0)) (by rw [List.length_map, sizeLine_eq]; omega) fun i x H' hi s' yd => ?_).eq ?_)).eq rfl)
    · obtain ⟨d, e1, hx⟩ := yd
      rw [List.getElem?_map] at e1
      cases e2 : ns[i]? with
      | none => rw [e2] at e1; cases e1
      | some n =>
        rw [e2] at e1
        cases e1
        have hm := hn n (List.mem_of_getElem? e2)
        exact ⟨_, gt_name, rfl, true, evt_yes, fun _ => ⟨_, rfl, ev_ic ev_int (ev_var rfl hx) ⟨hm.1, by omega, by decide⟩ fun _ => .int _⟩, tt_⟩
    · rw [List.length_map, List.map_map]
      have := fm_at (fun n : Int => some (PyData.int (1 * 2 ^ n.toNat))) ns
      rw [fm_some] at this
      refine Eq.trans ?_ this
      congr 1
      funext i
      cases ns[i]? <;> rfl
end
end K60
/-! More support: blocks over tuples of ints, places of scopes. -/
namespace K60
open PySem L2
def xArg : Expr → Expr
  | .Call _ (a :: _) _ _ => a
  | e => e
def xRet : Stmt → Expr
  | .Return (some e) _ => e
  | _ => .Constant .none 0 ⟨0, 0, 0, 0⟩
def xAsg : Stmt → Expr
  | .Assign _ e _ => e
  | _ => .Constant .none 0 ⟨0, 0, 0, 0⟩
def lcSc : Expr → Scope
  | .ListComp _ _ sc _ => sc
  | _ => defScope (top 0)
/-- a block's scope within a def: what is free is a cell -/
def relab (sc : Scope) : Scope := { sc with names := sc.names.map fun (n, k) => if k == .free then (n, .cell) else (n, k) }
def bodyAt (i j : Nat) : Stmt := (defBody (top i)).getD j (.Pass ⟨0, 0, 0, 0⟩)
def forAt : Stmt → Nat → Stmt
  | .For _ _ b _ _, j => b.getD j (.Pass ⟨0, 0, 0, 0⟩)
  | s, _ => s
section
variable {K : PySem.W.Frag} {σ : L2.St} {H : Hp} {te tl : TE}
/-- [.. for x in t], t a tuple of ints -/
theorem evl_mapD {j : Nat} {c : List Int} (g : Int → PyData) (hl : Ev tl σ H (tI c)) (hz : c.length ≤ 1000) (hw : ∀ x, wipe ((wipe σ [j]).set j (some x)) [j] = wipe σ [j])
    (hb : ∀ n H', n ∈ c → Same H H' → Ev te ((wipe σ [j]).set j (some (.int n))) H' (g n)) : EvL (tLc (iTup K tl) (gName j) tYes te [j]) σ H (c.map g) := by
  refine (evl_lc (fun i => (c[i]?).map g) (evi_tup hl) (by rw [List.length_map, sizeLine_eq]; omega) fun i x H' hi s' yd => ?_).eq ?_
  · obtain ⟨d, e1, hx⟩ := yd
    rw [List.getElem?_map] at e1
    cases e2 : c[i]? with
    | none => rw [e2] at e1; cases e1
    | some n =>
      rw [e2] at e1
      cases e1
      obtain rfl := hx.i
      exact ⟨_, gt_name, hw _, true, evt_yes, fun _ => ⟨_, rfl, hb n H' (List.mem_of_getElem? e2) s'⟩, tt_⟩
  · rw [List.length_map]
    have := fm_at (fun n : Int => some (g n)) c
    rw [fm_some] at this
    refine Eq.trans ?_ this
    congr 1
    funext i
    cases c[i]? <;> rfl
theorem evl_mapI {j : Nat} {c : List Int} (g : Int → Int) (hl : Ev tl σ H (tI c)) (hz : c.length ≤ 1000) (hw : ∀ x, wipe ((wipe σ [j]).set j (some x)) [j] = wipe σ [j])
    (hb : ∀ n H', n ∈ c → Same H H' → Ev te ((wipe σ [j]).set j (some (.int n))) H' (.int (g n))) : EvL (tLc (iTup K tl) (gName j) tYes te [j]) σ H ((c.map g).map PyData.int) :=
  (evl_mapD (fun n => .int (g n)) hl hz hw hb).eq (by rw [List.map_map]; rfl)
theorem evl_mapB {j : Nat} {c : List Int} (g : Int → Bool) (hl : Ev tl σ H (tI c)) (hz : c.length ≤ 1000) (hw : ∀ x, wipe ((wipe σ [j]).set j (some x)) [j] = wipe σ [j])
    (hb : ∀ n H', n ∈ c → Same H H' → Ev te ((wipe σ [j]).set j (some (.int n))) H' (.bool (g n))) : EvL (tLc (iTup K tl) (gName j) tYes te [j]) σ H ((c.map g).map PyData.bool) :=
  (evl_mapD (fun n => .bool (g n)) hl hz hw hb).eq (by rw [List.map_map]; rfl)
theorem all_idI {f : Int → Bool} {c : List Int} : (c.map f).all id = c.all f := by rw [List.all_map]; rfl
theorem all_idN {f : Nat → Bool} {c : List Nat} : (c.map f).all id = c.all f := by rw [List.all_map]; rfl
/-- a tuple of anything, mapped -/
theorem evl_mapT {j : Nat} {ds : List PyData} (g : PyData → PyData) (hl : Ev tl σ H (.tuple ds)) (hz : ds.length ≤ 1000) (hw : ∀ x, wipe ((wipe σ [j]).set j (some x)) [j] = wipe σ [j])
    (hb : ∀ d x H', d ∈ ds → Same H H' → Dt H' x d → Ev te ((wipe σ [j]).set j (some x)) H' (g d)) : EvL (tLc (iTup K tl) (gName j) tYes te [j]) σ H (ds.map g) := by
  refine (evl_lc (fun i => (ds[i]?).map g) (evi_tup hl) (by rw [sizeLine_eq]; omega) fun i x H' hi s' yd => ?_).eq ?_
  · obtain ⟨d, e1, hx⟩ := yd
    exact ⟨_, gt_name, hw _, true, evt_yes, fun _ => ⟨_, by rw [e1]; rfl, hb d x H' (List.mem_of_getElem? e1) s' hx⟩, tt_⟩
  · have := fm_at (fun n : PyData => some (g n)) ds
    rw [fm_some] at this
    refine Eq.trans ?_ this
    congr 1
    funext i
    cases ds[i]? <;> rfl
/-- [.. for x in range(n)] -/
theorem evl_mapN {j : Nat} {ta : TA} {n : Nat} {m : Int} (g : Nat → PyData) (hl : EvA ta σ H [.int m]) (hm : m.toNat = n) (hz : -1000 ≤ m ∧ m ≤ 1000) (hw : ∀ x, wipe ((wipe σ [j]).set j (some x)) [j] = wipe σ [j])
    (hb : ∀ i H', i < n → Same H H' → Ev te ((wipe σ [j]).set j (some (.int (i : Nat)))) H' (g i)) : EvL (tLc (iRng1 ta) (gName j) tYes te [j]) σ H ((List.range n).map g) := by
  refine (evl_lc (n := n) (fun i => some (g i)) (evi_rng hl hm (by omega)) (by rw [sizeLine_eq]; omega) fun i x H' hi s' yd => ?_).eq (fm_some _ _)
  obtain rfl := yd
  exact ⟨_, gt_name, hw _, true, evt_yes, fun _ => ⟨_, rfl, hb i H' hi s'⟩, tt_⟩
/-- [x for x in range(n) if ..] -/
theorem evl_filN {j : Nat} {ta : TA} {tt : TT} {n : Nat} {m : Int} (p : Nat → Bool) (hl : EvA ta σ H [.int m]) (hm : m.toNat = n) (hz : -1000 ≤ m ∧ m ≤ 1000) (hw : ∀ x, wipe ((wipe σ [j]).set j (some x)) [j] = wipe σ [j])
    (ht : ∀ i H', i < n → Same H H' → EvT tt ((wipe σ [j]).set j (some (.int (i : Nat)))) H' (p i)) (hb : ∀ i H', i < n → Same H H' → Ev te ((wipe σ [j]).set j (some (.int (i : Nat)))) H' (.int i)) : EvL (tLc (iRng1 ta) (gName j) tt te [j]) σ H ((((List.range n).filter p).map fun (i : Nat) => (i : Int)).map PyData.int) := by
  refine (evl_lc (n := n) (fun i => if p i then some (.int (i : Nat)) else none) (evi_rng hl hm (by omega)) (by rw [sizeLine_eq]; omega) fun i x H' hi s' yd => ?_).eq ?_
  · obtain rfl := yd
    exact ⟨_, gt_name, hw _, p i, ht i H' hi s', fun e => ⟨_, by rw [e]; rfl, hb i H' hi s'⟩, fun e => by rw [e]; rfl⟩
  · rw [List.map_map]
    induction List.range n with
    | nil => rfl
    | cons v vs ih =>
      rw [List.filterMap_cons, List.filter_cons]
      cases p v with
      | true => simp [ih]
      | false => simp [ih]
end
theorem RtR.use {t : TS} {σ : L2.St} {H : Hp} {R : PyData → Prop} {D : Ends} (h : RtR t σ H R) (q : ∀ d v H2, R d → Same H H2 → Dt H2 v d → D.rt v H2) : t D σ H := h H D (Same.refl _) q
theorem RtN.use {t : TS} {σ : L2.St} {H : Hp} {D : Ends} (h : RtN t σ H) (q : ∀ σ' H2, Same H H2 → D.nx σ' H2) : t D σ H := h H D (Same.refl _) q
def castL (c : List Nat) : List Int := c.map fun (j : Nat) => (j : Int)
def shortB (a ms : List Int) (c : List Nat) : Bool := decide (((castL c).map fun v => a.getD v.toNat 0).sum < ((ms.filter fun m => Builtin.bitOr m (maskF (castL c)) == maskF (castL c)).length : Nat))
/-- the first small set, in the order of the sizes, then of the combinations -/
def FirstC (V : Nat) (a ms : List Int) (c : List Nat) : Prop := ∃ k i : Nat, k ≤ V ∧ (choose (List.range V) k)[i]? = some c ∧ shortB a ms c = true ∧ (∀ k' : Nat, k' < k → ∀ c', c' ∈ choose (List.range V) k' → shortB a ms c' = false) ∧ ∀ (i' : Nat) (c' : List Nat), i' < i → (choose (List.range V) k)[i']? = some c' → shortB a ms c' = false
def heldF (M : List (List Int)) (c : List Int) : List Int := ((List.range M.length).filter fun b => (M.getD b []).all fun v => c.contains v).map fun (b : Nat) => (b : Int)
def spFS : Sp := fun vs H Q _ => ∃ (v : L2.V) (p : Addr) (a ms : List Int), vs = [v, .ref p] ∧ Dt H v (tI a) ∧ a.length ≤ 3 ∧ H p = some (.lst (ms.map V.int)) ∧ ms.length ≤ 100 ∧ ∀ d v H', (d = .none ∨ ∃ c, FirstC a.length a ms c ∧ d = tI (castL c)) → Same H H' → Dt H' v d → Q v H'
def MenuOk (M : List (List Int)) : Prop := M.length ≤ 20 ∧ ∀ m ∈ M, m.length ≤ 100 ∧ ∀ n ∈ m, 0 ≤ n ∧ n ≤ 100
def gSS (ds : List PyData) : Prop := ∃ (a : List Int) (M : List (List Int)), ds = [tI a, tM M] ∧ a.length ≤ 3 ∧ MenuOk M
def RSS (a : List Int) (M : List (List Int)) (d : PyData) : Prop := d = .none ∨ ∃ c, FirstC a.length a (M.map maskF) c ∧ d = .tuple [tI (castL c), tI (heldF M (castL c))]
def rSS (ds : List PyData) (d : PyData) : Prop := ∃ (a : List Int) (M : List (List Int)), ds = [tI a, tM M] ∧ RSS a M d
def Told (V N : Nat) (r : List (List Int × List Int)) (a : List Int) (d : PyData) : Prop := d = .none ∨ (∃ i j b : Nat, d = .tuple [.str "needless", .int i, .int j, .int b]) ∨
  ∃ c, FirstC V a ((menusF V N r a).map maskF) c ∧ d = .tuple [.str "short", tI (castL c), tI (heldF (menusF V N r a) (castL c))]
def gWhy (ds : List PyData) : Prop := ∃ (r : List (List Int × List Int)) (a : List Int) (V N : Nat), ds = [.int V, .int N, tR r, tI a] ∧ VR V N r ∧ Alc V N a ∧ Sz V N ∧ V ≤ 3
def rWhy (ds : List PyData) (d : PyData) : Prop := ∃ (r : List (List Int × List Int)) (a : List Int) (V N : Nat), ds = [.int V, .int N, tR r, tI a] ∧ Told V N r a d
theorem choose_len : ∀ (l : List Nat) (k : Nat) (c : List Nat), c ∈ choose l k → c.length = k ∧ ∀ x ∈ c, x ∈ l
  | _, 0, c, h => by
    simp [choose] at h
    subst h
    exact ⟨rfl, fun x h => by cases h⟩
  | [], k + 1, c, h => by simp [choose] at h
  | x :: xs, k + 1, c, h => by
    rw [choose, List.mem_append] at h
    rcases h with h | h
    · obtain ⟨c', hc', rfl⟩ := List.mem_map.mp h
      obtain ⟨h1, h2⟩ := choose_len xs k c' hc'
      refine ⟨by rw [List.length_cons, h1], fun y hy => ?_⟩
      rcases List.mem_cons.mp hy with rfl | hy
      · exact List.mem_cons_self
      · exact List.mem_cons_of_mem _ (h2 y hy)
    · obtain ⟨h1, h2⟩ := choose_len xs (k + 1) c h
      exact ⟨h1, fun y hy => List.mem_cons_of_mem _ (h2 y hy)⟩
theorem menusF_ok {V N : Nat} {r : List (List Int × List Int)} {a : List Int} (hV : V ≤ 100) (hN : N ≤ 20) : MenuOk (menusF V N r a) := by
  refine ⟨by unfold menusF; rw [List.length_map, List.length_range]; exact hN, fun m hm => ?_⟩
  obtain ⟨b, _, rfl⟩ := List.mem_map.mp hm
  refine ⟨?_, fun n hn => ?_⟩
  · rw [List.length_map]
    have := List.length_filter_le (fun (v : Nat) => allowedF r a b (v : Int)) (List.range V)
    rw [List.length_range] at this
    omega
  · obtain ⟨v, hv, rfl⟩ := List.mem_map.mp hn
    have := List.mem_range.mp (List.mem_filter.mp hv).1
    omega
end K60
namespace K60
open PySem L2
section
variable {P : Program} {w : World} {K : PySem.W.Frag} {mg : Str → Option Value} {base : Heap}
abbrev N_tally : List Str := ["masks", "found", "mask"]
theorem sc_tally : FnScope N_tally ["masks"] (defScope (top 20)) := ⟨rfl, rfl, rfl, by decide +kernel, rfl, by decide +kernel, by decide +kernel⟩
theorem ok_tally {f : Addr} {fd : FuncData} (F : Fun K "tally" "tally" (top 20) f fd) (T : Txt mg)  : FnOk P w K mg base CX0 1 f fd ["masks"] spTally := by
  have nd := sc_tally.nd
  refine F.ok sc_tally (fun vs H Q E h => ?_) fun cdv A outer s H vs Q E hr h => ?_
  · obtain ⟨p, ms, rfl, _⟩ := h; rfl
  · refine ⟨_, (pss_cons (ps_set (i := 1) nd rfl (Or.inl rfl) pe_dnewK) (pss_cons (ps_for PassesOwn.never rfl (pik_list (K := K) rfl (pv 0)) (pg_name (i := 2) nd rfl (Or.inl rfl)) (pss_one (ps_dput (hu_of hr) (pv 1) (pv 2) (pe_op op_add (pe_dget2 (hu_of hr) (pv 1) (pv 2) pe_int ⟨rfl, rfl, rfl, rfl⟩) pe_int) rfl))) (pss_one (ps_ret (pv 1))))), ?_⟩
    obtain ⟨p, ms, rfl, hp, hz, k⟩ := h
    intro q hq
    have sn := same_new (o := .dK []) hq
    refine ⟨_, rfl, p, rfl, ⟨_, SqL.of (sn _ _ hp)⟩, ?_⟩
    refine for_it (walk_list (xs := ms.map V.int)) (fun i σ' H' => (∃ x, σ' = [some (.ref p), some (.ref q), x]) ∧ Same H H' ∧ ∃ es, H' q = some (.dK (kE es)) ∧ TallyOk es (ms.take i)) ⟨⟨_, rfl⟩, sn, [], upd_same, ⟨by simp, Nat.zero_le _, fun f => by simp [sE]⟩⟩ (fun i σ' H' _ p' => SqL.of (p'.2.1 _ _ hp)) ?_ ?_
    · rintro i x σ' H' H'' hi ⟨⟨x0, rfl⟩, s', es, hq', ht⟩ ⟨rfl, hx⟩
      have hi' : i < ms.length := by rw [List.length_map] at hi; exact hi
      obtain rfl : x = .int ms[i] := by
        rw [List.getElem?_map, List.getElem?_eq_getElem hi'] at hx
        exact (Option.some.inj hx).symm
      obtain ⟨o, es', e1, e2, ht'⟩ := tally_step (m := ms[i]) ht
      have hlen : es.length ≤ 100 := by
        have := ht.2.1
        rw [List.length_take] at this
        omega
      refine ⟨_, rfl, q, rfl, .inl ⟨_, .inl hq'⟩, _, rfl, _, DGet.k (k := Sum.inl ms[i]) hq', o, 1, e1, rfl, _, rfl, _, rfl, q, _, rfl, DPut.k (k := Sum.inl ms[i]) hq' (by unfold kE; rw [List.length_map, sizeLine_eq]; omega), ⟨_, rfl⟩, fun c u e => ?_, es', ?_, ?_⟩
      · rw [upd_ne (ne_of_none e hq)]
        exact s' _ _ e
      · rw [e2]; exact upd_same
      · rw [List.take_add_one, List.getElem?_eq_getElem hi']
        exact ht'
    · rintro σ' H' ⟨⟨x, rfl⟩, s', es, hq', ht⟩
      refine ⟨_, rfl, k q es H' s' hq' ?_⟩
      rw [List.length_map, List.take_length] at ht
      exact ht
abbrev N_first_small : List Str := ["allocation", "masks", "counts", "size", "chosen", "whole", "within", "mask", "many", "variant"]
theorem sc_first_small : FnScope N_first_small ["allocation", "masks"] (defScope (top 21)) := ⟨rfl, rfl, rfl, by decide +kernel, rfl, by decide +kernel, by decide +kernel⟩
theorem ok_first_small {f : Addr} {fd : FuncData} (F : Fun K "first_small" "first_small" (top 21) f fd) (T : Txt mg) (G_tally : Has P w K mg base 1 "tally" ["masks"] spTally) (G_mask_of : Has P w K mg base 1 "mask_of" ["chosen"] (spD fMask)) : FnOk P w K mg base CX0 2 f fd ["allocation", "masks"] spFS := by
  have nd := sc_first_small.nd
  refine F.ok sc_first_small (fun vs H Q E h => ?_) fun cdv A outer s H vs Q E hr h => ?_
  · obtain ⟨v, p, a, ms, rfl, _⟩ := h; rfl
  · refine ⟨_, (pss_cons (ps_set (i := 2) nd rfl (Or.inl rfl) (pe_has G_tally hr (by decide) (pa_cons (pv 1) pa_nil))) (pss_cons (ps_for PassesOwn.never rfl (pi_range1 (by rfl) T.range (pa_cons (pe_op op_add (pe_callB (call_lenk (K := K) rfl) (by rfl) T.len PySem.boot_len (pa_cons (pv 0) pa_nil)) pe_int) pa_nil)) (pg_name (i := 3) nd rfl (Or.inl rfl)) (pss_one (ps_for PassesOwn.never rfl (pi_cb rfl T.comb T.range (pe_callB (call_lenk (K := K) rfl) (by rfl) T.len PySem.boot_len (pa_cons (pv 0) pa_nil)) (pv 3)) (pg_name (i := 4) nd rfl (Or.inl rfl)) (pss_cons (ps_set (i := 5) nd rfl (Or.inr rfl) (pe_has G_mask_of hr (by decide) (pa_cons (pv 4) pa_nil))) (pss_cons (ps_set (i := 6) nd rfl (Or.inl rfl) (pe_callB (crk_sum (K := K) rfl rfl) (by rfl) T.sum PyProof.Rows.boot_sum (pa_cons (pe_lock (pe_lc (own := [("mask", 7), ("many", 8)]) (g := (gTup K 2 (gCons (gName 7) (gCons (gName 8) gNil)))) rfl nd (pi_items (pv 2)) (blkOk_by (N := N_first_small) (sc := defScope (top 21)) (by decide +kernel)) (fun _ _ _ _ _ => (pgk_tup (K := K) rfl rfl (pgs_cons (pg_name (i := 7) nd rfl (Or.inl rfl)) (pgs_cons (pg_name (i := 8) nd rfl (Or.inl rfl)) pgs_nil)))) (fun _ _ _ _ _ => (pts_one (pt_cmpR op_eq (pe_op op_or (pv 7) (pv 5)) (pv 5) (nomark _)))) (fun _ _ _ _ _ => (pv 8)))) pa_nil))) (pss_one (ps_if (pt_cmpR op_gt (pv 6) (pe_callB (crk_sum (K := K) rfl rfl) (by rfl) T.sum PyProof.Rows.boot_sum (pa_cons (pe_lc (own := [("variant", 9)]) (g := (gName 9)) (tt := tYes) rfl nd (pik_tup (K := K) rfl (pv 4)) (blkOk_by (N := N_first_small) (sc := defScope (top 21)) (by decide +kernel)) (fun _ _ _ _ _ => (pg_name (i := 9) nd rfl (Or.inl rfl))) (fun _ _ _ _ _ => pts_nil) (fun _ _ _ _ _ => (pe_ix (ixk_tup (K := K) rfl) (pv 0) (pv 9) (fun _ _ => rfl)))) pa_nil)) (nomark _)) (pss_one (ps_ret (pv 4))) pss_nil))))))) (pss_one (ps_ret pe_non)))), ?_⟩
    obtain ⟨v0, p, a, ms, rfl, d0, hV, hp, hz, k⟩ := h
    refine ⟨_, rfl, p, ms, rfl, hp, hz, fun q es H1 s1 hq ht => ?_⟩
    have hesz : es.length ≤ 100 := by have := ht.2.1; omega
    show tSeq _ _ _ _ _
    refine RtR.use (R := fun d => d = .none ∨ ∃ c, FirstC a.length a ms c ∧ d = tI (castL c)) ?_ fun d v H2 r s2 hv => k d v H2 r (s1.trans s2) hv
    refine rr_for (n := a.length + 1) (fun k σ' => (∃ b c d e f g i, σ' = [some v0, some (.ref p), some (.ref q), b, c, d, e, f, g, i]) ∧ ∀ k' : Nat, k' < k → ∀ c', c' ∈ choose (List.range a.length) k' → shortB a ms c' = false) (evi_rng (eva_cons (ev_ii (g := fun i j => i + j) (ev_len (ev_var rfl (d0.s s1))) ev_int) eva_nil) (by rw [List.length_map]; omega) (by rw [List.length_map]; omega)) ⟨⟨_, _, _, _, _, _, _, rfl⟩, fun k' h => by omega⟩ ?_ fun σ' H' s' _ => rr_ret ev_non (.inl rfl)
    rintro kk x σ' H2 hk s2 rfl ⟨⟨b, c, d, e, f, g, i, rfl⟩, hno⟩ D nx rt
    have S := seq_ok hV (show kk ≤ a.length by omega)
    refine nx_for (R := fun d => d = .none ∨ ∃ c, FirstC a.length a ms c ∧ d = tI (castL c)) (fun j σ' => (∃ c d e f g i, σ' = [some v0, some (.ref p), some (.ref q), some (.int (kk : Nat)), c, d, e, f, g, i]) ∧ ∀ (i' : Nat) (c' : List Nat), i' < j → (choose (List.range a.length) kk)[i']? = some c' → shortB a ms c' = false) (evi_cb ((ev_len (ev_var rfl (d0.s (s1.trans s2)))).eq (by rw [List.length_map])) (ev_var rfl (.int _)) (by omega) (by omega) S) ⟨⟨_, _, _, _, _, _, rfl⟩, fun i' c' h => by omega⟩ ?_ rt fun σ' H3 s3 ⟨⟨c, d, e, f, g, i, h⟩, hn⟩ => nx σ' H3 s3 ⟨⟨_, _, _, _, _, _, _, h⟩, fun k' hk' c' hc' => ?_⟩
    · rintro j x σ' H3 hj s3 ⟨c, hc, hx⟩ ⟨⟨c0, d, e, f, g, i, rfl⟩, hno2⟩ D nx rt
      have s13 := s2.trans s3
      have s03 := s1.trans s13
      obtain ⟨hcl, hcm⟩ := choose_len _ _ _ (List.mem_of_getElem? hc)
      have hcI : ∀ n ∈ castL c, 0 ≤ n ∧ n < a.length := fun n hn => by
        obtain ⟨m, hm, rfl⟩ := List.mem_map.mp hn
        have := List.mem_range.mp (hcm m hm)
        omega
      have hcz : (castL c).length = kk := by unfold castL; rw [List.length_map, hcl]
      refine nx_set (ev_call (eva_cons (ev_var rfl hx) eva_nil) ⟨castL c, rfl, fun n hn => by have := hcI n hn; omega, by omega, rfl⟩) fun w H4 s4 dw => ?_
      refine nx_set (e := .int ((ms.filter fun m => Builtin.bitOr m (maskF (castL c)) == maskF (castL c)).length : Nat)) ((ev_sumL (ns := (es.filter fun e => (fun m => Builtin.bitOr m (maskF (castL c)) == maskF (castL c)) e.1).map (·.2)) (evl_items (q := q) (es := es) (fun m => Builtin.bitOr m (maskF (castL c)) == maskF (castL c)) rfl ((s13.trans s4) _ _ hq) (by omega) (fun _ _ => rfl) rfl (fun x y H' => evt_t (ev_eqI (ev_ii (g := fun i j => Builtin.bitOr i j) (ev_var rfl (.int _)) (ev_var rfl (by rw [dw.i]; exact .int _))) (ev_var rfl (by rw [dw.i]; exact .int _)))) fun x y H' => ev_var rfl (.int _))).eq ?_) fun z H5 s5 dz => ?_
      · have := ht.2.2 (fun m => Builtin.bitOr m (maskF (castL c)) == maskF (castL c))
        unfold sE at this
        rw [this]
      have s35 := s4.trans s5
      refine nx_if (b := shortB a ms c) (evt_t (ev_ib (g := fun i j => decide (j < i)) (ev_var rfl dz) (ev_sumL (evl_mapI (fun v => a.getD v.toNat 0) (ev_var rfl (hx.s s35)) (by omega) (fun _ => rfl) fun n H' hn s' => ev_ixI (ev_var rfl ((d0.s s03).s (s35.trans s'))) (ev_var rfl (.int _)) (hcI n hn).1 (hcI n hn).2)))) (fun e H6 s6 => ?_) fun e H6 s6 => nx _ H6 (s35.trans s6) ⟨⟨_, _, _, _, _, _, rfl⟩, fun i' c' h hc' => ?_⟩
      · exact nx_ret (ev_var rfl (hx.s (s35.trans s6))) fun v' H7 s7 hv' => rt _ v' H7 (.inr ⟨c, ⟨kk, j, by omega, hc, e, hno, hno2⟩, rfl⟩) ((s35.trans s6).trans s7) hv'
      · by_cases hij : i' = j
        · subst hij
          rw [hc] at hc'
          cases hc'
          exact e
        · exact hno2 i' c' (by omega) hc'
    · by_cases hkk : k' = kk
      · subst hkk
        obtain ⟨i', hi', e⟩ := List.mem_iff_getElem.mp hc'
        exact hn i' c' (by exact hi') (by simp [hi', e])
      · exact hno k' (by omega) c' hc'
end
end K60
/-! Evidence: its items, rows, what is accepted. -/
namespace K60
open PySem L2
section
variable {K : PySem.W.Frag} {σ : L2.St} {H : Hp} {te tl : TE}
theorem evl_mapG {α : Type} {j : Nat} {xs : List α} (f g : α → PyData) (hl : Ev tl σ H (.tuple (xs.map f))) (hz : xs.length ≤ 1000) (hw : ∀ x, wipe ((wipe σ [j]).set j (some x)) [j] = wipe σ [j])
    (hb : ∀ a x H', a ∈ xs → Same H H' → Dt H' x (f a) → Ev te ((wipe σ [j]).set j (some x)) H' (g a)) : EvL (tLc (iTup K tl) (gName j) tYes te [j]) σ H (xs.map g) := by
  refine (evl_lc (fun i => (xs[i]?).map g) (evi_tup hl) (by rw [List.length_map, sizeLine_eq]; omega) fun i x H' hi s' yd => ?_).eq ?_
  · obtain ⟨d, e1, hx⟩ := yd
    rw [List.getElem?_map] at e1
    cases e2 : xs[i]? with
    | none => rw [e2] at e1; cases e1
    | some n =>
      rw [e2] at e1
      cases e1
      exact ⟨_, gt_name, hw _, true, evt_yes, fun _ => ⟨_, rfl, hb n x H' (List.mem_of_getElem? e2) s' hx⟩, tt_⟩
  · rw [List.length_map]
    have := fm_at (fun n : α => some (g n)) xs
    rw [fm_some] at this
    refine Eq.trans ?_ this
    congr 1
    funext i
    cases xs[i]? <;> rfl
theorem rr_setL {t : TE} {u : TS} {i : Nat} {ds : List PyData} {R : PyData → Prop} (h : EvL t σ H ds) (k : ∀ p ys H', Same H H' → H' p = some (.lst ys) → DtA H' ys ds → RtR u (σ.set i (some (.ref p))) H' R) : RtR (tSeq (tAsg t (gName i)) u) σ H R := fun H1 D s q =>
  h H1 _ s fun p ys H2 s2 _ hp hd => k p ys H2 (s.trans s2) hp hd H2 D (Same.refl _) fun d w H3 r s3 hw => q d w H3 r (s2.trans s3) hw
theorem rt_set2 {t : TE} {u : TS} {i j : Nat} {d e f : PyData} (h : Ev t σ H (.tuple [d, e])) (k : ∀ x y H', Same H H' → Dt H' x d → Dt H' y e → Rt u ((σ.set i (some x)).set j (some y)) H' f) : Rt (tSeq (tAsg t (gTup K 2 (gCons (gName i) (gCons (gName j) gNil)))) u) σ H f := fun H1 D s q =>
  h H1 _ s fun v H2 s2 hv => by
    obtain ⟨a, xs, rfl, ha, hd⟩ := hv.t
    obtain ⟨x, y, rfl, hx, hy⟩ := hd.two
    exact gt_two ha.q _ (k x y H2 (s.trans s2) hx hy H2 D (Same.refl _) fun w H3 s3 hw => q w H3 (s2.trans s3) hw)
/-- list(t) == sorted(t) -/
def sortedB (ns : List Int) : Bool := decide (ns.Pairwise (· ≤ ·))
theorem sorted_eq {ns ns' : List Int} (hp : ns'.Perm ns) (hs : ns'.Pairwise (· ≤ ·)) : decide (ns = ns') = sortedB ns := by
  unfold sortedB
  rw [Bool.eq_iff_iff, decide_eq_true_eq, decide_eq_true_eq]
  refine ⟨fun e => by rw [e]; exact hs, fun h => ?_⟩
  exact List.Perm.eq_of_pairwise (fun a b _ _ h1 h2 => by omega) h hs hp.symm
theorem list_shaped (ns : List Int) : SeqAt.shaped (.list (ns.map PyData.int)) = true := by
  have := ints_depth ns
  unfold SeqAt.shaped
  rw [Bool.and_eq_true, decide_eq_true_eq]
  refine ⟨?_, by simp only [PyData.depth]; omega⟩
  show PyData.canLayAll0 _ = true
  exact ints_lay ns
theorem ev_sortEq {t : TE} {ns : List Int} (h : Ev t σ H (tI ns)) : Ev (tOp (rEqD K) (tCB (fun xs H Q => ∃ p ys, xs = [V.ref p] ∧ (SqL K H p ys ∨ SqT K H p ys) ∧ ∀ l, H l = none → Q (V.ref l) (upd H l (.lst ys))) (tCons t tNil)) (tCB rSortedT (tCons t tNil))) σ H (.bool (sortedB ns)) := fun H1 Q s q =>
  h H1 _ s fun x H2 s2 hx => by
    obtain ⟨a, rfl, ha⟩ := hx.tI_
    refine ⟨a, _, rfl, .inr ha.q, fun l hl => ?_⟩
    have sn := same_new (o := .lst (ns.map V.int)) hl
    refine h _ _ ((s.trans s2).trans sn) fun y H3 s3 hy => ?_
    obtain ⟨b, rfl, hb⟩ := hy.tI_
    refine ⟨b, ns, rfl, hb, fun ns' p hp hs hpn => ?_⟩
    have hl3 := s3 _ _ (upd_same (H := H2) (a := l) (o := .lst (ns.map V.int)))
    have sp := same_new (o := .lst (ns'.map V.int)) hpn
    refine ⟨.list (ns.map PyData.int), .list (ns'.map PyData.int), .lst (SqL.of (sp _ _ hl3)) (DtA.ofInts _ ns).p, .lst (SqL.of upd_same) (DtA.ofInts _ ns').p, list_shaped _, list_shaped _, ?_⟩
    have e : PyData.eqv (.list (ns.map PyData.int)) (.list (ns'.map PyData.int)) = sortedB ns := by
      show PyData.eqvAll _ _ = _
      rw [eqvAll_ints, sorted_eq hp hs]
    rw [e]
    exact q _ _ (((s2.trans sn).trans s3).trans sp) (.bl _)
end
theorem held_fm (p : Nat → Bool) (l : List Nat) : (l.filterMap fun b => if p b = true then some (PyData.int (b : Nat)) else none) = (l.filter p).map (PyData.int ∘ fun (b : Nat) => (b : Int)) := by
  induction l with
  | nil => rfl
  | cons v vs ih =>
    rw [List.filterMap_cons, List.filter_cons]
    cases h : p v with
    | true => simp [ih]
    | false => simp [ih]
theorem tM_inj : ∀ {M N : List (List Int)}, M.map tI = N.map tI → M = N
  | [], [], _ => rfl
  | [], _ :: _, h => by simp at h
  | _ :: _, [], h => by simp at h
  | m :: M, n :: N, h => by
    rw [List.map_cons, List.map_cons] at h
    injection h with h1 h2
    injection h1 with h1
    rw [ints_inj h1, tM_inj h2]
inductive Itm
  | i (n : Int)
  | b (x : Bool)
  | t (ns : List Int)
def Itm.d : Itm → PyData
  | .i n => .int n
  | .b x => .bool x
  | .t ns => tI ns
def Itm.v : Itm → Int
  | .i n => n
  | _ => 0
def Itm.sm : Itm → Prop
  | .t ns => ns.length ≤ 500
  | _ => True
def inR (m : Nat) : Itm → Bool
  | .i n => decide (0 ≤ n) && decide (n < m)
  | _ => false
def ascL (ns : List Int) : Bool := (List.range (ns.length - 1)).all fun i => decide (ns.getD i 0 < ns.getD (i + 1) 0)
def rowB (ns : List Int) (m : Nat) : Bool := (ns.all fun n => decide (0 ≤ n) && decide (n < m)) && ascL ns
def rowX (xs : List Itm) (m : Nat) : Bool := xs.all (inR m) && ascL (xs.map Itm.v)
def ascI (x : Itm) (m : Nat) : Bool := match x with
  | .t ns => rowB ns m
  | _ => false
theorem inR_all {xs : List Itm} {m : Nat} (h : xs.all (inR m) = true) : xs = (xs.map Itm.v).map Itm.i := by
  rw [List.map_map]
  refine (List.map_id xs).symm.trans (List.map_congr_left fun x hx => ?_)
  have := List.all_eq_true.mp h x hx
  cases x with
  | i n => rfl
  | b _ => cases this
  | t _ => cases this
theorem rowX_i (ns : List Int) (m : Nat) : rowX (ns.map Itm.i) m = rowB ns m := by
  unfold rowX rowB
  rw [List.all_map, List.map_map]
  have : (Itm.v ∘ Itm.i) = id := rfl
  rw [this, List.map_id]
  rfl
theorem asc_lt {ns : List Int} : ascL ns = true ↔ ns.Pairwise (· < ·) := by
  unfold ascL
  rw [List.all_eq_true]
  constructor
  · intro h
    have step : ∀ i, i + 1 < ns.length → ns.getD i 0 < ns.getD (i + 1) 0 := fun i hi => of_decide_eq_true (h i (List.mem_range.mpr (by omega)))
    have far : ∀ k i, i + k + 1 < ns.length → ns.getD i 0 < ns.getD (i + k + 1) 0 := by
      intro k
      induction k with
      | zero => intro i hi; exact step i hi
      | succ k ih => intro i hi; exact Int.lt_trans (ih i (by omega)) (step (i + k + 1) hi)
    rw [List.pairwise_iff_getElem]
    intro i j hi hj hij
    have := far (j - i - 1) i (by omega)
    rw [show i + (j - i - 1) + 1 = j by omega] at this
    simpa [hi, hj] using this
  · intro h i hi
    have hi := List.mem_range.mp hi
    rw [List.pairwise_iff_getElem] at h
    have := h i (i + 1) (by omega) (by omega) (by omega)
    rw [decide_eq_true_eq]
    have h1 : i < ns.length := by omega
    have h2 : i + 1 < ns.length := by omega
    simpa [h1, h2] using this
theorem asc_sorted (ns : List Int) : (sortedB ns && ns.all fun k => ((ns.count k : Nat) : Int) == 1) = ascL ns := by
  rw [Bool.eq_iff_iff, Bool.and_eq_true, asc_lt, List.all_eq_true]
  unfold sortedB
  rw [decide_eq_true_eq]
  constructor
  · rintro ⟨h1, h2⟩
    have nd : ns.Nodup := by
      rw [List.nodup_iff_count]
      intro a
      by_cases ha : a ∈ ns
      · have := h2 a ha
        rw [beq_iff_eq] at this
        omega
      · rw [List.count_eq_zero.mpr ha]; omega
    rw [List.nodup_iff_pairwise_ne] at nd
    exact (h1.and nd).imp fun {a b} h => by omega
  · intro h
    have nd : ns.Nodup := by
      rw [List.nodup_iff_pairwise_ne]
      exact h.imp fun {a b} h => by omega
    refine ⟨h.imp fun {a b} h => by omega, fun k hk => ?_⟩
    rw [nd.count, if_pos hk]
    rfl
theorem rowB_in {ns : List Int} {m : Nat} (h : rowB ns m = true) : ∀ n ∈ ns, 0 ≤ n ∧ n < m := fun n hn => by
  unfold rowB at h
  rw [Bool.and_eq_true, List.all_eq_true] at h
  have := h.1 n hn
  rw [Bool.and_eq_true, decide_eq_true_eq, decide_eq_true_eq] at this
  exact this
theorem getDM_mem {M : List (List Int)} {b : Int} (h0 : 0 ≤ b) (h1 : b < M.length) : M.getD b.toNat [] ∈ M := by
  have h : b.toNat < M.length := by omega
  have : M.getD b.toNat [] = M[b.toNat] := by simp [h]
  rw [this]
  exact List.getElem_mem h
theorem ev_ixM {K : PySem.W.Frag} {σ : L2.St} {H : Hp} {ta tb : TE} {M : List (List Int)} {b : Int} (ha : Ev ta σ H (tM M)) (hb : Ev tb σ H (.int b)) (h0 : 0 ≤ b) (h1 : b < M.length) : Ev (tOp (rIxT K) ta tb) σ H (tI (M.getD b.toNat [])) := by
  refine ev_ix (n := b.toNat) ha (hb.eq (by rw [Int.toNat_of_nonneg h0])) ?_
  have h : b.toNat < M.length := by omega
  simp [h]
theorem btw_inR (x : Itm) (n : Nat) : isBtw x.d 0 ((n : Int) - 1) = inR n x := by
  cases x with
  | i m =>
    show (decide (0 ≤ m) && decide (m ≤ (n : Int) - 1)) = (decide (0 ≤ m) && decide (m < n))
    congr 1
    rw [Bool.eq_iff_iff, decide_eq_true_eq, decide_eq_true_eq]
    omega
  | b _ => rfl
  | t _ => rfl
theorem inR_nat {m : Nat} {x : Itm} (h : inR m x = true) : ∃ i : Nat, x = .i (i : Nat) ∧ i < m := by
  cases x with
  | i n =>
    have h : (decide (0 ≤ n) && decide (n < m)) = true := h
    rw [Bool.and_eq_true, decide_eq_true_eq, decide_eq_true_eq] at h
    exact ⟨n.toNat, by rw [Int.toNat_of_nonneg h.1], by omega⟩
  | b _ => cases h
  | t _ => cases h
theorem tR_getD {r : List (List Int × List Int)} {i : Nat} (h : i < r.length) : (r.map tP)[i]? = some (tP (r.getD i ([], []))) := by
  rw [List.getElem?_map, List.getElem?_eq_getElem h]
  simp [h]
theorem rD_mem {r : List (List Int × List Int)} {i : Nat} (h : i < r.length) : r.getD i ([], []) ∈ r := by
  have : r.getD i ([], []) = r[i] := by simp [h]
  rw [this]
  exact List.getElem_mem h
theorem three_of {α : Type} : ∀ {xs : List α}, xs.length = 3 → ∃ x y z, xs = [x, y, z]
  | [x, y, z], _ => ⟨x, y, z, rfl⟩
theorem two_of {α : Type} : ∀ {xs : List α}, xs.length = 2 → ∃ x y, xs = [x, y]
  | [x, y], _ => ⟨x, y, rfl⟩
def shortI (a : List Int) (M : List (List Int)) (x y : Itm) : Bool := match x, y with
  | .t c, .t h => rowB c a.length && (rowB h M.length && (decide ((c.map fun v => a.getD v.toNat 0).sum < (h.length : Int)) && h.all fun b => (M.getD b.toNat []).all fun v => c.contains v))
  | _, _ => false
def needI (r : List (List Int × List Int)) (N : Nat) (x y z : Itm) : Bool := inR r.length x && (inR r.length y && (inR N z && goesF (r.getD x.v.toNat ([], [])) (r.getD y.v.toNat ([], [])) z.v.toNat))
/-- evidence: what it is -/
inductive Evd
  | no
  | li
  | em
  | tu (s : Str) (xs : List Itm)
def needL (r : List (List Int × List Int)) (N : Nat) : List Itm → Bool
  | [x, y, z] => needI r N x y z
  | _ => false
def shortL (a : List Int) (M : List (List Int)) : List Itm → Bool
  | [x, y] => shortI a M x y
  | _ => false
def evB (r : List (List Int × List Int)) (a : List Int) (M : List (List Int)) (N : Nat) : Evd → Bool
  | .tu s xs => if s = "needless" then needL r N xs else if s = "short" then shortL a M xs else false
  | _ => false
theorem evB_tu (r : List (List Int × List Int)) (a : List Int) (M : List (List Int)) (N : Nat) (s : Str) (xs : List Itm) : evB r a M N (.tu s xs) = if s = "needless" then needL r N xs else if s = "short" then shortL a M xs else false := rfl
def EvdOk (H : Hp) (v : V) : Evd → Prop
  | .no => v = .non
  | .li => ∃ p ys, v = .ref p ∧ H p = some (.lst ys)
  | .em => Dt H v (.tuple [])
  | .tu s xs => Dt H v (.tuple (.str s :: xs.map Itm.d)) ∧ xs.length ≤ 20 ∧ ∀ x ∈ xs, x.sm
theorem EvdOk.s {H H' : Hp} {v : V} {e : Evd} (h : EvdOk H v e) (s : Same H H') : EvdOk H' v e := by
  cases e with
  | no => exact h
  | li =>
    obtain ⟨p, ys, rfl, hp⟩ := h
    exact ⟨p, ys, rfl, s _ _ hp⟩
  | em => exact Dt.s h s
  | tu t xs => exact ⟨h.1.s s, h.2⟩
def fAsc (ds : List PyData) (d : PyData) : Prop := ∃ (x : Itm) (m : Nat), ds = [x.d, .int m] ∧ x.sm ∧ d = .bool (ascI x m)
def fShow (ds : List PyData) (d : PyData) : Prop := ∃ (a : List Int) (M : List (List Int)) (x y : Itm), ds = [tI a, tM M, .tuple [x.d, y.d]] ∧ a.length ≤ 100 ∧ MenuOk M ∧ x.sm ∧ y.sm ∧ d = .bool (shortI a M x y)
def fShort (ds : List PyData) (d : PyData) : Prop := ∃ (a : List Int) (M : List (List Int)) (x y : Itm), ds = [tM M, tI a, x.d, y.d] ∧ a.length ≤ 100 ∧ MenuOk M ∧ x.sm ∧ y.sm ∧ d = .bool (shortI a M x y)
def fNeedl (ds : List PyData) (d : PyData) : Prop := ∃ (r : List (List Int × List Int)) (V N : Nat) (xs : List Itm), ds = [.int N, tR r, .tuple (xs.map Itm.d)] ∧ (∀ p ∈ r, VP V N p) ∧ r.length ≤ 100 ∧ N ≤ 100 ∧ d = .bool (needL r N xs)
def fRow (ds : List PyData) (d : PyData) : Prop := (∃ (n : Int) (m : Nat), ds = [.int n, .int m] ∧ d = .bool false) ∨ (∃ (b : Bool) (m : Nat), ds = [.bool b, .int m] ∧ d = .bool false) ∨ ∃ (xs : List Itm) (m : Nat), ds = [.tuple (xs.map Itm.d), .int m] ∧ xs.length ≤ 500 ∧ d = .bool (rowX xs m)
theorem fRow_itm {x : Itm} {m : Nat} (h : x.sm) : fRow [x.d, .int m] (.bool (ascI x m)) := by
  cases x with
  | i n => exact .inl ⟨n, m, rfl, rfl⟩
  | b n => exact .inr (.inl ⟨n, m, rfl, rfl⟩)
  | t ns =>
    refine .inr (.inr ⟨ns.map Itm.i, m, ?_, by rw [List.length_map]; exact h, ?_⟩)
    · rw [List.map_map]; rfl
    · rw [rowX_i]; rfl
theorem fRow_one {x : Itm} {m : Nat} : fRow [.tuple [x.d], .int m] (.bool (inR m x)) := by
  refine .inr (.inr ⟨[x], m, rfl, by show 1 ≤ 500; decide, ?_⟩)
  unfold rowX
  simp [ascL]
end K60
namespace K60
open PySem L2
section
variable {P : Program} {w : World} {K : PySem.W.Frag} {mg : Str → Option Value} {base : Heap}
abbrev N_small_set : List Str := ["allocation", "menus", "chosen", "menu", "within", "bucket", "one"]
theorem sc_small_set : FnScope N_small_set ["allocation", "menus"] (defScope (top 22)) := ⟨rfl, rfl, rfl, by decide +kernel, rfl, by decide +kernel, by decide +kernel⟩
theorem ok_small_set {f : Addr} {fd : FuncData} (F : Fun K "small_set" "small_set" (top 22) f fd) (T : Txt mg) (G_first_small : Has P w K mg base 2 "first_small" ["allocation", "masks"] spFS) (G_mask_of : Has P w K mg base 1 "mask_of" ["chosen"] (spD fMask)) : FnOk P w K mg base CX0 3 f fd ["allocation", "menus"] (spR gSS rSS) := by
  have nd := sc_small_set.nd
  refine ok_r F sc_small_set (fun ds h => ?_) fun cdv A outer s H0 E hr => ⟨_, (pss_cons (ps_set (i := 2) nd rfl (Or.inr rfl) (pe_has G_first_small hr (by decide) (pa_cons (pv 0) (pa_cons (pe_lc (own := [("menu", 3)]) (g := (gName 3)) (tt := tYes) rfl nd (pik_tup (K := K) rfl (pv 1)) (blkOk_by (N := N_small_set) (sc := defScope (top 22)) (by decide +kernel)) (fun _ _ _ _ _ => (pg_name (i := 3) nd rfl (Or.inl rfl))) (fun _ _ _ _ _ => pts_nil) (fun _ _ _ _ _ => (pe_has G_mask_of hr (by decide) (pa_cons (pv 3) pa_nil)))) pa_nil)))) (pss_cons (ps_if (pt_cmp (pc_isN (pv 2))) (pss_one (ps_ret pe_non)) pss_nil) (pss_cons (ps_setLc (i := 4) (own := [("bucket", 5), ("menu", 3)]) (g := (gTup K 2 (gCons (gName 5) (gCons (gName 3) gNil)))) rfl nd rfl rfl (sw_true rfl rfl rfl (by decide +kernel)) (pik_enumT (K := K) rfl T.enum (pa_cons (pv 1) pa_nil)) (blkOk_by (N := N_small_set) (sc := defScope (top 22)) (by decide +kernel)) (fun _ _ _ _ _ => (pgk_tup (K := K) rfl rfl (pgs_cons (pg_name (i := 5) nd rfl (Or.inl rfl)) (pgs_cons (pg_name (i := 3) nd rfl (Or.inl rfl)) pgs_nil)))) (fun _ _ _ _ _ => (pts_one (pt_val (pe_callB (crk_all (K := K) rfl rfl) (by rfl) T.all PyProof.Rows.boot_all (pa_cons (pe_lc (own := [("one", 6)]) (g := (gName 6)) (tt := tYes) rfl nd (pik_tup (K := K) rfl (pv 3)) (blkOk_by (N := N_small_set) (sc := relab (lcSc (xAsg (bodyAt 22 2)))) (by decide +kernel)) (fun _ _ _ _ _ => (pg_name (i := 6) nd rfl (Or.inl rfl))) (fun _ _ _ _ _ => pts_nil) (fun _ _ _ _ _ => (pe_cmpR (opk_in (K := K) rfl) (pv 6) (pv 2) (by with_unfolding_all rfl)))) pa_nil))))) (fun _ _ _ _ _ => (pv 5))) (pss_one (ps_ret (pe_tupF (pa_cons (pv 2) (pa_cons (pe_callTy (callk_tupF (K := K) rfl) (by rfl) T.tuple PyProof.Rows.boot_tuple (pa_cons (pv 4) pa_nil)) pa_nil)))))))), fun ds vs H h hd => ?_⟩
  · obtain ⟨a, M, rfl, _⟩ := h; rfl
  · skip
    obtain ⟨a, M, rfl, hV, hM, hm⟩ := h
    obtain ⟨v0, v1, rfl, d0, d1⟩ := hd.two
    intro H1 D s1 q
    refine ⟨v0, rfl, ?_⟩
    refine (evl_mapG (H := H1) (xs := M) tI (fun m => .int (maskF m)) (ev_var rfl (d1.s s1)) (by omega) (fun _ => rfl) fun m x H' hmm s' hx => ev_call (eva_cons (ev_var rfl hx) eva_nil) ⟨m, rfl, (hm m hmm).2, (hm m hmm).1, rfl⟩).go fun p ys H2 s2 _ hp hdd => ?_
    have hdd' : DtA H2 ys ((M.map maskF).map PyData.int) := by rw [List.map_map]; exact hdd
    rw [hdd'.ints] at hp
    refine ⟨v0, p, a, M.map maskF, rfl, (d0.s s1).s s2, hV, hp, by rw [List.length_map]; omega, fun d v H3 hr s3 hv => ?_⟩
    have s13 := (s1.trans s2).trans s3
    show tSeq _ _ _ _ _
    refine RtR.use (R := rSS [tI a, tM M]) ?_ fun d v H4 r s4 hv => q d v H4 r ((s2.trans s3).trans s4) hv
    rcases hr with rfl | ⟨c, hc, rfl⟩
    · exact rr_sif (evt_b (ev_isN (ev_var rfl hv))) (fun _ => rr_ret ev_non ⟨a, M, rfl, .inl rfl⟩) fun e => by cases e
    refine rr_sif (evt_b (ev_isN (ev_var rfl hv))) ff fun _ => ?_
    refine rr_setL (ds := (heldF M (castL c)).map PyData.int) ((evl_lc (fun b => if ((M.getD b []).all fun v => (castL c).contains v) = true then some (.int (b : Nat)) else none) (evi_enum (eva_cons (ev_var rfl (d1.s s13)) eva_nil)) (by rw [List.length_map, sizeLine_eq]; omega) fun i x H4 hi s4 yd => ?_).eq ?_) fun p ys H4 s4 hp hdy => rr_ret (ev_tup (eva_cons (ev_var rfl (hv.s s4)) (eva_cons (ev_tupP (evp_var rfl) hp hdy) eva_nil)) (by show 2 ≤ sizeLine; decide)) ⟨a, M, rfl, .inr ⟨c, hc, rfl⟩⟩
    · obtain ⟨T, y, dd, rfl, hT, e1, hy⟩ := yd
      rw [List.getElem?_map] at e1
      cases e2 : M[i]? with
      | none => rw [e2] at e1; cases e1
      | some m =>
        rw [e2] at e1
        cases e1
        have em : M.getD i [] = m := by rw [List.getD_eq_getElem?_getD, e2]; rfl
        refine ⟨_, gt_two (.inl (.inl hT)), rfl, m.all fun v => (castL c).contains v, evt_b ((ev_all (evl_mapB (fun v => (castL c).contains v) (ev_var rfl hy) (by have := (hm m (List.mem_of_getElem? e2)).1; omega) (fun _ => rfl) fun n H5 _ s5 => ev_in (ev_var rfl (.int _)) (ev_var rfl (hv.s (s4.trans s5))))).eq (by rw [all_idI])), fun e => ⟨_, by rw [em, if_pos e], ev_var rfl (.int _)⟩, fun e => by rw [em, if_neg (by rw [e]; exact Bool.false_ne_true)]⟩
    · unfold heldF
      rw [List.length_map, List.map_map]
      exact held_fm _ _
abbrev N_why_none : List Str := ["variants", "buckets", "rule", "allocation", "wrong", "short"]
theorem sc_why_none : FnScope N_why_none ["variants", "buckets", "rule", "allocation"] (defScope (top 40)) := ⟨rfl, rfl, rfl, by decide +kernel, rfl, by decide +kernel, by decide +kernel⟩
theorem ok_why_none {f : Addr} {fd : FuncData} (F : Fun K "why_none" "why_none" (top 40) f fd) (T : Txt mg) (G_check_all : Has P w K mg base 9 "check_all" ["variants", "buckets", "rule", "allocation"] (spD fCkAll)) (G_first_needless : Has P w K mg base 2 "first_needless" ["buckets", "rule"] (spR gNeed rNeed)) (G_small_set : Has P w K mg base 3 "small_set" ["allocation", "menus"] (spR gSS rSS)) (G_menus_of : Has P w K mg base 2 "menus_of" ["variants", "buckets", "rule", "allocation"] (spD fMenus)) : FnOk P w K mg base CX0 10 f fd ["variants", "buckets", "rule", "allocation"] (spR gWhy rWhy) := by
  have nd := sc_why_none.nd
  refine ok_r F sc_why_none (fun ds h => ?_) fun cdv A outer s H0 E hr => ⟨_, (pss_cons (ps_expr (pe_has G_check_all hr (by decide) (pa_cons (pv 0) (pa_cons (pv 1) (pa_cons (pv 2) (pa_cons (pv 3) pa_nil)))))) (pss_cons (ps_set (i := 4) nd rfl (Or.inl rfl) (pe_has G_first_needless hr (by decide) (pa_cons (pv 1) (pa_cons (pv 2) pa_nil)))) (pss_cons (ps_if (pt_cmp (pc_notN (pv 4))) (pss_one (ps_ret (pe_tupF (pa_cons pe_str (pak_star (K := K) rfl (pv 4) pa_nil))))) pss_nil) (pss_cons (ps_set (i := 5) nd rfl (Or.inl rfl) (pe_has G_small_set hr (by decide) (pa_cons (pv 3) (pa_cons (pe_has G_menus_of hr (by decide) (pa_cons (pv 0) (pa_cons (pv 1) (pa_cons (pv 2) (pa_cons (pv 3) pa_nil))))) pa_nil)))) (pss_one (ps_ret (pe_ifExp (pt_cmp (pc_isN (pv 5))) pe_non (pe_tupF (pa_cons pe_str (pak_star (K := K) rfl (pv 5) pa_nil)))))))))), fun ds vs H h hd => ?_⟩
  · obtain ⟨r, a, V, N, rfl, _⟩ := h; rfl
  · skip
    obtain ⟨r, a, V, N, rfl, hr1, ha, hs, h3⟩ := h
    obtain ⟨v0, v1, v2, v3, rfl, d0, d1, d2, d3⟩ := hd.four
    have hs' := hs
    obtain ⟨hs1, hs2, hs3⟩ := hs'
    refine rr_drop (ev_call (eva_cons (ev_var rfl d0) (eva_cons (ev_var rfl d1) (eva_cons (ev_var rfl d2) (eva_cons (ev_var rfl d3) eva_nil)))) ⟨r, a, V, N, rfl, hr1, ha, hs, rfl⟩) (rr_setR (eva_cons (ev_var rfl d1) (eva_cons (ev_var rfl d2) eva_nil)) ⟨r, V, N, rfl, hr1, hs⟩ fun d v H2 hrr s2 hv => ?_)
    rcases hrr with rfl | ⟨i, j, b, rfl⟩
    · refine rr_sif (evt_b (ev_notN (ev_var rfl hv))) ff fun _ => ?_
      refine rr_setR (eva_cons (ev_var rfl (d3.s s2)) (eva_cons (ev_call (eva_cons (ev_var rfl (d0.s s2)) (eva_cons (ev_var rfl (d1.s s2)) (eva_cons (ev_var rfl (d2.s s2)) (eva_cons (ev_var rfl (d3.s s2)) eva_nil)))) ⟨r, a, V, N, rfl, hr1, ha, hs, rfl⟩) eva_nil)) ⟨a, menusF V N r a, rfl, by rw [ha.1]; exact h3, menusF_ok (by omega) hs3⟩ fun d v H3 hrr s3 hv => ?_
      obtain ⟨a', M', e, hrr⟩ := hrr
      injection e with e1 e
      injection e with e2 _
      injection e1 with e1
      injection e2 with e2
      have e1 := ints_inj e1
      subst e1
      rcases hrr with rfl | ⟨c, hc, rfl⟩
      · exact rr_ret (ev_if (evt_b (ev_isN (ev_var rfl hv))) (fun _ => ev_non) fun e => by cases e) ⟨r, a, V, N, rfl, .inl rfl⟩
      · have e3 := tM_inj e2
        subst e3
        rw [ha.1] at hc
        exact rr_ret (ev_if (evt_b (ev_isN (ev_var rfl hv))) ff fun _ => ev_tup (eva_cons ev_str (eva_star (ev_var rfl hv) eva_nil)) (by show 3 ≤ sizeLine; decide)) ⟨r, a, V, N, rfl, .inr (.inr ⟨c, hc, rfl⟩)⟩
    · refine rr_sif (evt_b (ev_notN (ev_var rfl hv))) (fun _ => rr_ret (ev_tup (eva_cons ev_str (eva_star (ev_var rfl hv) eva_nil)) (by show 4 ≤ sizeLine; decide)) ⟨r, a, V, N, rfl, .inr (.inl ⟨i, j, b, rfl⟩)⟩) fun e => by cases e
end
end K60
namespace K60
open PySem L2

theorem Itm.notT {x : Itm} (h : ∀ ns, x ≠ .t ns) : isT x.d = false := by
  cases x with
  | i n => rfl
  | b n => rfl
  | t ns => exact absurd rfl (h ns)
theorem cut2 (x y z : PyData) : cutD [x, y, z] none (some 2) = [x, y] := rfl
def spAcc : Sp := fun vs H Q _ => ∃ (r : List (List Int × List Int)) (a : List Int) (V N : Nat) (vs4 : List L2.V) (v : L2.V) (e : Evd), vs = vs4 ++ [v] ∧ DtA H vs4 [.int V, .int N, tR r, tI a] ∧ VR V N r ∧ Alc V N a ∧ Sz V N ∧ EvdOk H v e ∧ ∀ H', Same H H' → Q (.bl (evB r a (menusF V N r a) N e)) H'
def spRight : Sp := fun vs H Q _ => ∃ (r : List (List Int × List Int)) (a : List Int) (V N : Nat) (M : List (List Int)) (vs3 : List L2.V) (v : L2.V) (e : Evd), vs = vs3 ++ [v] ∧ DtA H vs3 [tR r, tM M, tI a] ∧ VR V N r ∧ a.length ≤ 5 ∧ MenuOk M ∧ M.length = N ∧ EvdOk H v e ∧ ∀ H', Same H H' → Q (.bl (evB r a M N e)) H'
section
variable {K : PySem.W.Frag} {σ : L2.St} {H : Hp} {t : TE}
theorem ev_isTupV {v : V} {e : Evd} (h : EvP t σ H v) (he : EvdOk H v e) : Ev (tCB (rIsiN K "tuple") (tCons t (tCons (tC (.ty "tuple")) tNil))) σ H (.bool (match e with | .em => true | .tu _ _ => true | _ => false)) := fun H1 Q s q =>
  h H1 _ s fun H2 s2 => by
    have he2 := (he.s s).s s2
    refine ⟨v, _, rfl, ?_, q _ H2 s2 (.bl _)⟩
    cases e with
    | no =>
      have : v = .non := he2
      subst this
      exact (Dt.non (H := H2)).isT
    | li =>
      obtain ⟨p, ys, rfl, hp⟩ := he2
      exact lst_noT hp
    | em => exact Dt.isT he2
    | tu s xs => exact Dt.isT he2.1
end
section
variable {P : Program} {w : World} {K : PySem.W.Frag} {mg : Str → Option Value} {base : Heap}
abbrev N_is_ascending : List Str := ["value", "most", "one", "at"]
theorem sc_is_ascending : FnScope N_is_ascending ["value", "most"] (defScope (top 23)) := ⟨rfl, rfl, rfl, by decide +kernel, rfl, by decide +kernel, by decide +kernel⟩
theorem ok_is_ascending {f : Addr} {fd : FuncData} (F : Fun K "is_ascending" "is_ascending" (top 23) f fd) (T : Txt mg) (G_is_integer : Has P w K mg base 1 "is_integer" ["value"] (spD fIsInt)) : FnOk P w K mg base CX0 2 f fd ["value", "most"] (spD fAsc) := by
  have nd := sc_is_ascending.nd
  refine ok_d F sc_is_ascending (fun ds d h => ?_) fun cdv A outer s H0 E hr => ⟨_, (pss_cons (ps_if (PW.pt (pw_or (pt_not (pt_val (pek_isi (K := K) rfl T.isi T.tuple PyProof.Rows.boot_tuple (pv 0)))) (pw_or1 (pt_not (pt_val (pe_callB (crk_all (K := K) rfl rfl) (by rfl) T.all PyProof.Rows.boot_all (pa_cons (pe_lc (own := [("one", 2)]) (g := (gName 2)) (tt := tYes) rfl nd (pik_tup (K := K) rfl (pv 0)) (blkOk_by (N := N_is_ascending) (sc := defScope (top 23)) (by decide +kernel)) (fun _ _ _ _ _ => (pg_name (i := 2) nd rfl (Or.inl rfl))) (fun _ _ _ _ _ => pts_nil) (fun _ _ _ _ _ => (pe_and (pe_has G_is_integer hr (by decide) (pa_cons (pv 2) pa_nil)) (pe_one (pe_chain op_le op_lt pe_int (pv 2) (pv 1)))))) pa_nil))))))) (pss_one (ps_ret pe_bl)) pss_nil) (pss_one (ps_ret (pe_callB (crk_all (K := K) rfl rfl) (by rfl) T.all PyProof.Rows.boot_all (pa_cons (pe_lc (own := [("at", 3)]) (g := (gName 3)) (tt := tYes) rfl nd (pi_range1 (by rfl) T.range (pa_cons (pe_op op_sub (pe_callB (call_lenk (K := K) rfl) (by rfl) T.len PySem.boot_len (pa_cons (pv 0) pa_nil)) pe_int) pa_nil)) (blkOk_by (N := N_is_ascending) (sc := defScope (top 23)) (by decide +kernel)) (fun _ _ _ _ _ => (pg_name (i := 3) nd rfl (Or.inl rfl))) (fun _ _ _ _ _ => pts_nil) (fun _ _ _ _ _ => (pe_cmpR op_lt (pe_ix (ixk_tup (K := K) rfl) (pv 0) (pv 3) (fun _ _ => rfl)) (pe_ix (ixk_tup (K := K) rfl) (pv 0) (pe_op op_add (pv 3) pe_int) (fun _ _ => rfl)) (nomark _)))) pa_nil))))), fun ds d vs H h hd => ?_⟩
  · obtain ⟨x, m, rfl, _⟩ := h; rfl
  · skip
    obtain ⟨x, m, rfl, hsm, rfl⟩ := h
    obtain ⟨v0, v1, rfl, d0, d1⟩ := hd.two
    by_cases hx : ∃ ns, x = .t ns
    · obtain ⟨ns, rfl⟩ := hx
      have hz : ns.length ≤ 500 := hsm
      have d0' : Dt H v0 (tI ns) := d0
      refine rt_sif (b := !(ns.all fun n => decide (0 ≤ n) && decide (n < m))) ((evt_or (evt_not (evt_b (ev_isTup (ev_var rfl d0')))) fun _ => evt_not (evt_b (ev_all (evl_mapB (fun n => decide (0 ≤ n) && decide (n < m)) (ev_var rfl d0') (by omega) (fun _ => rfl) fun n H' hn s' => (ev_and (ev_call (eva_cons (ev_var rfl (.int _)) eva_nil) ⟨_, rfl, rfl⟩) fun _ => ev_chain (g := fun i j => decide (i ≤ j)) (g' := fun i j => decide (i < j)) ev_int (ev_var rfl (.int _)) (ev_var rfl (d1.s s'))).eq rfl)))).eq (by rw [all_idI]; rfl)) (fun e => ?_) fun e => ?_
      · refine rt_ret (ev_bl.eq ?_)
        have e' : (ns.all fun n => decide (0 ≤ n) && decide (n < m)) = false := by simpa using e
        show _ = PyData.bool (rowB ns m)
        unfold rowB
        rw [e']; rfl
      · have e' : (ns.all fun n => decide (0 ≤ n) && decide (n < m)) = true := by simpa using e
        refine rt_ret (((ev_all (bs := (List.range (ns.length - 1)).map fun i => decide (ns.getD i 0 < ns.getD (i + 1) 0)) ((evl_mapN (n := ns.length - 1) (fun i => .bool (decide (ns.getD i 0 < ns.getD (i + 1) 0))) (eva_cons (ev_ii (g := fun i j => i - j) (ev_len (ev_var rfl d0')) ev_int) eva_nil) (by rw [List.length_map]; omega) (by rw [List.length_map]; omega) (fun _ => rfl) fun i H' hi s' => ?_).eq (by rw [List.map_map]; rfl)))).eq ?_)
        · exact ev_ib (g := fun i j => decide (i < j)) (ev_ixN (ev_var rfl (d0'.s s')) (ev_var rfl (.int _)) (by omega)) (ev_ixN (n := i + 1) (ev_var rfl (d0'.s s')) ((ev_ii (g := fun i j => i + j) (ev_var rfl (.int _)) ev_int).eq rfl) (by omega))
        · rw [all_idN]
          show _ = PyData.bool (rowB ns m)
          unfold rowB
          rw [e']; rfl
    · have hn : ∀ ns, x ≠ .t ns := fun ns e => hx ⟨ns, e⟩
      refine rt_sif (b := true) ((evt_or (b := true) (evt_not (evt_b (ev_isTup (ev_var rfl d0)))) fun h => ?_).eq ?_) (fun _ => rt_ret (ev_bl.eq ?_)) fun e => by cases e
      · rw [Itm.notT hn] at h; cases h
      · rw [Itm.notT hn]; rfl
      · cases x with
        | i n => rfl
        | b n => rfl
        | t ns => exact absurd rfl (hn ns)
abbrev N_shows_small : List Str := ["allocation", "menus", "value", "chosen", "within", "variant", "bucket", "one"]
theorem sc_shows_small : FnScope N_shows_small ["allocation", "menus", "value"] (defScope (top 24)) := ⟨rfl, rfl, rfl, by decide +kernel, rfl, by decide +kernel, by decide +kernel⟩
theorem ok_shows_small {f : Addr} {fd : FuncData} (F : Fun K "shows_small" "shows_small" (top 24) f fd) (T : Txt mg) (G_is_ascending : Has P w K mg base 2 "is_ascending" ["value", "most"] (spD fAsc)) : FnOk P w K mg base CX0 3 f fd ["allocation", "menus", "value"] (spD fShow) := by
  have nd := sc_shows_small.nd
  refine ok_d F sc_shows_small (fun ds d h => ?_) fun cdv A outer s H0 E hr => ⟨_, (pss_cons (ps_if (PW.pt (pw_or (pt_not (pt_val (pek_isi (K := K) rfl T.isi T.tuple PyProof.Rows.boot_tuple (pv 2)))) (pw_or1 (pt_cmpR op_ne (pe_callB (call_lenk (K := K) rfl) (by rfl) T.len PySem.boot_len (pa_cons (pv 2) pa_nil)) pe_int (nomark _))))) (pss_one (ps_ret pe_bl)) pss_nil) (pss_cons (ps_asg (pv 2) (pgk_tup (K := K) rfl rfl (pgs_cons (pg_name (i := 3) nd rfl (Or.inr rfl)) (pgs_cons (pg_name (i := 4) nd rfl (Or.inl rfl)) pgs_nil)))) (pss_cons (ps_if (PW.pt (pw_or (pt_not (pt_val (pe_has G_is_ascending hr (by decide) (pa_cons (pv 3) (pa_cons (pe_callB (call_lenk (K := K) rfl) (by rfl) T.len PySem.boot_len (pa_cons (pv 0) pa_nil)) pa_nil))))) (pw_or1 (pt_not (pt_val (pe_has G_is_ascending hr (by decide) (pa_cons (pv 4) (pa_cons (pe_callB (call_lenk (K := K) rfl) (by rfl) T.len PySem.boot_len (pa_cons (pv 1) pa_nil)) pa_nil)))))))) (pss_one (ps_ret pe_bl)) pss_nil) (pss_cons (ps_if (pt_cmpR op_le (pe_callB (call_lenk (K := K) rfl) (by rfl) T.len PySem.boot_len (pa_cons (pv 4) pa_nil)) (pe_callB (crk_sum (K := K) rfl rfl) (by rfl) T.sum PyProof.Rows.boot_sum (pa_cons (pe_lc (own := [("variant", 5)]) (g := (gName 5)) (tt := tYes) rfl nd (pik_tup (K := K) rfl (pv 3)) (blkOk_by (N := N_shows_small) (sc := defScope (top 24)) (by decide +kernel)) (fun _ _ _ _ _ => (pg_name (i := 5) nd rfl (Or.inl rfl))) (fun _ _ _ _ _ => pts_nil) (fun _ _ _ _ _ => (pe_ix (ixk_tup (K := K) rfl) (pv 0) (pv 5) (fun _ _ => rfl)))) pa_nil)) (nomark _)) (pss_one (ps_ret pe_bl)) pss_nil) (pss_one (ps_ret (pe_callB (crk_all (K := K) rfl rfl) (by rfl) T.all PyProof.Rows.boot_all (pa_cons (pe_lc (own := [("bucket", 6)]) (g := (gName 6)) (tt := tYes) rfl nd (pik_tup (K := K) rfl (pv 4)) (blkOk_by (N := N_shows_small) (sc := defScope (top 24)) (by decide +kernel)) (fun _ _ _ _ _ => (pg_name (i := 6) nd rfl (Or.inl rfl))) (fun _ _ _ _ _ => pts_nil) (fun _ _ _ _ _ => (pe_callB (crk_all (K := K) rfl rfl) (by rfl) T.all PyProof.Rows.boot_all (pa_cons (pe_lc (own := [("one", 7)]) (g := (gName 7)) (tt := tYes) rfl nd (pik_tup (K := K) rfl (pe_ix (ixk_tup (K := K) rfl) (pv 1) (pv 6) (fun _ _ => rfl))) (blkOk_by (N := N_shows_small) (sc := relab (lcSc (xArg (xRet (bodyAt 24 4))))) (by decide +kernel)) (fun _ _ _ _ _ => (pg_name (i := 7) nd rfl (Or.inl rfl))) (fun _ _ _ _ _ => pts_nil) (fun _ _ _ _ _ => (pe_cmpR (opk_in (K := K) rfl) (pv 7) (pv 3) (by with_unfolding_all rfl)))) pa_nil)))) pa_nil)))))))), fun ds d vs H h hd => ?_⟩
  · obtain ⟨a, M, x, y, rfl, _⟩ := h; rfl
  · skip
    obtain ⟨a, M, x, y, rfl, ha, ⟨hM, hm⟩, hx, hy, rfl⟩ := h
    obtain ⟨v0, v1, v2, rfl, d0, d1, d2⟩ := hd.three
    refine rt_sif (b := false) ((evt_or (evt_not (evt_b (ev_isTup (ev_var rfl d2)))) fun _ => evt_t (ev_neI (ev_len (ev_var rfl d2)) ev_int)).eq rfl) ff fun _ => ?_
    refine rt_set2 (ev_var rfl d2) fun vx vy H1 s1 dx dy => ?_
    refine rt_sif (b := !ascI x a.length || !ascI y M.length) (evt_or (evt_not (evt_b (ev_call (eva_cons (ev_var rfl dx) (eva_cons (ev_len (ev_var rfl (d0.s s1))) eva_nil)) ⟨x, a.length, by rw [List.length_map], hx, rfl⟩))) fun _ => evt_not (evt_b (ev_call (eva_cons (ev_var rfl dy) (eva_cons (ev_len (ev_var rfl (d1.s s1))) eva_nil)) ⟨y, M.length, by rw [List.length_map], hy, rfl⟩))) (fun e => rt_ret (ev_bl.eq ?_)) fun e => ?_
    · congr 1
      cases x with
      | i n => rfl
      | b n => rfl
      | t c =>
        cases y with
        | i n => rfl
        | b n => rfl
        | t h =>
          have e' : (!rowB c a.length || !rowB h M.length) = true := e
          show _ = (rowB c a.length && (rowB h M.length && _))
          cases h1 : rowB c a.length
          · rfl
          · cases h2 : rowB h M.length
            · rfl
            · rw [h1, h2] at e'; cases e'
    · cases x with
      | i n => cases e
      | b n => cases e
      | t c =>
        cases y with
        | i n => cases h : ascI (.t c) a.length <;> rw [h] at e <;> cases e
        | b n => cases h : ascI (.t c) a.length <;> rw [h] at e <;> cases e
        | t h =>
          have e' : (!rowB c a.length || !rowB h M.length) = false := e
          have h1 : rowB c a.length = true := by cases q : rowB c a.length with
            | true => rfl
            | false => rw [q] at e'; cases e'
          have h2 : rowB h M.length = true := by cases q : rowB h M.length with
            | true => rfl
            | false => rw [h1, q] at e'; cases e'
          have hcI := rowB_in h1
          have hhI := rowB_in h2
          have hcz : c.length ≤ 500 := hx
          have hhz : h.length ≤ 500 := hy
          have dc : Dt H1 vx (tI c) := dx
          have dh : Dt H1 vy (tI h) := dy
          refine rt_sif (b := decide ((h.length : Int) ≤ (c.map fun v => a.getD v.toNat 0).sum)) ((evt_t (ev_ib (g := fun i j => decide (i ≤ j)) (ev_len (ev_var rfl dh)) (ev_sumL (evl_mapI (fun v => a.getD v.toNat 0) (ev_var rfl dc) (by omega) (fun _ => rfl) fun n H' hn s' => ev_ixI (ev_var rfl ((d0.s s1).s s')) (ev_var rfl (.int _)) (hcI n hn).1 (hcI n hn).2)))).eq (by rw [List.length_map])) (fun e2 => rt_ret (ev_bl.eq ?_)) fun e2 => ?_
          · congr 1
            show false = (rowB c a.length && (rowB h M.length && (decide _ && _)))
            have := of_decide_eq_true e2
            rw [decide_eq_false (by omega), Bool.false_and, Bool.and_false, Bool.and_false]
          · have := of_decide_eq_false e2
            refine rt_ret ((ev_all (evl_mapB (fun b => (M.getD b.toNat []).all fun v => c.contains v) (ev_var rfl dh) (by omega) (fun _ => rfl) fun n H' hn s' => (ev_all (evl_mapB (fun v => c.contains v) (ev_ixM (ev_var rfl ((d1.s s1).s s')) (ev_var rfl (.int _)) (hhI n hn).1 (hhI n hn).2) (by have := (hm _ (getDM_mem (hhI n hn).1 (hhI n hn).2)).1; omega) (fun _ => rfl) fun v H'' _ s'' => ev_in (ev_var rfl (.int _)) (ev_var rfl (dc.s (s'.trans s''))))).eq (by rw [all_idI]))).eq ?_)
            rw [all_idI]
            show _ = PyData.bool (rowB c a.length && (rowB h M.length && (decide _ && _)))
            rw [h1, h2, decide_eq_true (by omega), Bool.true_and, Bool.true_and, Bool.true_and]
abbrev N_is_needless : List Str := ["buckets", "rule", "row", "index"]
theorem sc_is_needless : FnScope N_is_needless ["buckets", "rule", "row"] (defScope (top 41)) := ⟨rfl, rfl, rfl, by decide +kernel, rfl, by decide +kernel, by decide +kernel⟩
theorem ok_is_needless {f : Addr} {fd : FuncData} (F : Fun K "is_needless" "is_needless" (top 41) f fd) (T : Txt mg) (G_is_between : Has P w K mg base 2 "is_between" ["value", "low", "high"] spBtw) (G_goes_needlessly : Has P w K mg base 1 "goes_needlessly" ["one", "other", "bucket"] (spD fGoes)) : FnOk P w K mg base CX0 3 f fd ["buckets", "rule", "row"] (spD fNeedl) := by
  have nd := sc_is_needless.nd
  refine ok_d F sc_is_needless (fun ds d h => ?_) fun cdv A outer s H0 E hr => ⟨_, (pss_cons (ps_if (PW.pt (pw_or (pt_cmpR op_ne (pe_callB (call_lenk (K := K) rfl) (by rfl) T.len PySem.boot_len (pa_cons (pv 2) pa_nil)) pe_int (nomark _)) (pw_or1 (pt_not (pt_val (pe_callB (crk_all (K := K) rfl rfl) (by rfl) T.all PyProof.Rows.boot_all (pa_cons (pe_lc (own := [("index", 3)]) (g := (gName 3)) (tt := tYes) rfl nd (pik_tup (K := K) rfl (pe_slice sl_tupF (pv 2) po_none (po_some pe_int))) (blkOk_by (N := N_is_needless) (sc := defScope (top 41)) (by decide +kernel)) (fun _ _ _ _ _ => (pg_name (i := 3) nd rfl (Or.inl rfl))) (fun _ _ _ _ _ => pts_nil) (fun _ _ _ _ _ => (pe_has G_is_between hr (by decide) (pa_cons (pv 3) (pa_cons pe_int (pa_cons (pe_op op_sub (pe_callB (call_lenk (K := K) rfl) (by rfl) T.len PySem.boot_len (pa_cons (pv 1) pa_nil)) pe_int) pa_nil)))))) pa_nil))))))) (pss_one (ps_ret pe_bl)) pss_nil) (pss_one (ps_ret (pe_and (pe_has G_is_between hr (by decide) (pa_cons (pe_ix (ixk_tup (K := K) rfl) (pv 2) pe_int (fun _ _ => rfl)) (pa_cons pe_int (pa_cons (pe_op op_sub (pv 0) pe_int) pa_nil)))) (pe_one (pe_has G_goes_needlessly hr (by decide) (pa_cons (pe_ix (ixk_tup (K := K) rfl) (pv 1) (pe_ix (ixk_tup (K := K) rfl) (pv 2) pe_int (fun _ _ => rfl)) (fun _ _ => rfl)) (pa_cons (pe_ix (ixk_tup (K := K) rfl) (pv 1) (pe_ix (ixk_tup (K := K) rfl) (pv 2) pe_int (fun _ _ => rfl)) (fun _ _ => rfl)) (pa_cons (pe_ix (ixk_tup (K := K) rfl) (pv 2) pe_int (fun _ _ => rfl)) pa_nil))))))))), fun ds d vs H h hd => ?_⟩
  · obtain ⟨r, V, N, xs, rfl, _⟩ := h; rfl
  · skip
    obtain ⟨r, V, N, xs, rfl, hp, hz, hN, rfl⟩ := h
    obtain ⟨v0, v1, v2, rfl, d0, d1, d2⟩ := hd.three
    by_cases h3 : ∃ x y z, xs = [x, y, z]
    · obtain ⟨x, y, z, rfl⟩ := h3
      refine rt_sif (b := !(inR r.length x && inR r.length y)) ((evt_or (evt_t (ev_neI (ev_len (ev_var rfl d2)) ev_int)) fun _ => evt_not (evt_b (ev_all (evl_bs (f := fun d => isBtw d 0 ((r.length : Int) - 1)) (evl_tup _ ((ev_sl (ev_var rfl d2) evo_none (evo_some ev_int)).eq (by rw [show ([x, y, z].map Itm.d) = [x.d, y.d, z.d] from rfl, cut2])) (by show 2 ≤ sizeLine; decide) (fun _ => rfl) fun d w H' hm s' hw => ⟨true, evt_yes, fun _ => ⟨_, rfl, (ev_btw (eva_cons (ev_var rfl hw) (eva_cons ev_int (eva_cons (ev_ii (g := fun i j => i - j) (ev_len (ev_var rfl (d1.s s'))) ev_int) eva_nil)))).eq (by rw [List.length_map])⟩, tt_⟩))))).eq ?_) (fun e => rt_ret (ev_bl.eq ?_)) fun e => ?_
      · rw [all_id]
        show (((3 : Int) != 3) || !(isBtw x.d 0 _ && (isBtw y.d 0 _ && true))) = _
        rw [btw_inR, btw_inR, Bool.and_true]
        rfl
      · congr 1
        show false = (inR r.length x && (inR r.length y && _))
        cases hx : inR r.length x
        · rfl
        · cases hy : inR r.length y
          · rfl
          · rw [hx, hy] at e; cases e
      · have hx : inR r.length x = true := by cases q : inR r.length x with
          | true => rfl
          | false => rw [q] at e; cases e
        have hy : inR r.length y = true := by cases q : inR r.length y with
          | true => rfl
          | false => rw [hx, q] at e; cases e
        obtain ⟨i, rfl, hi⟩ := inR_nat hx
        obtain ⟨j, rfl, hj⟩ := inR_nat hy
        refine rt_ret ((ev_and (a := inR N z) ((ev_btw (eva_cons (ev_ixc (n := 2) (ev_var rfl d2) ev_int rfl rfl) (eva_cons ev_int (eva_cons (ev_ii (g := fun i j => i - j) (ev_var rfl d0) ev_int) eva_nil)))).eq (by rw [btw_inR])) fun hzz => ?_).eq (d := .bool (inR N z && goesF (r.getD i ([], [])) (r.getD j ([], [])) z.v.toNat)) ?_)
        · obtain ⟨k, rfl, hk⟩ := inR_nat hzz
          refine ev_call (eva_cons (ev_ix (n := i) (ev_var rfl d1) (ev_ixc (n := 0) (ev_var rfl d2) ev_int rfl rfl) (tR_getD hi)) (eva_cons (ev_ix (n := j) (ev_var rfl d1) (ev_ixc (n := 1) (ev_var rfl d2) ev_int rfl rfl) (tR_getD hj)) (eva_cons (ev_ixc (n := 2) (ev_var rfl d2) ev_int rfl rfl) eva_nil))) ⟨_, _, k, V, N, rfl, hp _ (rD_mem hi), hp _ (rD_mem hj), hk, rfl⟩
        · congr 1
          show _ = (inR r.length (.i (i : Nat)) && (inR r.length (.i (j : Nat)) && _))
          rw [hx, hy, Bool.true_and, Bool.true_and]
          rfl
    · refine rt_sif (b := true) ((evt_or (b := true) (evt_t (ev_neI (ev_len (ev_var rfl d2)) ev_int)) fun h => ?_).eq ?_) (fun _ => rt_ret (ev_bl.eq ?_)) fun e => by cases e
      · exfalso
        rw [List.length_map] at h
        have : xs.length = 3 := by
          have := bne_eq_false_iff_eq.mp h
          omega
        exact h3 (three_of this)
      · rw [List.length_map]
        have : ((xs.length : Int) != 3) = true := by
          rw [bne_iff_ne]
          intro h
          exact h3 (three_of (by omega))
        rw [this]; rfl
      · congr 1
        match xs, h3 with
        | [], _ => rfl
        | [_], _ => rfl
        | [_, _], _ => rfl
        | [x, y, z], h3 => exact absurd ⟨x, y, z, rfl⟩ h3
        | _ :: _ :: _ :: _ :: _, _ => rfl
end
end K60
namespace K60
open PySem L2

theorem Rt.use {t : TS} {σ : L2.St} {H : Hp} {d : PyData} {D : Ends} (h : Rt t σ H d) (q : ∀ v H2, Same H H2 → Dt H2 v d → D.rt v H2) : t D σ H := h H D (Same.refl _) q
theorem cut1 (d : PyData) (ds : List PyData) : cutD (d :: ds) (some 1) none = ds := by
  unfold cutD
  have e1 : HT.sIx (d :: ds).length 0 (some 1) = 1 := by
    show HT.sIx (d :: ds).length 0 (some ((1 : Nat) : Int)) = 1
    rw [HT.sIx_nat, List.length_cons]
    omega
  have e2 : HT.sIx (d :: ds).length (d :: ds).length none = (d :: ds).length := HT.sIx_none _ _
  rw [e1, e2, List.length_cons, List.drop_one, List.tail_cons]
  exact List.take_of_length_le (by omega)
section
variable {K : PySem.W.Frag} {σ : L2.St} {H : Hp} {t tb : TE}
theorem ev_lstIx {ta : TA} {ds : List PyData} {n : Nat} {d : PyData} (ha : EvA ta σ H ds) (hz : ds.length ≤ 100) (hb : Ev tb σ H (.int n)) (hd : ds[n]? = some d) : Ev (tOp (rIxL K) (tLst ta) tb) σ H d := fun H1 Q s q =>
  ha H1 _ s fun xs H2 s2 hx => ⟨by rw [hx.len, sizeLine_eq]; omega, fun l hl => by
    have sn := same_new (o := .lst xs) hl
    refine hb _ _ ((s.trans s2).trans sn) fun y H3 s3 hy => ?_
    obtain ⟨v, hv, hdv⟩ := ((hx.s sn).s s3).at hd
    exact ⟨l, xs, _, v, rfl, hy.i, SqL.of (s3 _ _ upd_same), atI_nat hv, q _ H3 ((s2.trans sn).trans s3) hdv⟩⟩
theorem evt_truT {v : V} {ds : List PyData} (h : Ev t σ H (.tuple ds)) (hz : ds.length ≤ 1000) : EvT (fun σ H Q => t σ H fun x H' => ∃ k, TruV K x H' k ∧ Q k H') σ H (ds.length != 0) := fun H1 Q s q =>
  h H1 _ s fun x H2 s2 hx => by
    obtain ⟨a, xs, rfl, ha, hd⟩ := hx.t
    refine ⟨ds.length != 0, .inr (.inl ⟨xs, ha.q, by rw [← hd.len]; cases xs <;> rfl⟩), q H2 s2⟩
end
section
variable {P : Program} {w : World} {K : PySem.W.Frag} {mg : Str → Option Value} {base : Heap}
abbrev N__law_is_row : List Str := ["_law_value", "_law_many", "_law_k"]
theorem sc__law_is_row : FnScope N__law_is_row ["_law_value", "_law_many"] (defScope (top 60)) := ⟨rfl, rfl, rfl, by decide +kernel, rfl, by decide +kernel, by decide +kernel⟩
theorem ok__law_is_row {f : Addr} {fd : FuncData} (F : Fun K "_law_is_row" "_law_is_row" (top 60) f fd) (T : Txt mg)  : FnOk P w K mg base CX0 1 f fd ["_law_value", "_law_many"] (spD fRow) := by
  have nd := sc__law_is_row.nd
  refine ok_d F sc__law_is_row (fun ds d h => ?_) fun cdv A outer s H0 E hr => ⟨_, (pss_cons (ps_if (pt_not (pt_val (pek_isi (K := K) rfl T.isi T.tuple PyProof.Rows.boot_tuple (pv 0)))) (pss_one (ps_ret pe_bl)) pss_nil) (pss_cons (ps_if (pt_not (pt_val (pe_callB (crk_all (K := K) rfl rfl) (by rfl) T.all PyProof.Rows.boot_all (pa_cons (pe_lc (own := [("_law_k", 2)]) (g := (gName 2)) (tt := tYes) rfl nd (pik_tup (K := K) rfl (pv 0)) (blkOk_by (N := N__law_is_row) (sc := defScope (top 60)) (by decide +kernel)) (fun _ _ _ _ _ => (pg_name (i := 2) nd rfl (Or.inl rfl))) (fun _ _ _ _ _ => pts_nil) (fun _ _ _ _ _ => (pe_and (pek_isi (K := K) rfl T.isi T.int PyProof.Rows.boot_int (pv 2)) (pe_and (pe_not (pek_isi (K := K) rfl T.isi T.bool PyProof.Rows.boot_bool (pv 2))) (pe_one (pe_chain op_le op_lt pe_int (pv 2) (pv 1))))))) pa_nil)))) (pss_one (ps_ret pe_bl)) pss_nil) (pss_one (ps_ret (pe_and (pe_cmpR (opk_eqD (K := K) rfl hr.units) (pe_callTy call_list_of (by rfl) T.list PyProof.Rows.boot_list (pa_cons (pv 0) pa_nil)) (pe_callB cr_sortedT (by rfl) T.sorted PyProof.Rows.boot_sorted (pa_cons (pv 0) pa_nil)) (nomark _)) (pe_one (pe_callB (crk_all (K := K) rfl rfl) (by rfl) T.all PyProof.Rows.boot_all (pa_cons (pe_lc (own := [("_law_k", 2)]) (g := (gName 2)) (tt := tYes) rfl nd (pik_tup (K := K) rfl (pv 0)) (blkOk_by (N := N__law_is_row) (sc := defScope (top 60)) (by decide +kernel)) (fun _ _ _ _ _ => (pg_name (i := 2) nd rfl (Or.inl rfl))) (fun _ _ _ _ _ => pts_nil) (fun _ _ _ _ _ => (pe_cmpR op_eq (pe_cntT (pv 0) (pa_cons (pv 2) pa_nil)) pe_int (nomark _)))) pa_nil)))))))), fun ds d vs H h hd => ?_⟩
  · rcases h with ⟨n, m, rfl, _⟩ | ⟨n, m, rfl, _⟩ | ⟨xs, m, rfl, _⟩ <;> rfl
  · skip
    rcases h with ⟨n, m, rfl, rfl⟩ | ⟨n, m, rfl, rfl⟩ | ⟨xs, m, rfl, hz, rfl⟩
    · obtain ⟨v0, v1, rfl, d0, d1⟩ := hd.two
      exact rt_sif (evt_not (evt_b (ev_isTup (ev_var rfl d0)))) (fun _ => rt_ret ev_bl) fun e => by cases e
    · obtain ⟨v0, v1, rfl, d0, d1⟩ := hd.two
      exact rt_sif (evt_not (evt_b (ev_isTup (ev_var rfl d0)))) (fun _ => rt_ret ev_bl) fun e => by cases e
    obtain ⟨v0, v1, rfl, d0, d1⟩ := hd.two
    refine rt_sif (evt_not (evt_b (ev_isTup (ev_var rfl d0)))) (fun e => by cases e) fun _ => ?_
    refine rt_sif (b := !(xs.all (inR m))) ((evt_not (evt_b (ev_all (bs := xs.map (inR m)) ((evl_mapG Itm.d (fun x => .bool (inR m x)) (ev_var rfl d0) (by omega) (fun _ => rfl) fun x w H' hm s' hw => ?_).eq (by rw [List.map_map]; rfl))))).eq (by rw [List.all_map]; rfl)) (fun e => rt_ret (ev_bl.eq ?_)) fun e => ?_
    · cases x with
      | i n => exact (ev_and (ev_isInt (ev_var rfl hw)) fun _ => ev_and (ev_not (ev_isBool (ev_var rfl hw))) fun _ => ev_chain (g := fun i j => decide (i ≤ j)) (g' := fun i j => decide (i < j)) ev_int (ev_var rfl hw) (ev_var rfl (d1.s s'))).eq rfl
      | b n => exact (ev_and (ev_isInt (ev_var rfl hw)) fun _ => ev_and (b := false) (ev_not (ev_isBool (ev_var rfl hw))) fun h => by cases h).eq rfl
      | t ns => exact (ev_and (b := false) (ev_isInt (ev_var rfl hw)) fun h => by cases h).eq rfl
    · have e' : xs.all (inR m) = false := by simpa using e
      unfold rowX
      rw [e']; rfl
    have e' : xs.all (inR m) = true := by
      cases q : xs.all (inR m) with
      | true => rfl
      | false => rw [q] at e; cases e
    have ex := inR_all e'
    generalize hns : xs.map Itm.v = ns at ex
    have d0' : Dt H v0 (tI ns) := by
      have e2 : PyData.tuple (xs.map Itm.d) = tI ns := by
        rw [ex, List.map_map]; rfl
      rw [← e2]; exact d0
    have hz' : ns.length ≤ 500 := by rw [← hns, List.length_map]; exact hz
    refine rt_ret ((ev_and (ev_sortEq (ev_var rfl d0')) fun _ => ev_all (evl_mapB (fun k => ((ns.count k : Nat) : Int) == 1) (ev_var rfl d0') (by omega) (fun _ => rfl) fun n H' hn s' => ev_eqI (ev_cnt (ev_var rfl (d0'.s s')) (ev_var rfl (.int _))) ev_int)).eq ?_)
    rw [all_idI, asc_sorted]
    unfold rowX
    rw [e', hns, Bool.true_and]
abbrev N__law_is_short : List Str := ["_law_menus", "_law_allocation", "_law_chosen", "_law_held", "_law_bucket", "_law_variant"]
theorem sc__law_is_short : FnScope N__law_is_short ["_law_menus", "_law_allocation", "_law_chosen", "_law_held"] (defScope (top 61)) := ⟨rfl, rfl, rfl, by decide +kernel, rfl, by decide +kernel, by decide +kernel⟩
theorem ok__law_is_short {f : Addr} {fd : FuncData} (F : Fun K "_law_is_short" "_law_is_short" (top 61) f fd) (T : Txt mg) (G__law_is_row : Has P w K mg base 1 "_law_is_row" ["_law_value", "_law_many"] (spD fRow)) : FnOk P w K mg base CX0 2 f fd ["_law_menus", "_law_allocation", "_law_chosen", "_law_held"] (spD fShort) := by
  have nd := sc__law_is_short.nd
  refine ok_d F sc__law_is_short (fun ds d h => ?_) fun cdv A outer s H0 E hr => ⟨_, (pss_cons (ps_if (PW.pt (pw_or (pt_not (pt_val (pe_has G__law_is_row hr (by decide) (pa_cons (pv 2) (pa_cons (pe_callB (call_lenk (K := K) rfl) (by rfl) T.len PySem.boot_len (pa_cons (pv 1) pa_nil)) pa_nil))))) (pw_or1 (pt_not (pt_val (pe_has G__law_is_row hr (by decide) (pa_cons (pv 3) (pa_cons (pe_callB (call_lenk (K := K) rfl) (by rfl) T.len PySem.boot_len (pa_cons (pv 0) pa_nil)) pa_nil)))))))) (pss_one (ps_ret pe_bl)) pss_nil) (pss_cons (ps_for PassesOwn.never rfl (pik_tup (K := K) rfl (pv 3)) (pg_name (i := 4) nd rfl (Or.inl rfl)) (pss_one (ps_if (pt_not (pt_val (pe_callB (crk_all (K := K) rfl rfl) (by rfl) T.all PyProof.Rows.boot_all (pa_cons (pe_lc (own := [("_law_variant", 5)]) (g := (gName 5)) (tt := tYes) rfl nd (pik_tup (K := K) rfl (pe_ix (ixk_tup (K := K) rfl) (pv 0) (pv 4) (fun _ _ => rfl))) (blkOk_by (N := N__law_is_short) (sc := defScope (top 61)) (by decide +kernel)) (fun _ _ _ _ _ => (pg_name (i := 5) nd rfl (Or.inl rfl))) (fun _ _ _ _ _ => pts_nil) (fun _ _ _ _ _ => (pe_cmpR (opk_in (K := K) rfl) (pv 5) (pv 2) (by with_unfolding_all rfl)))) pa_nil)))) (pss_one (ps_ret pe_bl)) pss_nil))) (pss_one (ps_ret (pe_cmpR op_gt (pe_callB (call_lenk (K := K) rfl) (by rfl) T.len PySem.boot_len (pa_cons (pv 3) pa_nil)) (pe_callB (crk_sum (K := K) rfl rfl) (by rfl) T.sum PyProof.Rows.boot_sum (pa_cons (pe_lc (own := [("_law_variant", 5)]) (g := (gName 5)) (tt := tYes) rfl nd (pik_tup (K := K) rfl (pv 2)) (blkOk_by (N := N__law_is_short) (sc := defScope (top 61)) (by decide +kernel)) (fun _ _ _ _ _ => (pg_name (i := 5) nd rfl (Or.inl rfl))) (fun _ _ _ _ _ => pts_nil) (fun _ _ _ _ _ => (pe_ix (ixk_tup (K := K) rfl) (pv 1) (pv 5) (fun _ _ => rfl)))) pa_nil)) (nomark _)))))), fun ds d vs H h hd => ?_⟩
  · obtain ⟨a, M, x, y, rfl, _⟩ := h; rfl
  · skip
    obtain ⟨a, M, x, y, rfl, ha, ⟨hM, hm⟩, hx, hy, rfl⟩ := h
    obtain ⟨v0, v1, v2, v3, rfl, d0, d1, dx, dy⟩ := hd.four
    refine RtR.rt (rr_sif (b := !ascI x a.length || !ascI y M.length) (evt_or (evt_not (evt_b (ev_call (eva_cons (ev_var rfl dx) (eva_cons ((ev_len (ev_var rfl d1)).eq (by rw [List.length_map])) eva_nil)) (fRow_itm hx)))) fun _ => evt_not (evt_b (ev_call (eva_cons (ev_var rfl dy) (eva_cons ((ev_len (ev_var rfl d0)).eq (by rw [List.length_map])) eva_nil)) (fRow_itm hy)))) (fun e => rr_ret ev_bl ?_) fun e => ?_)
    · congr 1
      cases x with
      | i n => rfl
      | b n => rfl
      | t c =>
        cases y with
        | i n => rfl
        | b n => rfl
        | t h =>
          have e' : (!rowB c a.length || !rowB h M.length) = true := e
          show _ = (rowB c a.length && (rowB h M.length && _))
          cases h1 : rowB c a.length
          · rfl
          · cases h2 : rowB h M.length
            · rfl
            · rw [h1, h2] at e'; cases e'
    · cases x with
      | i n => cases e
      | b n => cases e
      | t c =>
        cases y with
        | i n => cases h : ascI (.t c) a.length <;> rw [h] at e <;> cases e
        | b n => cases h : ascI (.t c) a.length <;> rw [h] at e <;> cases e
        | t h =>
          have e' : (!rowB c a.length || !rowB h M.length) = false := e
          have h1 : rowB c a.length = true := by cases q : rowB c a.length with
            | true => rfl
            | false => rw [q] at e'; cases e'
          have h2 : rowB h M.length = true := by cases q : rowB h M.length with
            | true => rfl
            | false => rw [h1, q] at e'; cases e'
          have hcI := rowB_in h1
          have hhI := rowB_in h2
          have hcz : c.length ≤ 500 := hx
          have hhz : h.length ≤ 500 := hy
          have dc : Dt H v2 (tI c) := dx
          have dh : Dt H v3 (tI h) := dy
          refine rr_for (fun i σ' => (∃ b w, σ' = [some v0, some v1, some v2, some v3, b, w]) ∧ ∀ b ∈ h.take i, ((M.getD b.toNat []).all fun v => c.contains v) = true) (evi_tup (ev_var rfl dh)) ⟨⟨_, _, rfl⟩, fun b hb => by cases hb⟩ ?_ ?_
          · rintro i x σ' H' hi s' ⟨d, e1, hxx⟩ ⟨⟨b0, w0, rfl⟩, hok⟩ D nx rt
            rw [List.getElem?_map] at e1
            cases e2 : h[i]? with
            | none => rw [e2] at e1; cases e1
            | some b =>
              rw [e2] at e1
              cases e1
              obtain rfl := hxx.i
              have hb := hhI b (List.mem_of_getElem? e2)
              refine nx_if (evt_not (evt_b ((ev_all (evl_mapB (fun v => c.contains v) (ev_ixM (ev_var rfl (d0.s s')) (ev_var rfl (.int _)) hb.1 hb.2) (by have := (hm _ (getDM_mem hb.1 hb.2)).1; omega) (fun _ => rfl) fun v H'' _ s'' => ev_in (ev_var rfl (.int _)) (ev_var rfl (dc.s (s'.trans s''))))).eq (by rw [all_idI])))) (fun e3 H3 s3 => ?_) fun e3 H3 s3 => nx _ H3 s3 ⟨⟨_, _, rfl⟩, fun b' hb' => ?_⟩
              · refine nx_ret ev_bl fun v H4 s4 hv => rt _ v H4 ?_ (s3.trans s4) hv
                congr 1
                show false = (rowB c a.length && (rowB h M.length && (_ && h.all _)))
                have : (h.all fun b => (M.getD b.toNat []).all fun v => c.contains v) = false := by
                  rw [List.all_eq_false]
                  refine ⟨b, List.mem_of_getElem? e2, ?_⟩
                  intro q
                  rw [q] at e3
                  cases e3
                rw [this, Bool.and_false, Bool.and_false, Bool.and_false]
              · rw [List.take_add_one, e2] at hb'
                rcases List.mem_append.mp hb' with hb' | hb'
                · exact hok b' hb'
                · have : b' = b := by simpa using hb'
                  rw [this]
                  cases q : ((M.getD b.toNat []).all fun v => c.contains v) with
                  | true => rfl
                  | false => rw [q] at e3; cases e3
          · rintro σ' H' s' ⟨⟨b0, w0, rfl⟩, hok⟩
            refine rr_ret (ev_ib (g := fun i j => decide (j < i)) ((ev_len (ev_var rfl (dh.s s'))).eq (by rw [List.length_map])) (ev_sumL (evl_mapI (fun v => a.getD v.toNat 0) (ev_var rfl (dc.s s')) (by omega) (fun _ => rfl) fun n H'' hn s'' => ev_ixI (ev_var rfl ((d1.s s').s s'')) (ev_var rfl (.int _)) (hcI n hn).1 (hcI n hn).2))) ?_
            congr 1
            show _ = (rowB c a.length && (rowB h M.length && (_ && h.all _)))
            have : (h.all fun b => (M.getD b.toNat []).all fun v => c.contains v) = true := by
              rw [List.all_eq_true]
              intro b hb
              refine hok b ?_
              rw [List.length_map, List.take_length]
              exact hb
            rw [h1, h2, this, Bool.true_and, Bool.true_and, Bool.and_true]
end
end K60
namespace K60
open PySem L2

def mAt (R M : Nat) : Nat → Nat
  | 2 => M
  | _ => R
def iAt (x y z : Itm) : Nat → Itm
  | 0 => x
  | 1 => y
  | _ => z
theorem needI_no {r : List (List Int × List Int)} {N : Nat} {x y z : Itm} : ∀ {i : Nat}, i < 3 → inR (mAt r.length N i) (iAt x y z i) = false → needI r N x y z = false
  | 0, _, h => by
    have h : inR r.length x = false := h
    unfold needI
    rw [h]; rfl
  | 1, _, h => by
    have h : inR r.length y = false := h
    unfold needI
    rw [h, Bool.false_and, Bool.and_false]
  | 2, _, h => by
    have h : inR N z = false := h
    unfold needI
    rw [h, Bool.false_and, Bool.and_false, Bool.and_false]
  | n + 3, h, _ => by omega
theorem iAt_at {x y z : Itm} {s : Str} : ∀ {i : Nat}, i < 3 → (PyData.str s :: [x, y, z].map Itm.d)[i + 1]? = some (iAt x y z i).d
  | 0, _ => rfl
  | 1, _ => rfl
  | 2, _ => rfl
  | n + 3, h => by omega
theorem mAt_at {R M : Nat} : ∀ {i : Nat}, i < 3 → ([.int R, .int R, .int M] : List PyData)[i]? = some (.int (mAt R M i))
  | 0, _ => rfl
  | 1, _ => rfl
  | 2, _ => rfl
  | n + 3, h => by omega
theorem evB_need (r : List (List Int × List Int)) (a : List Int) (M : List (List Int)) (N : Nat) (xs : List Itm) : evB r a M N (.tu "needless" xs) = needL r N xs := by
  rw [evB_tu, if_pos rfl]
theorem sn_ne : ¬ (("short" : Str) = "needless") := by decide +kernel
theorem evB_short (r : List (List Int × List Int)) (a : List Int) (M : List (List Int)) (N : Nat) (x y : Itm) : evB r a M N (.tu "short" [x, y]) = shortI a M x y := by
  rw [evB_tu, if_neg sn_ne, if_pos rfl]
  rfl
theorem evB_no {r : List (List Int × List Int)} {a : List Int} {M : List (List Int)} {N : Nat} {s : Str} {xs : List Itm} (h1 : ¬ s = "needless") (h2 : ¬ (s = "short" ∧ xs.length = 2)) : evB r a M N (.tu s xs) = false := by
  rw [evB_tu, if_neg h1]
  by_cases e : s = "short"
  · rw [if_pos e]
    match xs with
    | [] => rfl
    | [_] => rfl
    | [x, y] => exact absurd ⟨e, rfl⟩ h2
    | _ :: _ :: _ :: _ => rfl
  · rw [if_neg e]
theorem needL_no {r : List (List Int × List Int)} {N : Nat} {xs : List Itm} (h : ¬ xs.length = 3) : needL r N xs = false := by
  match xs with
  | [] => rfl
  | [_] => rfl
  | [_, _] => rfl
  | [x, y, z] => exact absurd rfl h
  | _ :: _ :: _ :: _ :: _ => rfl
section
variable {P : Program} {w : World} {K : PySem.W.Frag} {mg : Str → Option Value} {base : Heap}
abbrev N__law_is_right : List Str := ["_law_rule_here", "_law_menus", "_law_allocation", "_law_evidence", "_law_k"]
theorem sc__law_is_right : FnScope N__law_is_right ["_law_rule_here", "_law_menus", "_law_allocation", "_law_evidence"] (defScope (top 62)) := ⟨rfl, rfl, rfl, by decide +kernel, rfl, by decide +kernel, by decide +kernel⟩
theorem ok__law_is_right {f : Addr} {fd : FuncData} (F : Fun K "_law_is_right" "_law_is_right" (top 62) f fd) (T : Txt mg) (G__law_goes : Has P w K mg base 1 "_law_goes" ["_law_one", "_law_other", "_law_bucket"] (spD fGoes)) (G__law_is_short : Has P w K mg base 2 "_law_is_short" ["_law_menus", "_law_allocation", "_law_chosen", "_law_held"] (spD fShort)) (G__law_is_row : Has P w K mg base 1 "_law_is_row" ["_law_value", "_law_many"] (spD fRow)) : FnOk P w K mg base CX0 3 f fd ["_law_rule_here", "_law_menus", "_law_allocation", "_law_evidence"] spRight := by
  have nd := sc__law_is_right.nd
  refine F.ok sc__law_is_right (fun vs H Q E h => ?_) fun cdv A outer s H vs Q E hr h => ?_
  · (obtain ⟨r, a, V, N, M, vs3, v, e, rfl, hd, _⟩ := h; rw [List.length_append, hd.len]; rfl)
  · refine ⟨_, (pss_cons (ps_if (PW.pt (pw_or (pt_not (pt_val (pek_isi (K := K) rfl T.isi T.tuple PyProof.Rows.boot_tuple (pv 3)))) (pw_or1 (pt_not (ptk_truth (K := K) rfl (pv 3) (fun _ => rfl)))))) (pss_one (ps_ret pe_bl)) pss_nil) (pss_cons (ps_if (PW.pt (pw_and (pt_cmpR op_eq (pe_ix (ixk_tup (K := K) rfl) (pv 3) pe_int (fun _ _ => rfl)) pe_str (nomark _)) (pw_and1 (pt_cmpR op_eq (pe_callB (call_lenk (K := K) rfl) (by rfl) T.len PySem.boot_len (pa_cons (pv 3) pa_nil)) pe_int (nomark _))))) (pss_one (ps_ret (pe_has G__law_is_short hr (by decide) (pa_cons (pv 1) (pa_cons (pv 2) (pa_cons (pe_ix (ixk_tup (K := K) rfl) (pv 3) pe_int (fun _ _ => rfl)) (pa_cons (pe_ix (ixk_tup (K := K) rfl) (pv 3) pe_int (fun _ _ => rfl)) pa_nil))))))) pss_nil) (pss_cons (ps_if (PW.pt (pw_or (pt_cmpR op_ne (pe_ix (ixk_tup (K := K) rfl) (pv 3) pe_int (fun _ _ => rfl)) pe_str (nomark _)) (pw_or1 (pt_cmpR op_ne (pe_callB (call_lenk (K := K) rfl) (by rfl) T.len PySem.boot_len (pa_cons (pv 3) pa_nil)) pe_int (nomark _))))) (pss_one (ps_ret pe_bl)) pss_nil) (pss_cons (ps_for PassesOwn.never rfl (pi_range1 (by rfl) T.range (pa_cons pe_int pa_nil)) (pg_name (i := 4) nd rfl (Or.inl rfl)) (pss_one (ps_if (pt_not (pt_val (pe_has G__law_is_row hr (by decide) (pa_cons (pe_tupF (pa_cons (pe_ix (ixk_tup (K := K) rfl) (pv 3) (pe_op op_add (pv 4) pe_int) (fun _ _ => rfl)) pa_nil)) (pa_cons (pe_ix (ixk_list (K := K) rfl) (pe_lst (pa_cons (pe_callB (call_lenk (K := K) rfl) (by rfl) T.len PySem.boot_len (pa_cons (pv 0) pa_nil)) (pa_cons (pe_callB (call_lenk (K := K) rfl) (by rfl) T.len PySem.boot_len (pa_cons (pv 0) pa_nil)) (pa_cons (pe_callB (call_lenk (K := K) rfl) (by rfl) T.len PySem.boot_len (pa_cons (pv 1) pa_nil)) pa_nil)))) (pv 4) (fun _ _ => rfl)) pa_nil))))) (pss_one (ps_ret pe_bl)) pss_nil))) (pss_one (ps_ret (pe_has G__law_goes hr (by decide) (pa_cons (pe_ix (ixk_tup (K := K) rfl) (pv 0) (pe_ix (ixk_tup (K := K) rfl) (pv 3) pe_int (fun _ _ => rfl)) (fun _ _ => rfl)) (pa_cons (pe_ix (ixk_tup (K := K) rfl) (pv 0) (pe_ix (ixk_tup (K := K) rfl) (pv 3) pe_int (fun _ _ => rfl)) (fun _ _ => rfl)) (pa_cons (pe_ix (ixk_tup (K := K) rfl) (pv 3) pe_int (fun _ _ => rfl)) pa_nil)))))))))), ?_⟩
    obtain ⟨r, a, V, N, M, vs3, v, e, rfl, hd, ⟨hp, _, hz⟩, ha, hM, hMN, he, k⟩ := h
    obtain ⟨v0, v1, v2, rfl, d0, d1, d2⟩ := hd.three
    have fin : ∀ b, b = evB r a M N e → ∀ v H2, Same H H2 → Dt H2 v (.bool b) → Q v H2 := fun b hb v H2 s2 hv => by
      rw [hv.b, hb]
      exact k H2 s2
    cases e with
    | no =>
      exact Rt.use (rt_sif (b := true) ((evt_or (b := true) (evt_not (evt_b (ev_isTupV (evp_var rfl) he))) fun h => by cases h).eq rfl) (fun _ => rt_ret ev_bl) fun e => by cases e) (fin false rfl)
    | li =>
      exact Rt.use (rt_sif (b := true) ((evt_or (b := true) (evt_not (evt_b (ev_isTupV (evp_var rfl) he))) fun h => by cases h).eq rfl) (fun _ => rt_ret ev_bl) fun e => by cases e) (fin false rfl)
    | em =>
      exact Rt.use (rt_sif (b := true) ((evt_or (evt_not (evt_b (ev_isTupV (evp_var rfl) he))) fun _ => evt_not (evt_truT (v := v) (ev_var rfl (show Dt H v (.tuple []) from he)) (by show 0 ≤ 1000; decide))).eq rfl) (fun _ => rt_ret ev_bl) fun e => by cases e) (fin false rfl)
    | tu s xs =>
      obtain ⟨de, hxz, hsm⟩ := he
      have hlen : ((PyData.str s :: xs.map Itm.d).length : Int) = (xs.length : Int) + 1 := by rw [List.length_cons, List.length_map]; rfl
      refine RtR.use (R := (· = .bool (evB r a M N (.tu s xs)))) ?_ fun d v H2 hd s2 hv => fin _ rfl v H2 s2 (by rw [← hd]; exact hv)
      refine rr_sif (b := false) ((evt_or (evt_not (evt_b (ev_isTup (ev_var rfl de)))) fun _ => evt_not (evt_truT (v := v) (ev_var rfl de) (by rw [List.length_cons, List.length_map]; omega))).eq rfl) ff fun _ => ?_
      refine rr_sif (b := (s == "short") && ((xs.length : Int) + 1 == 3)) (evt_and (evt_t (ev_eqS (ev_ixc (n := 0) (ev_var rfl de) ev_int rfl rfl) ev_str rfl)) fun _ => evt_t (ev_eqI ((ev_len (ev_var rfl de)).eq (by rw [hlen])) ev_int)) (fun e => ?_) fun e => ?_
      · rw [Bool.and_eq_true, beq_iff_eq, beq_iff_eq] at e
        obtain ⟨x, y, rfl⟩ := two_of (xs := xs) (by omega)
        rw [e.1, evB_short]
        exact rr_ret (ev_call (eva_cons (ev_var rfl d1) (eva_cons (ev_var rfl d2) (eva_cons (ev_ixc (n := 1) (ev_var rfl de) ev_int rfl rfl) (eva_cons (ev_ixc (n := 2) (ev_var rfl de) ev_int rfl rfl) eva_nil)))) ⟨a, M, x, y, rfl, by omega, hM, hsm x (by simp), hsm y (by simp), rfl⟩) rfl
      · have hns : ¬ (s = "short" ∧ xs.length = 2) := fun ⟨q1, q2⟩ => by
          rw [q1, q2] at e
          revert e
          decide +kernel
        refine rr_sif (b := (!(s == "needless")) || ((xs.length : Int) + 1 != 4)) (evt_or (evt_t (ev_neS (ev_ixc (n := 0) (ev_var rfl de) ev_int rfl rfl) ev_str rfl)) fun _ => evt_t (ev_neI ((ev_len (ev_var rfl de)).eq (by rw [hlen])) ev_int)) (fun e2 => rr_ret ev_bl ?_) fun e2 => ?_
        · congr 1
          symm
          by_cases h1 : s = "needless"
          · rw [h1, evB_need, needL_no]
            intro q
            rw [h1, q] at e2
            revert e2
            decide +kernel
          · exact evB_no h1 hns
        · rw [Bool.or_eq_false_iff, Bool.not_eq_false', beq_iff_eq, bne_eq_false_iff_eq] at e2
          obtain ⟨x, y, z, rfl⟩ := three_of (xs := xs) (by omega)
          rw [e2.1, evB_need]
          rw [e2.1] at de
          refine rr_for (n := 3) (fun i σ' => (∃ w, σ' = [some v0, some v1, some v2, some v, w]) ∧ ∀ j : Nat, j < i → inR (mAt r.length N j) (iAt x y z j) = true) (evi_rng (eva_cons ev_int eva_nil) rfl (by decide)) ⟨⟨_, rfl⟩, fun j h => by omega⟩ ?_ ?_
          · rintro i w σ' H' hi s' rfl ⟨⟨w0, rfl⟩, hok⟩ D nx rt
            refine nx_if (evt_not (evt_b (ev_call (eva_cons (ev_tup (eva_cons (ev_ix (n := i + 1) (ev_var rfl (de.s s')) ((ev_ii (g := fun i j => i + j) (ev_var rfl (.int _)) ev_int).eq rfl) (iAt_at hi)) eva_nil) (by show 1 ≤ sizeLine; decide)) (eva_cons (ev_lstIx (n := i) (eva_cons ((ev_len (ev_var rfl (d0.s s'))).eq (by rw [List.length_map])) (eva_cons ((ev_len (ev_var rfl (d0.s s'))).eq (by rw [List.length_map])) (eva_cons ((ev_len (ev_var rfl (d1.s s'))).eq (by rw [List.length_map, hMN])) eva_nil))) (by show 3 ≤ 100; decide) (ev_var rfl (.int _)) (mAt_at hi)) eva_nil)) fRow_one))) (fun e3 H3 s3 => ?_) fun e3 H3 s3 => nx _ H3 s3 ⟨⟨_, rfl⟩, fun j hj => ?_⟩
            · refine nx_ret ev_bl fun v H4 s4 hv => rt _ v H4 ?_ (s3.trans s4) hv
              congr 1
              symm
              exact needI_no hi (by simpa using e3)
            · by_cases hji : j = i
              · rw [hji]; simpa using e3
              · exact hok j (by omega)
          · rintro σ' H' s' ⟨⟨w0, rfl⟩, hok⟩
            have hx : inR r.length x = true := hok 0 (by decide)
            have hy : inR r.length y = true := hok 1 (by decide)
            have hzz : inR N z = true := hok 2 (by decide)
            obtain ⟨i, rfl, hi⟩ := inR_nat hx
            obtain ⟨j, rfl, hj⟩ := inR_nat hy
            obtain ⟨b, rfl, hb⟩ := inR_nat hzz
            refine rr_ret (ev_call (eva_cons (ev_ix (n := i) (ev_var rfl (d0.s s')) (ev_ixc (n := 1) (ev_var rfl (de.s s')) ev_int rfl rfl) (tR_getD hi)) (eva_cons (ev_ix (n := j) (ev_var rfl (d0.s s')) (ev_ixc (n := 2) (ev_var rfl (de.s s')) ev_int rfl rfl) (tR_getD hj)) (eva_cons (ev_ixc (n := 3) (ev_var rfl (de.s s')) ev_int rfl rfl) eva_nil))) ⟨_, _, b, V, N, rfl, hp _ (rD_mem hi), hp _ (rD_mem hj), hb, rfl⟩) ?_
            congr 1
            show _ = (inR r.length (.i (i : Nat)) && (inR r.length (.i (j : Nat)) && (inR N (.i (b : Nat)) && _)))
            rw [hx, hy, hzz]
            rfl
abbrev N_accepts_none : List Str := ["variants", "buckets", "rule", "allocation", "evidence"]
theorem sc_accepts_none : FnScope N_accepts_none ["variants", "buckets", "rule", "allocation", "evidence"] (defScope (top 42)) := ⟨rfl, rfl, rfl, by decide +kernel, rfl, by decide +kernel, by decide +kernel⟩
theorem ok_accepts_none {f : Addr} {fd : FuncData} (F : Fun K "accepts_none" "accepts_none" (top 42) f fd) (T : Txt mg) (G_check_all : Has P w K mg base 9 "check_all" ["variants", "buckets", "rule", "allocation"] (spD fCkAll)) (G_shows_small : Has P w K mg base 3 "shows_small" ["allocation", "menus", "value"] (spD fShow)) (G_is_needless : Has P w K mg base 3 "is_needless" ["buckets", "rule", "row"] (spD fNeedl)) (G_menus_of : Has P w K mg base 2 "menus_of" ["variants", "buckets", "rule", "allocation"] (spD fMenus)) : FnOk P w K mg base CX0 10 f fd ["variants", "buckets", "rule", "allocation", "evidence"] spAcc := by
  have nd := sc_accepts_none.nd
  refine F.ok sc_accepts_none (fun vs H Q E h => ?_) fun cdv A outer s H vs Q E hr h => ?_
  · (obtain ⟨r, a, V, N, vs4, v, e, rfl, hd, _⟩ := h; rw [List.length_append, hd.len]; rfl)
  · refine ⟨_, (pss_cons (ps_expr (pe_has G_check_all hr (by decide) (pa_cons (pv 0) (pa_cons (pv 1) (pa_cons (pv 2) (pa_cons (pv 3) pa_nil)))))) (pss_cons (ps_if (PW.pt (pw_or (pt_not (pt_val (pek_isi (K := K) rfl T.isi T.tuple PyProof.Rows.boot_tuple (pv 4)))) (pw_or (pt_cmpR op_eq (pe_callB (call_lenk (K := K) rfl) (by rfl) T.len PySem.boot_len (pa_cons (pv 4) pa_nil)) pe_int (nomark _)) (pw_or1 (pt_not (pt_val (pek_isi (K := K) rfl T.isi T.str PyProof.Rows.boot_str (pe_ix (ixk_tup (K := K) rfl) (pv 4) pe_int (fun _ _ => rfl))))))))) (pss_one (ps_ret pe_bl)) pss_nil) (pss_cons (ps_if (pt_cmpR op_eq (pe_ix (ixk_tup (K := K) rfl) (pv 4) pe_int (fun _ _ => rfl)) pe_str (nomark _)) (pss_one (ps_ret (pe_has G_is_needless hr (by decide) (pa_cons (pv 1) (pa_cons (pv 2) (pa_cons (pe_slice sl_tupF (pv 4) (po_some pe_int) po_none) pa_nil)))))) pss_nil) (pss_cons (ps_if (PW.pt (pw_or (pt_cmpR op_ne (pe_ix (ixk_tup (K := K) rfl) (pv 4) pe_int (fun _ _ => rfl)) pe_str (nomark _)) (pw_or1 (pt_cmpR op_ne (pe_callB (call_lenk (K := K) rfl) (by rfl) T.len PySem.boot_len (pa_cons (pv 4) pa_nil)) pe_int (nomark _))))) (pss_one (ps_ret pe_bl)) pss_nil) (pss_one (ps_ret (pe_has G_shows_small hr (by decide) (pa_cons (pv 3) (pa_cons (pe_has G_menus_of hr (by decide) (pa_cons (pv 0) (pa_cons (pv 1) (pa_cons (pv 2) (pa_cons (pv 3) pa_nil))))) (pa_cons (pe_slice sl_tupF (pv 4) (po_some pe_int) po_none) pa_nil)))))))))), ?_⟩
    obtain ⟨r, a, V, N, vs4, v, e, rfl, hd, hr1, ha, hs, he, k⟩ := h
    obtain ⟨v0, v1, v2, v3, rfl, d0, d1, d2, d3⟩ := hd.four
    have hs' := hs
    obtain ⟨hs1, hs2, hs3⟩ := hs'
    have hMz : (menusF V N r a).length = N := by unfold menusF; rw [List.length_map, List.length_range]
    have hM := menusF_ok (V := V) (N := N) (r := r) (a := a) (by omega) hs3
    have fin : ∀ b, b = evB r a (menusF V N r a) N e → ∀ v H2, Same H H2 → Dt H2 v (.bool b) → Q v H2 := fun b hb v H2 s2 hv => by
      rw [hv.b, hb]
      exact k H2 s2
    have e0 := ev_call (σ := start N_accepts_none [v0, v1, v2, v3, v]) (f := fCkAll) (eva_cons (ev_var (i := 0) rfl d0) (eva_cons (ev_var (i := 1) rfl d1) (eva_cons (ev_var (i := 2) rfl d2) (eva_cons (ev_var (i := 3) rfl d3) eva_nil)))) ⟨r, a, V, N, rfl, hr1, ha, hs, rfl⟩
    cases e with
    | no =>
      exact Rt.use (rt_drop e0 (rt_sif (b := true) ((evt_or (b := true) (evt_not (evt_b (ev_isTupV (evp_var rfl) he))) fun h => by cases h).eq rfl) (fun _ => rt_ret ev_bl) fun e => by cases e)) (fin false rfl)
    | li =>
      exact Rt.use (rt_drop e0 (rt_sif (b := true) ((evt_or (b := true) (evt_not (evt_b (ev_isTupV (evp_var rfl) he))) fun h => by cases h).eq rfl) (fun _ => rt_ret ev_bl) fun e => by cases e)) (fin false rfl)
    | em =>
      exact Rt.use (rt_drop e0 (rt_sif (b := true) ((evt_or (b := true) (evt_not (evt_b (ev_isTupV (evp_var rfl) he))) fun _ => evt_or (b := true) (evt_t (ev_eqI (ev_len (ev_var rfl (show Dt H v (.tuple []) from he))) ev_int)) fun h => by cases h).eq rfl) (fun _ => rt_ret ev_bl) fun e => by cases e)) (fin false rfl)
    | tu s xs =>
      obtain ⟨de, hxz, hsm⟩ := he
      have hlen : ((PyData.str s :: xs.map Itm.d).length : Int) = (xs.length : Int) + 1 := by rw [List.length_cons, List.length_map]; rfl
      have ix0 := fun {K : PySem.W.Frag} => ev_ixc (K := K) (n := 0) (ev_var (σ := start N_accepts_none [v0, v1, v2, v3, v]) (i := 4) rfl de) ev_int rfl (d := .str s) rfl
      refine RtR.use (R := (· = .bool (evB r a (menusF V N r a) N (.tu s xs)))) ?_ fun d v H2 hd s2 hv => fin _ rfl v H2 s2 (by rw [← hd]; exact hv)
      refine rr_drop e0 ?_
      refine rr_sif (b := false) ((evt_or (evt_not (evt_b (ev_isTup (ev_var rfl de)))) fun _ => evt_or (evt_t (ev_eqI (ev_len (ev_var rfl de)) ev_int)) fun _ => evt_not (evt_b (ev_isStr ix0))).eq ?_) ff fun _ => ?_
      · rw [hlen]
        have : ((xs.length : Int) + 1 == 0) = false := by
          rw [beq_eq_false_iff_ne]; omega
        rw [this]; rfl
      refine rr_sif (b := s == "needless") (evt_t (ev_eqS ix0 ev_str rfl)) (fun e => ?_) fun e => ?_
      · rw [beq_iff_eq] at e
        rw [e, evB_need]
        refine rr_ret (ev_call (eva_cons (ev_var rfl d1) (eva_cons (ev_var rfl d2) (eva_cons ((ev_sl (ev_var rfl de) (evo_some ev_int) evo_none).eq (by rw [cut1])) eva_nil))) ⟨r, V, N, xs, rfl, hr1.1, by have := hr1.2.2; omega, by omega, rfl⟩) rfl
      · have hne : ¬ s = "needless" := beq_eq_false_iff_ne.mp e
        refine rr_sif (b := (!(s == "short")) || ((xs.length : Int) + 1 != 3)) (evt_or (evt_t (ev_neS ix0 ev_str rfl)) fun _ => evt_t (ev_neI ((ev_len (ev_var rfl de)).eq (by rw [hlen])) ev_int)) (fun e2 => rr_ret ev_bl ?_) fun e2 => ?_
        · congr 1
          symm
          refine evB_no hne fun ⟨q1, q2⟩ => ?_
          rw [q1, q2] at e2
          revert e2
          decide +kernel
        · rw [Bool.or_eq_false_iff, Bool.not_eq_false', beq_iff_eq, bne_eq_false_iff_eq] at e2
          obtain ⟨x, y, rfl⟩ := two_of (xs := xs) (by omega)
          rw [e2.1, evB_short]
          refine rr_ret (ev_call (eva_cons (ev_var rfl d3) (eva_cons (ev_call (eva_cons (ev_var rfl d0) (eva_cons (ev_var rfl d1) (eva_cons (ev_var rfl d2) (eva_cons (ev_var rfl d3) eva_nil)))) ⟨r, a, V, N, rfl, hr1, ha, hs, rfl⟩) (eva_cons ((ev_sl (ev_var rfl de) (evo_some ev_int) evo_none).eq (by rw [cut1]; rfl)) eva_nil))) ⟨a, menusF V N r a, x, y, rfl, by rw [ha.1]; omega, hM, hsm x (by simp), hsm y (by simp), rfl⟩) rfl
end
end K60
/-! The stream. -/
namespace K60
open PySem L2
/-- a stream stands at s -/
def StS (H : Hp) (s l : Addr) : Prop := ∃ (ns : List Int) (c k : Int), l ≠ s ∧ H l = some (.lst (ns.map V.int)) ∧ 0 ≤ c ∧ 0 ≤ k ∧ H s = some (.lst [.ref l, .int c, .int k])
/-- all but s stays -/
def Sb (s : Addr) (H H' : Hp) : Prop := ∀ b o, b ≠ s → H b = some o → H' b = some o
theorem Sb.refl (s : Addr) (H : Hp) : Sb s H H := fun _ _ _ e => e
theorem Sb.of {s : Addr} {H H' : Hp} (h : Same H H') : Sb s H H' := fun b o _ e => h b o e
theorem Sb.trans {s : Addr} {H H1 H2 : Hp} (a : Sb s H H1) (b : Sb s H1 H2) : Sb s H H2 := fun c o h e => b c o h (a c o h e)
theorem StS.s {H H' : Hp} {s l : Addr} (h : StS H s l) (k : Same H H') : StS H' s l := by
  obtain ⟨ns, c, kk, h1, h2, h3, h4, h5⟩ := h
  exact ⟨ns, c, kk, h1, k _ _ h2, h3, h4, k _ _ h5⟩
theorem Sb.kp {s l : Addr} {H H' : Hp} (h : Sb s H H') (hs : StS H s l) : KpT H H' := by
  obtain ⟨ns, c, kk, h1, h2, h3, h4, h5⟩ := hs
  intro a o xs e
  refine h a _ (fun z => ?_) e
  rw [z, h5] at e
  cases e
/-- a write elsewhere -/
theorem StS.upd {H : Hp} {s l p : Addr} {o : HO} (hs : StS H s l) (h1 : p ≠ s) (h2 : p ≠ l) : StS (upd H p o) s l := by
  obtain ⟨ns, c, kk, g1, g2, g3, g4, g5⟩ := hs
  exact ⟨ns, c, kk, g1, by rw [upd_ne h2.symm]; exact g2, g3, g4, by rw [upd_ne h1.symm]; exact g5⟩
theorem StS.at {H : Hp} {s l : Addr} (hs : StS H s l) : ∃ xs, H s = some (.lst xs) := by
  obtain ⟨ns, c, kk, g1, g2, g3, g4, g5⟩ := hs
  exact ⟨_, g5⟩
theorem StS.new {H : Hp} {s l p : Addr} (hs : StS H s l) (hp : H p = none) : p ≠ s ∧ p ≠ l := by
  obtain ⟨ns, c, kk, g1, g2, g3, g4, g5⟩ := hs
  exact ⟨(ne_of_none g5 hp).symm, (ne_of_none g2 hp).symm⟩
def spNext : Sp := fun vs H Q _ => ∃ (s l : Addr) (m : Nat), vs = [.ref s, .int m] ∧ StS H s l ∧ 1 ≤ m ∧ m ≤ 1000000 ∧ ∀ (d : Nat) (H' : Hp), d < m → Sb s H H' → StS H' s l → Q (.int d) H'
section
variable {K : PySem.W.Frag} {σ : L2.St} {H : Hp} {t te tb : TE}
theorem ev_ixLi {p : Addr} {xs : List V} {n : Nat} {i : Int} {v : V} {d : PyData} (ha : EvP t σ H (.ref p)) (hp : H p = some (.lst xs)) (hb : Ev tb σ H (.int i)) (hi : i = (n : Int)) (hv : xs[n]? = some v) (hd : Dt H v d) : Ev (tOp (rIxL K) t tb) σ H d := fun H1 Q s q =>
  ha H1 _ s fun H2 s2 => hb H2 _ (s.trans s2) fun y H3 s3 hy => ⟨p, xs, i, v, rfl, hy.i, SqL.of (s3 _ _ (s2 _ _ (s _ _ hp))), by rw [hi]; exact atI_nat hv, q v H3 (s2.trans s3) (((hd.s s).s s2).s s3)⟩
theorem evp_ixLi {p : Addr} {xs : List V} {n : Nat} {i : Int} {v : V} (ha : EvP t σ H (.ref p)) (hp : H p = some (.lst xs)) (hb : Ev tb σ H (.int i)) (hi : i = (n : Int)) (hv : xs[n]? = some v) : EvP (tOp (rIxL K) t tb) σ H v := fun H1 Q s q =>
  ha H1 _ s fun H2 s2 => hb H2 _ (s.trans s2) fun y H3 s3 hy => ⟨p, xs, i, v, rfl, hy.i, SqL.of (s3 _ _ (s2 _ _ (s _ _ hp))), by rw [hi]; exact atI_nat hv, q H3 (s2.trans s3)⟩
theorem ev_lenP {p : Addr} {xs : List V} (ha : EvP t σ H (.ref p)) (hp : H p = some (.lst xs)) : Ev (tCB (fun xs H Q => ∃ p ys, xs = [V.ref p] ∧ (SqL K H p ys ∨ SqT K H p ys) ∧ Q (V.int ys.length) H) (tCons t tNil)) σ H (.int xs.length) := fun H1 Q s q =>
  ha H1 _ s fun H2 s2 => ⟨p, xs, rfl, .inl (SqL.of (s2 _ _ (s _ _ hp))), q _ H2 s2 (.int _)⟩
theorem ev_int1 {i : Int} (h : Ev t σ H (.int i)) : Ev (tCB (fun xs H Q => (∃ i, xs = [V.int i] ∧ Q (V.int i) H) ∨ ∃ k, xs = [V.bl k] ∧ Q (V.int (if k then 1 else 0)) H) (tCons t tNil)) σ H (.int i) := fun H1 Q s q =>
  h H1 _ s fun x H2 s2 hx => .inl ⟨i, by rw [hx.i], q _ H2 s2 (.int _)⟩
theorem ev_abs {i : Int} (h : Ev t σ H (.int i)) : Ev (tCB (fun xs H Q => ∃ i, xs = [V.int i] ∧ Q (V.int (if i < 0 then -i else i)) H) (tCons t tNil)) σ H (.int (if i < 0 then -i else i)) := fun H1 Q s q =>
  h H1 _ s fun x H2 s2 hx => ⟨i, by rw [hx.i], q _ H2 s2 (.int _)⟩
theorem nx_store {i : Nat} {j : Int} {u : TS} {s : Addr} {xs : List V} {n : Nat} {v : Int} {D : Ends} (h : Ev t σ H (.int v)) (hi : σ[i]? = some (some (.ref s))) (hs : H s = some (.lst xs)) (hn : ixN xs.length j = some n) (k : ∀ H2, Same H H2 → u D σ (upd H2 s (.lst (xs.set n (.int v))))) : tSeq (tAsg t (gSub (tVar i) (tC (.int j)) rSetL)) u D σ H :=
  h.go fun x H2 s2 hx => ⟨_, hi, s, xs, j, n, rfl, rfl, s2 _ _ hs, hn, by rw [hx.i]; exact k H2 s2⟩
theorem nx_store1 {i : Nat} {j : Int} {s : Addr} {xs : List V} {n : Nat} {v : Int} {D : Ends} (h : Ev t σ H (.int v)) (hi : σ[i]? = some (some (.ref s))) (hs : H s = some (.lst xs)) (hn : ixN xs.length j = some n) (k : ∀ H2, Same H H2 → D.nx σ (upd H2 s (.lst (xs.set n (.int v))))) : tAsg t (gSub (tVar i) (tC (.int j)) rSetL) D σ H :=
  h.go fun x H2 s2 hx => ⟨_, hi, s, xs, j, n, rfl, rfl, s2 _ _ hs, hn, by rw [hx.i]; exact k H2 s2⟩
/-- a draw -/
theorem nx_draw {ta : TA} {Q : VK} {s l : Addr} {m : Nat} (h : ∀ Q : List V → Hp → Prop, (∀ H2, Same H H2 → Q [.ref s, .int m] H2) → ta σ H Q) (hs : StS H s l) (h1 : 1 ≤ m) (h2 : m ≤ 1000000) (k : ∀ (d : Nat) H', d < m → Sb s H H' → StS H' s l → Q (.int d) H') : tCall spNext [] E0 ta σ H Q :=
  h _ fun H2 s2 => ⟨s, l, m, rfl, hs.s s2, h1, h2, fun d H' hd sb st => k d H' hd ((Sb.of s2).trans sb) st⟩
theorem arg2 {i : Nat} {s : Addr} {m : Int} (hi : σ[i]? = some (some (.ref s))) (h : Ev t σ H (.int m)) (Q : List V → Hp → Prop) (k : ∀ H2, Same H H2 → Q [.ref s, .int m] H2) : tCons (tVar i) (tCons t tNil) σ H Q :=
  ⟨_, hi, h.go fun x H2 s2 hx => by rw [hx.i]; exact k H2 s2⟩
end
end K60
namespace K60
open PySem L2

section
variable {P : Program} {w : World} {K : PySem.W.Frag} {mg : Str → Option Value} {base : Heap}
abbrev N__law_next : List Str := ["_law_stream_here", "_law_many", "_law_k", "_law_cell", "_law_digit"]
theorem sc__law_next : FnScope N__law_next ["_law_stream_here", "_law_many"] (defScope (top 45)) := ⟨rfl, rfl, rfl, by decide +kernel, rfl, by decide +kernel, by decide +kernel⟩
theorem ok__law_next {f : Addr} {fd : FuncData} (F : Fun K "_law_next" "_law_next" (top 45) f fd) (T : Txt mg)  : FnOk P w K mg base CX0 1 f fd ["_law_stream_here", "_law_many"] spNext := by
  have nd := sc__law_next.nd
  refine F.ok sc__law_next (fun vs H Q E h => ?_) fun cdv A outer s H vs Q E hr h => ?_
  · obtain ⟨s, l, m, rfl, _⟩ := h; rfl
  · refine ⟨_, (pss_cons (ps_if (pt_cmpR op_eq (pe_ix (ixk_list (K := K) rfl) (pv 0) pe_int (fun _ _ => rfl)) pe_int (nomark _)) (pss_cons (ps_set (i := 2) nd rfl (Or.inl rfl) (pe_ix (ixk_list (K := K) rfl) (pv 0) pe_int (fun _ _ => rfl))) (pss_cons (ps_set (i := 3) nd rfl (Or.inl rfl) (pe_op op_add pe_int (pv 2))) (pss_cons (ps_if (pt_cmpR op_lt (pv 2) (pe_callB (call_lenk (K := K) rfl) (by rfl) T.len PySem.boot_len (pa_cons (pe_ix (ixk_list (K := K) rfl) (pv 0) pe_int (fun _ _ => rfl)) pa_nil)) (nomark _)) (pss_one (ps_set (i := 3) nd rfl (Or.inl rfl) (pe_callB call_abs (by rfl) T.abs PyProof.Rows.boot_abs (pa_cons (pe_ix (ixk_list (K := K) rfl) (pe_ix (ixk_list (K := K) rfl) (pv 0) pe_int (fun _ _ => rfl)) (pv 2) (fun _ _ => rfl)) pa_nil)))) pss_nil) (pss_cons (ps_if (pt_cmpR op_lt (pv 3) (pe_op op_pow pe_int pe_int) (nomark _)) (pss_cons (ps_set (i := 3) nd rfl (Or.inl rfl) (pe_op op_mod (pe_callTy call_int1 (by rfl) T.int PyProof.Rows.boot_int (pa_cons (pe_op op_add (pe_op op_add (pe_op op_mul (pv 3) pe_int) (pe_op op_mul (pv 2) pe_int)) pe_int) pa_nil)) pe_int)) (pss_one (ps_set (i := 3) nd rfl (Or.inl rfl) (pe_op op_add (pe_op op_mul (pe_op op_mod (pe_callTy call_int1 (by rfl) T.int PyProof.Rows.boot_int (pa_cons (pe_op op_add (pe_op op_mul (pv 3) pe_int) pe_int) pa_nil)) pe_int) pe_int) (pv 3))))) pss_nil) (pss_cons (ps_asg (pv 3) (pg_sub (pv 0) pe_int set_list)) (pss_one (ps_asg (pe_op op_add (pv 2) pe_int) (pg_sub (pv 0) pe_int set_list)))))))) pss_nil) (pss_cons (ps_set (i := 4) nd rfl (Or.inl rfl) (pe_op op_mod (pe_callTy call_int1 (by rfl) T.int PyProof.Rows.boot_int (pa_cons (pe_ix (ixk_list (K := K) rfl) (pv 0) pe_int (fun _ _ => rfl)) pa_nil)) (pv 1))) (pss_cons (ps_asg (pe_op op_fdivN (pe_ix (ixk_list (K := K) rfl) (pv 0) pe_int (fun _ _ => rfl)) (pv 1)) (pg_sub (pv 0) pe_int set_list)) (pss_one (ps_ret (pv 4)))))), ?_⟩
    obtain ⟨s, l, m, rfl, ⟨ns, c, k, hls, hl, hc, hk, hs⟩, hm1, hm2, kk⟩ := h
    have rest : ∀ (H1 : Hp) (c k : Int) (x2 x3 : Option L2.V), Sb s H H1 → H1 l = some (.lst (ns.map V.int)) → 0 ≤ c → 0 ≤ k → H1 s = some (.lst [.ref l, .int c, .int k]) → (tSeq (tAsg (tOp (rI (fun _ j => 0 < j) fun i j => .int (i % j)) (tCB (fun xs H Q => (∃ i, xs = [V.int i] ∧ Q (V.int i) H) ∨ ∃ k, xs = [V.bl k] ∧ Q (V.int (if k then 1 else 0)) H) (tCons (tOp (rIxL K) (tVar 0) (tC (.int 1))) tNil)) (tVar 1)) (gName 4)) (tSeq (tAsg (tOp (rI CDivN fun i j => .int (i.fdiv j)) (tOp (rIxL K) (tVar 0) (tC (.int 1))) (tVar 1)) (gSub (tVar 0) (tC (.int 1)) rSetL)) (tRet (tVar 4)))) { nx := fun _ H' => Q .non H', rt := Q } [some (.ref s), some (.int (m : Nat)), x2, x3, none] H1 := by
      intro H1 c k x2 x3 sb hl hc hk hs
      refine nx_set (e := .int (c % (m : Int))) (ev_ic (ev_int1 (ev_ixLi (n := 1) (evp_var rfl) hs ev_int rfl rfl (.int c))) (ev_var rfl (.int _)) (by show (0 : Int) < (m : Int); omega) fun _ => .int _) fun v H2 s2 dv => ?_
      refine nx_store (v := c.fdiv m) (ev_ic (ev_ixLi (n := 1) (evp_var rfl) (s2 _ _ hs) ev_int rfl rfl (.int c)) (ev_var rfl (.int _)) ⟨by omega, by omega⟩ fun _ => .int _) rfl (s2 _ _ hs) rfl fun H3 s3 => ?_
      refine ⟨_, rfl, ?_⟩
      rw [dv.i]
      have h0 := Int.emod_nonneg c (b := (m : Int)) (by omega)
      have h1 := Int.emod_lt_of_pos c (b := (m : Int)) (by omega)
      have e : c % (m : Int) = ((c % (m : Int)).toNat : Nat) := (Int.toNat_of_nonneg h0).symm
      rw [e]
      refine kk _ _ (by omega) (fun b o hb hH => ?_) ⟨ns, c.fdiv m, k, hls, ?_, ?_, hk, upd_same⟩
      · rw [upd_ne hb]
        exact s3 _ _ (s2 _ _ (sb _ _ hb hH))
      · rw [upd_ne hls]
        exact s3 _ _ (s2 _ _ hl)
      · exact Int.fdiv_nonneg hc (by omega)
    refine nx_sif (b := c == 0) (evt_t (ev_eqI (ev_ixLi (n := 1) (evp_var rfl) hs ev_int rfl rfl (.int c)) ev_int)) (fun e H1 s1 => ?_) fun e H1 s1 => rest H1 c k _ _ (Sb.of s1) (s1 _ _ hl) hc hk (s1 _ _ hs)
    have fin : ∀ (H2 : Hp) (cell : Int) , Same H H2 → 0 ≤ cell → (tSeq (tAsg (tVar 3) (gSub (tVar 0) (tC (.int 1)) rSetL)) (tAsg (tOp (rI0 fun i j => .int (i + j)) (tVar 2) (tC (.int 1))) (gSub (tVar 0) (tC (.int 2)) rSetL))) { nx := (tSeq (tAsg (tOp (rI (fun _ j => 0 < j) fun i j => .int (i % j)) (tCB (fun xs H Q => (∃ i, xs = [V.int i] ∧ Q (V.int i) H) ∨ ∃ k, xs = [V.bl k] ∧ Q (V.int (if k then 1 else 0)) H) (tCons (tOp (rIxL K) (tVar 0) (tC (.int 1))) tNil)) (tVar 1)) (gName 4)) (tSeq (tAsg (tOp (rI CDivN fun i j => .int (i.fdiv j)) (tOp (rIxL K) (tVar 0) (tC (.int 1))) (tVar 1)) (gSub (tVar 0) (tC (.int 1)) rSetL)) (tRet (tVar 4)))) { nx := fun _ H' => Q .non H', rt := Q }, rt := Q } [some (.ref s), some (.int (m : Nat)), some (.int k), some (.int cell), none] H2 := by
      intro H2 cell s2 hcell
      refine nx_store (v := cell) (ev_var rfl (.int _)) rfl (s2 _ _ hs) rfl fun H3 s3 => ?_
      refine nx_store1 (v := k + 1) (ev_ii (g := fun i j => i + j) (ev_var rfl (.int _)) ev_int) rfl upd_same rfl fun H4 s4 => ?_
      refine rest _ cell (k + 1) _ _ (fun b o hb hH => ?_) ?_ hcell (by omega) upd_same
      · rw [upd_ne hb]
        refine s4 _ _ ?_
        rw [upd_ne hb]
        exact s3 _ _ (s2 _ _ hH)
      · rw [upd_ne hls]
        refine s4 _ _ ?_
        rw [upd_ne hls]
        exact s3 _ _ (s2 _ _ hl)
    have mid : ∀ (H2 : Hp) (cell : Int) , Same H H2 → 0 ≤ cell → (tSeq (tIfS (tTest (tOp (rI0 fun i j => .bl (decide (i < j))) (tVar 3) (tOp (rI CPow fun i j => .int (i ^ j.toNat)) (tC (.int 10)) (tC (.int 18))))) (tSeq (tAsg (tOp (rI (fun _ j => 0 < j) fun i j => .int (i % j)) (tCB (fun xs H Q => (∃ i, xs = [V.int i] ∧ Q (V.int i) H) ∨ ∃ k, xs = [V.bl k] ∧ Q (V.int (if k then 1 else 0)) H) (tCons (tOp (rI0 fun i j => .int (i + j)) (tOp (rI0 fun i j => .int (i + j)) (tOp (rI CMul fun i j => .int (i * j)) (tVar 3) (tC (.int 48271))) (tOp (rI CMul fun i j => .int (i * j)) (tVar 2) (tC (.int 69621)))) (tC (.int 11))) tNil)) (tC (.int 2147483647))) (gName 3)) (tAsg (tOp (rI0 fun i j => .int (i + j)) (tOp (rI CMul fun i j => .int (i * j)) (tOp (rI (fun _ j => 0 < j) fun i j => .int (i % j)) (tCB (fun xs H Q => (∃ i, xs = [V.int i] ∧ Q (V.int i) H) ∨ ∃ k, xs = [V.bl k] ∧ Q (V.int (if k then 1 else 0)) H) (tCons (tOp (rI0 fun i j => .int (i + j)) (tOp (rI CMul fun i j => .int (i * j)) (tVar 3) (tC (.int 16807))) (tC (.int 13))) tNil)) (tC (.int 2147483647))) (tC (.int 65537))) (tVar 3)) (gName 3))) tNext) (tSeq (tAsg (tVar 3) (gSub (tVar 0) (tC (.int 1)) rSetL)) (tAsg (tOp (rI0 fun i j => .int (i + j)) (tVar 2) (tC (.int 1))) (gSub (tVar 0) (tC (.int 2)) rSetL)))) { nx := (tSeq (tAsg (tOp (rI (fun _ j => 0 < j) fun i j => .int (i % j)) (tCB (fun xs H Q => (∃ i, xs = [V.int i] ∧ Q (V.int i) H) ∨ ∃ k, xs = [V.bl k] ∧ Q (V.int (if k then 1 else 0)) H) (tCons (tOp (rIxL K) (tVar 0) (tC (.int 1))) tNil)) (tVar 1)) (gName 4)) (tSeq (tAsg (tOp (rI CDivN fun i j => .int (i.fdiv j)) (tOp (rIxL K) (tVar 0) (tC (.int 1))) (tVar 1)) (gSub (tVar 0) (tC (.int 1)) rSetL)) (tRet (tVar 4)))) { nx := fun _ H' => Q .non H', rt := Q }, rt := Q } [some (.ref s), some (.int (m : Nat)), some (.int k), some (.int cell), none] H2 := by
      intro H2 cell s2 hcell
      refine nx_sif (evt_t (ev_ib (g := fun i j => decide (i < j)) (ev_var rfl (.int _)) (ev_ic (g := fun i j => .int (i ^ j.toNat)) ev_int ev_int (by show CPow 10 18; exact ⟨by decide, by decide, by decide⟩) fun _ => .int _))) (fun e H3 s3 => ?_) fun e H3 s3 => fin H3 cell (s2.trans s3) hcell
      refine nx_set (e := .int ((cell * 48271 + k * 69621 + 11) % 2147483647)) (ev_ic (ev_int1 (ev_ii (g := fun i j => i + j) (ev_ii (g := fun i j => i + j) (ev_ic (g := fun i j => .int (i * j)) (ev_var rfl (.int _)) ev_int (.inr (by decide)) fun _ => .int _) (ev_ic (g := fun i j => .int (i * j)) (ev_var rfl (.int _)) ev_int (.inr (by decide)) fun _ => .int _)) ev_int)) ev_int (by decide) fun _ => .int _) fun v H4 s4 dv => ?_
      obtain rfl := dv.i
      have h0 : 0 ≤ (cell * 48271 + k * 69621 + 11) % 2147483647 := by omega
      generalize (cell * 48271 + k * 69621 + 11) % 2147483647 = z at h0
      show tAsg _ _ _ _ _
      refine Ev.go (d := .int ((z * 16807 + 13) % 2147483647 * 65537 + z)) (ev_ii (g := fun i j => i + j) (ev_ic (g := fun i j => .int (i * j)) (ev_ic (g := fun i j => .int (i % j)) (ev_int1 (ev_ii (g := fun i j => i + j) (ev_ic (g := fun i j => .int (i * j)) (ev_var rfl (.int _)) ev_int (.inr (by decide)) fun _ => .int _) ev_int)) ev_int (by decide) fun _ => .int _) ev_int (.inr (by decide)) fun _ => .int _) (ev_var rfl (.int _))) fun v H5 s5 dv => ?_
      obtain rfl := dv.i
      exact fin H5 _ ((s2.trans s3).trans (s4.trans s5)) (by omega)
    refine nx_set (ev_ixLi (n := 2) (evp_var rfl) (s1 _ _ hs) ev_int rfl rfl (.int k)) fun v H2 s2 dv => ?_
    obtain rfl := dv.i
    refine nx_set (e := .int (7 + k)) (ev_ii (g := fun i j => i + j) ev_int (ev_var rfl (.int _))) fun v H3 s3 dv => ?_
    obtain rfl := dv.i
    have s03 := (s1.trans s2).trans s3
    refine nx_sif (evt_t (ev_ib (g := fun i j => decide (i < j)) (ev_var rfl (.int _)) (ev_lenP (evp_ixLi (n := 0) (evp_var rfl) (s03 _ _ hs) ev_int rfl rfl) (s03 _ _ hl)))) (fun e H4 s4 => ?_) fun e H4 s4 => mid H4 _ (s03.trans s4) (by omega)
    have hkl : k < (ns.length : Int) := by
      have := of_decide_eq_true e
      rw [List.length_map] at this
      exact this
    have hkn : k.toNat < ns.length := by omega
    have s04 := s03.trans s4
    show tAsg _ _ _ _ _
    refine Ev.go (ev_abs (ev_ixLi (n := k.toNat) (evp_ixLi (n := 0) (evp_var rfl) (s04 _ _ hs) ev_int rfl rfl) (s04 _ _ hl) (ev_var rfl (.int _)) (by omega) (by rw [List.getElem?_map, List.getElem?_eq_getElem hkn]; rfl) (.int _))) fun v H5 s5 dv => ?_
    obtain rfl := dv.i
    exact mid H5 _ (s04.trans s5) (by split <;> omega)
end
end K60
/-! Lists of data; loops with the heap in the invariant. -/
namespace K60
open PySem L2
def Lv (H : Hp) (p : Addr) (ds : List PyData) : Prop := ∃ ys, H p = some (.lst ys) ∧ DtA H ys ds
theorem Lv.s {H H' : Hp} {p : Addr} {ds : List PyData} (h : Lv H p ds) (s : Same H H') : Lv H' p ds := by
  obtain ⟨ys, h1, h2⟩ := h
  exact ⟨ys, s _ _ h1, h2.s s⟩
section
variable {K : PySem.W.Frag} {σ : L2.St} {H : Hp} {t ta tb te : TE}
theorem nx_setL {u : TS} {i : Nat} {ds : List PyData} {D : Ends} (h : EvL t σ H ds) (k : ∀ p H2, Same H H2 → H p = none → Lv H2 p ds → u D (σ.set i (some (.ref p))) H2) : tSeq (tAsg t (gName i)) u D σ H := h.go fun p ys H2 s2 hn hp hd => k p H2 s2 hn ⟨ys, hp, hd⟩
theorem nx_asgL {i : Nat} {ds : List PyData} {D : Ends} (h : EvL t σ H ds) (k : ∀ p H2, Same H H2 → H p = none → Lv H2 p ds → D.nx (σ.set i (some (.ref p))) H2) : tAsg t (gName i) D σ H := h.go fun p ys H2 s2 hn hp hd => k p H2 s2 hn ⟨ys, hp, hd⟩
theorem nx_asgP {i : Nat} {v : V} {D : Ends} (h : EvP t σ H v) (k : ∀ H2, Same H H2 → D.nx (σ.set i (some v)) H2) : tAsg t (gName i) D σ H := h H _ (Same.refl _) k
theorem evl_lst {ta : TA} {ds : List PyData} (ha : EvA ta σ H ds) (hz : ds.length ≤ sizeLine) : EvL (tLst ta) σ H ds := fun H1 Q s q =>
  ha H1 _ s fun xs H2 s2 hx => ⟨by rw [hx.len]; exact hz, fun l hl => by
    have sn := same_new (o := .lst xs) hl
    refine q l xs _ (s2.trans sn) ?_ upd_same (hx.s sn)
    cases e : H1 l with
    | none => rfl
    | some u => rw [s2 _ _ e] at hl; cases hl⟩
theorem evl_cat {p : Addr} {ds es : List PyData} (ha : EvP ta σ H (.ref p)) (hp : Lv H p ds) (hb : EvL tb σ H es) (hz : ds.length + es.length ≤ sizeLine) : EvL (tOp rCat ta tb) σ H (ds ++ es) := fun H1 Q s q =>
  ha H1 _ s fun H2 s2 => hb H2 _ (s.trans s2) fun b ys H3 s3 hbn hb3 hd3 => by
    obtain ⟨xs, hx, hdx⟩ := ((hp.s s).s s2).s s3
    refine ⟨p, b, xs, ys, rfl, rfl, hx, hb3, by rw [hdx.len, hd3.len]; exact hz, fun r hr => ?_⟩
    have sn := same_new (o := .lst (xs ++ ys)) hr
    refine q r _ _ ((s2.trans s3).trans sn) ?_ upd_same ((hdx.app hd3).s sn)
    cases e : H1 r with
    | none => rfl
    | some u => rw [s3 _ _ (s2 _ _ e)] at hr; cases hr
/-- [.. for x in l], l a list of data -/
theorem evl_mapLg {α : Type} {j : Nat} {xs : List α} {p : Addr} (f g : α → PyData) (hl : EvP t σ H (.ref p)) (hp : Lv H p (xs.map f)) (hz : xs.length ≤ 100000) (hw : ∀ x, wipe ((wipe σ [j]).set j (some x)) [j] = wipe σ [j])
    (hb : ∀ a x H', a ∈ xs → Same H H' → Dt H' x (f a) → Ev te ((wipe σ [j]).set j (some x)) H' (g a)) : EvL (tLc (iList K t) (gName j) tYes te [j]) σ H (xs.map g) := by
  obtain ⟨ys, hp1, hp2⟩ := hp
  refine (evl_lc (fun i => (xs[i]?).map g) (evi_list hl hp1 hp2) (by rw [List.length_map, sizeLine_eq]; omega) fun i x H' hi s' yd => ?_).eq ?_
  · obtain ⟨d, e1, hx⟩ := yd
    rw [List.getElem?_map] at e1
    cases e2 : xs[i]? with
    | none => rw [e2] at e1; cases e1
    | some n =>
      rw [e2] at e1
      cases e1
      exact ⟨_, gt_name, hw _, true, evt_yes, fun _ => ⟨_, rfl, hb n x H' (List.mem_of_getElem? e2) s' hx⟩, tt_⟩
  · rw [List.length_map]
    have := fm_at (fun n : α => some (g n)) xs
    rw [fm_some] at this
    refine Eq.trans ?_ this
    congr 1
    funext i
    cases xs[i]? <;> rfl
/-- a loop, the invariant with the heap -/
theorem nx_forS {wi : TI} {g : TG} {tb u : TS} {n : Nat} {Yd : Nat → Hp → V → Prop} {D : Ends} (I : Nat → L2.St → Hp → Prop) (hm : ∀ i σ H H', Same H H' → I i σ H → I i σ H') (hi : EvI wi σ H n Yd) (h0 : I 0 σ H)
    (hs : ∀ i x σ' H', i < n → Same H H' → Yd i H' x → I i σ' H' → ∀ D' : Ends, (∀ σ2 H2, Same H' H2 → I (i + 1) σ2 H2 → D'.nx σ2 H2) → D'.rt = D.rt → g x σ' H' fun σ2 H2 => tb D' σ2 H2)
    (hd : ∀ σ' H', Same H H' → I n σ' H' → u D σ' H') : tSeq (tFor wi g tb) u D σ H :=
  hi H _ (Same.refl _) fun J H2 G Y s2 W hG hY => by
    refine for_it (D := { D with nx := u D }) W (fun i σ' H' => Same H2 H' ∧ I i σ' H') ⟨Same.refl _, hm _ _ _ _ s2 h0⟩ (fun i σ' H' _ p => hG H' p.1) ?_ fun σ' H' p => hd σ' H' (s2.trans p.1) p.2
    rintro i x σ' H' H'' hi ⟨s', p⟩ hy
    obtain ⟨s'', yd⟩ := hY i H' x H'' hi s' hy
    exact hs i x σ' H'' hi ((s2.trans s').trans s'') yd (hm _ _ _ _ s'' p) _ (fun σ2 H3 s3 p3 => ⟨(s'.trans s'').trans s3, p3⟩) rfl
theorem nx_forB {wi : TI} {g : TG} {tb : TS} {n : Nat} {Yd : Nat → Hp → V → Prop} {D : Ends} (I : Nat → L2.St → Hp → Prop) (hm : ∀ i σ H H', Same H H' → I i σ H → I i σ H') (hi : EvI wi σ H n Yd) (h0 : I 0 σ H)
    (hs : ∀ i x σ' H', i < n → Same H H' → Yd i H' x → I i σ' H' → ∀ D' : Ends, (∀ σ2 H2, Same H' H2 → I (i + 1) σ2 H2 → D'.nx σ2 H2) → D'.rt = D.rt → g x σ' H' fun σ2 H2 => tb D' σ2 H2)
    (hd : ∀ σ' H', Same H H' → I n σ' H' → D.nx σ' H') : tFor wi g tb D σ H :=
  hi H _ (Same.refl _) fun J H2 G Y s2 W hG hY => by
    refine for_it W (fun i σ' H' => Same H2 H' ∧ I i σ' H') ⟨Same.refl _, hm _ _ _ _ s2 h0⟩ (fun i σ' H' _ p => hG H' p.1) ?_ fun σ' H' p => hd σ' H' (s2.trans p.1) p.2
    rintro i x σ' H' H'' hi ⟨s', p⟩ hy
    obtain ⟨s'', yd⟩ := hY i H' x H'' hi s' hy
    exact hs i x σ' H'' hi ((s2.trans s').trans s'') yd (hm _ _ _ _ s'' p) _ (fun σ2 H3 s3 p3 => ⟨(s'.trans s'').trans s3, p3⟩) rfl
/-- l.append(e) at the end of a body -/
theorem nx_app {i : Nat} {p : Addr} {ys : List V} {e : PyData} {D : Ends} (hi : σ[i]? = some (some (.ref p))) (hp : H p = some (.lst ys)) (h : Ev te σ H e) (hz : ys.length ≤ 100000) (k : ∀ v H2, Same H H2 → Dt H2 v e → D.nx σ (upd H2 p (.lst (ys ++ [v])))) : tDrop (tBM K "list" rAppend (tVar i) (tCons te tNil)) D σ H :=
  ⟨_, hi, .inl ⟨rfl, ys, SqL.of hp⟩, h.go fun v H2 s2 hv => ⟨p, ys, v, rfl, rfl, s2 _ _ hp, by rw [sizeLine_eq]; omega, k v H2 s2 hv⟩⟩
end
def setsF : Nat → List (List Int)
  | 0 => [[]]
  | k + 1 => setsF k ++ (setsF k).map fun c => c ++ [(k : Int)]
theorem setsF_len (k : Nat) : (setsF k).length = 2 ^ k := by
  induction k with
  | zero => rfl
  | succ k ih => rw [setsF, List.length_append, List.length_map, ih, Nat.pow_succ]; omega
def spAllocs : Sp := fun vs H Q _ => ∃ (V N : Nat), vs = [.int V, .int N] ∧ 1 ≤ V ∧ V ≤ 3 ∧ N ≤ 4 ∧ ∀ q (als : List (List Int)) H', Same H H' → Lv H' q (als.map tI) → (∀ a ∈ als, Alc V N a) → 1 ≤ als.length → als.length ≤ 1000 → Q (.ref q) H'
def spAsgs : Sp := fun vs H Q _ => ∃ (V N : Nat), vs = [.int V, .int N] ∧ 1 ≤ V ∧ V ≤ 3 ∧ N ≤ 4 ∧ ∀ q (als : List (List Int)) H', Same H H' → Lv H' q (als.map tI) → (∀ a ∈ als, Asg V N a) → als.length ≤ 1000 → Q (.ref q) H'
def spSets : Sp := fun vs H Q _ => ∃ (n : Nat), vs = [.int n] ∧ n ≤ 3 ∧ ∀ q H', Same H H' → Lv H' q ((setsF n).map tI) → Q (.ref q) H'
def spCont : Sp := fun vs H Q _ => ∃ (r : List (List Int × List Int)) (a : List Int) (V N : Nat), DtA H vs [tR r, tI a, .int V, .int N] ∧ VR V N r ∧ r.length ≤ 5 ∧ Alc V N a ∧ 1 ≤ V ∧ V ≤ 3 ∧ N ≤ 4 ∧
  (∀ g, Asg V N g → counts V g = a → ∃ p q, ∃ b : Nat, p ∈ r ++ [(a, g)] ∧ q ∈ r ++ [(a, g)] ∧ b < N ∧ goesF p q b = true) ∧ ∀ q H', Same H H' → H' q = some (.lst []) → Q (.ref q) H'
def spStream (K : PySem.W.Frag) : Sp := fun vs H Q _ => ∃ (a : Addr) (ns : List Int), vs = [.ref a] ∧ SqL K H a (ns.map V.int) ∧ ∀ s l H', Same H H' → H s = none → StS H' s l → Q (.ref s) H'
theorem sum_app (a : List Int) (x : Int) : (a ++ [x]).sum = a.sum + x := by rw [List.sum_append]; simp
end K60
namespace K60
theorem setsF_small : ∀ (i : Nat) (c : List Int), c ∈ setsF i → i < 100 → (n : Nat) → n ≤ 3 → c.length ≤ i
  | 0, c, h, _, _, _ => by
    rw [setsF, List.mem_singleton] at h
    rw [h]; exact Nat.le_refl _
  | i + 1, c, h, h1, n, h2 => by
    rw [setsF, List.mem_append] at h
    rcases h with h | h
    · have := setsF_small i c h (by omega) n h2
      omega
    · obtain ⟨c', hc', rfl⟩ := List.mem_map.mp h
      have := setsF_small i c' hc' (by omega) n h2
      rw [List.length_append, List.length_singleton]
      omega
end K60
namespace K60
theorem tP_inj {p q : List Int × List Int} (h : tP p = tP q) : p = q := by
  injection h with h
  injection h with h1 h
  injection h with h2 _
  injection h1 with h1
  injection h2 with h2
  exact Prod.ext (ints_inj h1) (ints_inj h2)
theorem tR_inj : ∀ {r s : List (List Int × List Int)}, r.map tP = s.map tP → r = s
  | [], [], _ => rfl
  | [], _ :: _, h => by simp at h
  | _ :: _, [], h => by simp at h
  | p :: r, q :: s, h => by
    rw [List.map_cons, List.map_cons] at h
    injection h with h1 h2
    rw [tP_inj h1, tR_inj h2]
end K60
namespace K60
open PySem L2
section
variable {K : PySem.W.Frag} {σ : L2.St} {H : Hp} {t ta tb te : TE}
theorem nx_rng {ta : TA} {g : TG} {tb : TS} {D : Ends} {m : Int} {n : Nat} (h : EvA ta σ H [.int m]) (hm : m.toNat = n) (hz : -100000 ≤ m ∧ m ≤ 100000) (Pv : Nat → L2.St → Hp → Prop) (h0 : ∀ H2, Same H H2 → Pv 0 σ H2)
    (hs : ∀ (i : Nat) σ H, i < n → Pv i σ H → g (.int (i : Nat)) σ H fun σ2 H2 => tb { D with nx := Pv (i + 1), ct := Pv (i + 1), bk := D.nx } σ2 H2) (hd : ∀ σ H, Pv n σ H → D.nx σ H) : tFor (iRng1 ta) g tb D σ H :=
  h.go fun xs H2 s2 hx => by
    obtain ⟨x, rfl, hy⟩ := hx.one
    refine ⟨m, by rw [hy.i], by omega, by omega, ?_⟩
    rw [hm]
    refine for_it walk_range Pv (h0 H2 s2) (fun _ _ _ _ _ => trivial) (fun i x σ H H' hi p y => ?_) hd
    obtain ⟨rfl, rfl⟩ := y
    show g (.int (0 + (i : Int))) σ H' _
    rw [Int.zero_add]
    exact hs i σ H' hi p
theorem nx_isNR {g : List PyData → Prop} {R : List PyData → PyData → Prop} {ta : TA} {t u : TS} {D : Ends} {ds : List PyData} (ha : EvA ta σ H ds) (hg : g ds) (hn : ∀ d, R ds d → isNon d = false) (k : ∀ H2, Same H H2 → u D σ H2) : tIfS (tB (tIsN (tCall (spR g R) [] E0 ta))) t u D σ H :=
  ha.go fun vs H2 s2 hv => by
    rw [List.append_nil]
    refine ⟨ds, hg, hv, fun d v H3 hr s3 hd => ?_⟩
    refine ⟨_, rfl, ?_⟩
    rw [isn_ok hd, hn d hr]
    exact iteF (k H3 (s2.trans s3))
end
end K60
namespace K60
open PySem L2

theorem lv_nil {H : Hp} {p : Addr} (h : H p = some (.lst [])) : Lv H p [] := ⟨[], h, .nil⟩
theorem alc_row {i N : Nat} {row : List Int} {k : Nat} (h : row.length = i ∧ (∀ n ∈ row, 0 ≤ n) ∧ row.sum ≤ N) (hk : (k : Int) < N - row.sum + 1) : (row ++ [(k : Int)]).length = i + 1 ∧ (∀ n ∈ row ++ [(k : Int)], 0 ≤ n) ∧ (row ++ [(k : Int)]).sum ≤ N := by
  refine ⟨by rw [List.length_append, h.1]; rfl, fun n hn => ?_, by rw [sum_app]; omega⟩
  rcases List.mem_append.mp hn with hn | hn
  · exact h.2.1 n hn
  · rw [List.mem_singleton.mp hn]; omega
def RowOk (N i : Nat) (row : List Int) : Prop := row.length = i ∧ (∀ n ∈ row, 0 ≤ n) ∧ row.sum ≤ N
theorem sum_nn : ∀ {ns : List Int}, (∀ n ∈ ns, 0 ≤ n) → 0 ≤ ns.sum
  | [], _ => by simp
  | n :: ns, h => by
    have := sum_nn fun x hx => h x (List.mem_cons_of_mem _ hx)
    have := h n List.mem_cons_self
    rw [List.sum_cons]; omega
theorem tI_app (row : List Int) (x : Int) : PyData.tuple (row.map PyData.int ++ [.int x]) = tI (row ++ [x]) := by
  show _ = PyData.tuple _
  rw [List.map_append]; rfl
section
variable {P : Program} {w : World} {K : PySem.W.Frag} {mg : Str → Option Value} {base : Heap}
abbrev N__law_stream : List Str := ["_law_script"]
theorem sc__law_stream : FnScope N__law_stream ["_law_script"] (defScope (top 44)) := ⟨rfl, rfl, rfl, by decide +kernel, rfl, by decide +kernel, by decide +kernel⟩
theorem ok__law_stream {f : Addr} {fd : FuncData} (F : Fun K "_law_stream" "_law_stream" (top 44) f fd) (T : Txt mg)  : FnOk P w K mg base CX0 1 f fd ["_law_script"] (spStream K) := by
  have nd := sc__law_stream.nd
  refine F.ok sc__law_stream (fun vs H Q E h => ?_) fun cdv A outer s H vs Q E hr h => ?_
  · obtain ⟨a, ns, rfl, _⟩ := h; rfl
  · refine ⟨_, (pss_one (ps_ret (pe_lst (pa_cons (pe_callTy call_list_of (by rfl) T.list PyProof.Rows.boot_list (pa_cons (pv 0) pa_nil)) (pa_cons pe_int (pa_cons pe_int pa_nil)))))), ?_⟩
    obtain ⟨a, ns, rfl, hl, k⟩ := h
    refine ⟨_, rfl, a, _, rfl, .inl hl, fun l hl' => ?_⟩
    have sn := same_new (o := .lst (ns.map L2.V.int)) hl'
    refine ⟨by show 3 ≤ sizeLine; decide, fun s hs => ?_⟩
    have sn2 := same_new (o := .lst [.ref l, .int 0, .int 0]) hs
    have hls : l ≠ s := ne_of_none (o := .lst (ns.map L2.V.int)) upd_same hs
    refine k s l _ (sn.trans sn2) ?_ ⟨ns, 0, 0, hls, by rw [upd_ne hls]; exact upd_same, by omega, by omega, upd_same⟩
    rw [upd_ne hls.symm] at hs
    exact hs
abbrev N__law_sets : List Str := ["_law_many", "_law_found", "_law_k", "_law_row"]
theorem sc__law_sets : FnScope N__law_sets ["_law_many"] (defScope (top 59)) := ⟨rfl, rfl, rfl, by decide +kernel, rfl, by decide +kernel, by decide +kernel⟩
theorem ok__law_sets {f : Addr} {fd : FuncData} (F : Fun K "_law_sets" "_law_sets" (top 59) f fd) (T : Txt mg)  : FnOk P w K mg base CX0 1 f fd ["_law_many"] spSets := by
  have nd := sc__law_sets.nd
  refine F.ok sc__law_sets (fun vs H Q E h => ?_) fun cdv A outer s H vs Q E hr h => ?_
  · obtain ⟨n, rfl, _⟩ := h; rfl
  · refine ⟨_, (pss_cons (ps_set (i := 1) nd rfl (Or.inl rfl) (pe_lst (pa_cons (pe_tupF pa_nil) pa_nil))) (pss_cons (ps_for PassesOwn.never rfl (pi_range1 (by rfl) T.range (pa_cons (pv 0) pa_nil)) (pg_name (i := 2) nd rfl (Or.inr rfl)) (pss_one (ps_set (i := 1) nd rfl (Or.inl rfl) (pe_op op_cat (pv 1) (pe_lc (own := [("_law_row", 3)]) (g := (gName 3)) (tt := tYes) rfl nd (pik_list (K := K) rfl (pv 1)) (blkOk_by (N := N__law_sets) (sc := defScope (top 59)) (by decide +kernel)) (fun _ _ _ _ _ => (pg_name (i := 3) nd rfl (Or.inl rfl))) (fun _ _ _ _ _ => pts_nil) (fun _ _ _ _ _ => (pe_op op_catF (pv 3) (pe_tupF (pa_cons (pv 2) pa_nil))))))))) (pss_one (ps_ret (pv 1))))), ?_⟩
    obtain ⟨n, rfl, hn, k⟩ := h
    refine nx_setL (ds := [tI []]) (evl_lst (eva_cons (ev_tup eva_nil (Nat.zero_le _)) eva_nil) (by show 1 ≤ sizeLine; decide)) fun p H1 s1 _ hp => ?_
    refine nx_forS (n := n) (fun i σ' H' => ∃ f x y, σ' = [some (.int (n : Nat)), some (.ref f), x, y] ∧ Lv H' f ((setsF i).map tI)) (fun i σ H H' s ⟨f, x, y, e, h⟩ => ⟨f, x, y, e, h.s s⟩) (evi_rng (eva_cons (ev_var rfl (.int _)) eva_nil) (by simp) (by omega)) ⟨p, _, _, rfl, hp⟩ ?_ fun σ' H' s' ⟨f, x, y, e, h⟩ => ?_
    · rintro i x σ' H' hi s' rfl ⟨f, x, y, rfl, hf⟩ D nx rt
      have hz : (setsF i).length ≤ 8 := by
        rw [setsF_len]
        have : i = 0 ∨ i = 1 ∨ i = 2 := by omega
        rcases this with rfl | rfl | rfl <;> decide
      refine nx_asgL (evl_cat (evp_var rfl) hf (evl_mapLg (xs := setsF i) tI (fun c => tI (c ++ [(i : Int)])) (evp_var rfl) hf (by omega) (fun _ => rfl) fun c w H2 hc s2 hw => ?_) (by rw [List.length_map, List.length_map, sizeLine_eq]; omega)) fun q H2 s2 _ hq => nx _ H2 s2 ⟨q, _, _, rfl, ?_⟩
      · have hcz : c.length ≤ i := setsF_small i c hc (by omega) 3 (by decide)
        exact (ev_cat (ev_var rfl hw) (ev_tup (eva_cons (ev_var rfl (.int _)) eva_nil) (by show 1 ≤ sizeLine; decide)) (by rw [List.length_map, sizeLine_eq]; show c.length + 1 ≤ _; omega)).eq (tI_app c _)
      · rw [setsF, List.map_append, List.map_map]
        exact hq
    · subst e
      exact ⟨_, rfl, k f H' (s1.trans s') h⟩
abbrev N__law_assignments : List Str := ["_law_variants", "_law_buckets", "_law_found", "_law_bucket", "_law_longer", "_law_row", "_law_variant"]
theorem sc__law_assignments : FnScope N__law_assignments ["_law_variants", "_law_buckets"] (defScope (top 47)) := ⟨rfl, rfl, rfl, by decide +kernel, rfl, by decide +kernel, by decide +kernel⟩
theorem ok__law_assignments {f : Addr} {fd : FuncData} (F : Fun K "_law_assignments" "_law_assignments" (top 47) f fd) (T : Txt mg)  : FnOk P w K mg base CX0 1 f fd ["_law_variants", "_law_buckets"] spAsgs := by
  have nd := sc__law_assignments.nd
  refine F.ok sc__law_assignments (fun vs H Q E h => ?_) fun cdv A outer s H vs Q E hr h => ?_
  · obtain ⟨V, N, rfl, _⟩ := h; rfl
  · refine ⟨_, (pss_cons (ps_set (i := 2) nd rfl (Or.inl rfl) (pe_lst (pa_cons (pe_tupF pa_nil) pa_nil))) (pss_cons (ps_for PassesOwn.never rfl (pi_range1 (by rfl) T.range (pa_cons (pv 1) pa_nil)) (pg_name (i := 3) nd rfl (Or.inl rfl)) (pss_cons (ps_set (i := 4) nd rfl (Or.inl rfl) (pe_lst pa_nil)) (pss_cons (ps_for PassesOwn.never rfl (pik_list (K := K) rfl (pv 2)) (pg_name (i := 5) nd rfl (Or.inr rfl)) (pss_one (ps_set (i := 4) nd rfl (Or.inl rfl) (pe_op op_cat (pv 4) (pe_lc (own := [("_law_variant", 6)]) (g := (gName 6)) (tt := tYes) rfl nd (pi_range1 (by rfl) T.range (pa_cons (pv 0) pa_nil)) (blkOk_by (N := N__law_assignments) (sc := defScope (top 47)) (by decide +kernel)) (fun _ _ _ _ _ => (pg_name (i := 6) nd rfl (Or.inl rfl))) (fun _ _ _ _ _ => pts_nil) (fun _ _ _ _ _ => (pe_op op_catF (pv 5) (pe_tupF (pa_cons (pv 6) pa_nil))))))))) (pss_one (ps_set (i := 2) nd rfl (Or.inl rfl) (pv 4)))))) (pss_one (ps_ret (pv 2))))), ?_⟩
    obtain ⟨V, N, rfl, hV, hV3, hN, k⟩ := h
    refine nx_setL (ds := [tI []]) (evl_lst (eva_cons (ev_tup eva_nil (Nat.zero_le _)) eva_nil) (by show 1 ≤ sizeLine; decide)) fun p H1 s1 _ hp => ?_
    refine nx_forS (n := N) (fun i σ' H' => ∃ f x y z w, σ' = [some (.int (V : Nat)), some (.int (N : Nat)), some (.ref f), x, y, z, w] ∧ ∃ als : List (List Int), Lv H' f (als.map tI) ∧ (∀ a ∈ als, Asg V i a) ∧ als.length ≤ 3 ^ i) (fun i σ H H' s ⟨f, x, y, z, w, e, als, h, r⟩ => ⟨f, x, y, z, w, e, als, h.s s, r⟩) (evi_rng (eva_cons (ev_var rfl (.int _)) eva_nil) (by simp) (by omega)) ⟨p, _, _, _, _, rfl, [[]], hp, fun a ha => by rw [List.mem_singleton.mp ha]; exact ⟨rfl, fun n hn => by cases hn⟩, by decide⟩ ?_ fun σ' H' s' ⟨f, x, y, z, w, e, als, h1, h2, h3⟩ => ?_
    · rintro i x σ' H' hi s' rfl ⟨f, x, y, z, w, rfl, als, hf, hok, hz⟩ D nx rt
      have h27 : (3 : Nat) ^ i ≤ 27 := by
        have : i = 0 ∨ i = 1 ∨ i = 2 ∨ i = 3 := by omega
        rcases this with rfl | rfl | rfl | rfl <;> decide
      refine nx_setL (ds := []) (evl_lst eva_nil (Nat.zero_le _)) fun l H2 s2 _ hl => ?_
      refine nx_forS (n := als.length) (fun j σ' H' => ∃ g z w, σ' = [some (.int (V : Nat)), some (.int (N : Nat)), some (.ref f), some (.int (i : Nat)), some (.ref g), z, w] ∧ ∃ bls : List (List Int), Lv H' g (bls.map tI) ∧ (∀ a ∈ bls, Asg V (i + 1) a) ∧ bls.length = j * V) (fun i σ H H' s ⟨f, z, w, e, als, h, r⟩ => ⟨f, z, w, e, als, h.s s, r⟩) (by
          obtain ⟨ys, hy1, hy2⟩ := hf.s s2
          have := evi_list (K := K) (evp_var (σ := [some (.int (V : Nat)), some (.int (N : Nat)), some (.ref f), some (.int (i : Nat)), some (.ref l), z, w]) (i := 2) rfl) hy1 hy2
          rw [List.length_map] at this
          exact this) ⟨l, _, _, rfl, [], hl, fun a ha => (by cases ha), by simp⟩ ?_ fun σ' H3 s3 ⟨g, z, w, e, bls, h1, h2, h3⟩ => ?_
      · rintro j x σ' H3 hj s3 ⟨d, e1, hx⟩ ⟨g, z, w, rfl, bls, hg, hbok, hbz⟩ D nx rt
        rw [List.getElem?_map] at e1
        cases e2 : als[j]? with
        | none => rw [e2] at e1; cases e1
        | some row =>
          rw [e2] at e1
          cases e1
          have hrow := hok row (List.mem_of_getElem? e2)
          have hjV : j * V ≤ 81 := by
            have h1 : j ≤ 27 := by omega
            calc j * V ≤ 27 * 3 := Nat.mul_le_mul h1 hV3
              _ = 81 := rfl
          refine nx_asgL (evl_cat (evp_var rfl) hg (evl_mapN (n := V) (fun v => tI (row ++ [(v : Int)])) (eva_cons (ev_var rfl (.int _)) eva_nil) (by simp) (by omega) (fun _ => rfl) fun v H4 hv s4 => ?_) (by rw [List.length_map, List.length_map, List.length_range, sizeLine_eq]; omega)) fun q H4 s4 _ hq => nx _ H4 s4 ⟨q, _, _, rfl, bls ++ (List.range V).map (fun (v : Nat) => row ++ [(v : Int)]), ?_, fun a ha => ?_, ?_⟩
          · exact (ev_cat (ev_var rfl (hx.s s4)) (ev_tup (eva_cons (ev_var rfl (.int _)) eva_nil) (by show 1 ≤ sizeLine; decide)) (by rw [List.length_map, sizeLine_eq, hrow.1]; show i + 1 ≤ _; omega)).eq (tI_app row _)
          · rw [List.map_append, List.map_map]
            exact hq
          · rcases List.mem_append.mp ha with ha | ha
            · exact hbok a ha
            · obtain ⟨v, hv, rfl⟩ := List.mem_map.mp ha
              have hv := List.mem_range.mp hv
              refine ⟨by rw [List.length_append, hrow.1]; rfl, fun n hn => ?_⟩
              rcases List.mem_append.mp hn with hn | hn
              · exact hrow.2 n hn
              · rw [List.mem_singleton.mp hn]; omega
          · rw [List.length_append, List.length_map, List.length_range, hbz, Nat.succ_mul]
      · subst e
        refine nx_asgP (evp_var rfl) fun H4 s4 => nx _ H4 ((s2.trans s3).trans s4) ⟨g, _, _, _, _, rfl, bls, h1.s s4, h2, ?_⟩
        rw [h3, Nat.pow_succ]
        exact Nat.mul_le_mul hz hV3
    · subst e
      refine ⟨_, rfl, k f als H' (s1.trans s') h1 h2 ?_⟩
      have : (3 : Nat) ^ N ≤ 81 := by
        have : N = 0 ∨ N = 1 ∨ N = 2 ∨ N = 3 ∨ N = 4 := by omega
        rcases this with rfl | rfl | rfl | rfl | rfl <;> decide
      omega
end
end K60
namespace K60
open PySem L2

theorem Sb.kpl {s : Addr} {H H' : Hp} {xs : List V} (h : Sb s H H') (hs : H s = some (.lst xs)) : KpT H H' := by
  intro a o ys e
  refine h a _ (fun z => ?_) e
  rw [z, hs] at e
  cases e
theorem tP_app (r : List (List Int × List Int)) (p : List Int × List Int) : PyData.tuple (r.map tP ++ [.tuple [tI p.1, tI p.2]]) = tR (r ++ [p]) := by
  show _ = PyData.tuple _
  rw [List.map_append]; rfl
section
variable {P : Program} {w : World} {K : PySem.W.Frag} {mg : Str → Option Value} {base : Heap}
abbrev N__law_allocations : List Str := ["_law_variants", "_law_buckets", "_law_found", "_law_place", "_law_longer", "_law_row", "_law_share"]
theorem sc__law_allocations : FnScope N__law_allocations ["_law_variants", "_law_buckets"] (defScope (top 46)) := ⟨rfl, rfl, rfl, by decide +kernel, rfl, by decide +kernel, by decide +kernel⟩
theorem ok__law_allocations {f : Addr} {fd : FuncData} (F : Fun K "_law_allocations" "_law_allocations" (top 46) f fd) (T : Txt mg)  : FnOk P w K mg base CX0 1 f fd ["_law_variants", "_law_buckets"] spAllocs := by
  have nd := sc__law_allocations.nd
  refine F.ok sc__law_allocations (fun vs H Q E h => ?_) fun cdv A outer s H vs Q E hr h => ?_
  · obtain ⟨V, N, rfl, _⟩ := h; rfl
  · refine ⟨_, (pss_cons (ps_set (i := 2) nd rfl (Or.inl rfl) (pe_lst (pa_cons (pe_tupF pa_nil) pa_nil))) (pss_cons (ps_for PassesOwn.never rfl (pi_range1 (by rfl) T.range (pa_cons (pe_op op_sub (pv 0) pe_int) pa_nil)) (pg_name (i := 3) nd rfl (Or.inl rfl)) (pss_cons (ps_set (i := 4) nd rfl (Or.inl rfl) (pe_lst pa_nil)) (pss_cons (ps_for PassesOwn.never rfl (pik_list (K := K) rfl (pv 2)) (pg_name (i := 5) nd rfl (Or.inl rfl)) (pss_one (ps_for PassesOwn.never rfl (pi_range1 (by rfl) T.range (pa_cons (pe_op op_add (pe_op op_sub (pv 1) (pe_callB (cr_sumT rfl) (by rfl) T.sum PyProof.Rows.boot_sum (pa_cons (pv 5) pa_nil))) pe_int) pa_nil)) (pg_name (i := 6) nd rfl (Or.inl rfl)) (pss_one (ps_expr (pe_bm PySem.F.plainAttrs_list PySem.F.slot_list_append PySem.F.type_list_append mt_append (pv 4) (pa_cons (pe_op op_catF (pv 5) (pe_tupF (pa_cons (pv 6) pa_nil))) pa_nil))))))) (pss_one (ps_set (i := 2) nd rfl (Or.inl rfl) (pv 4)))))) (pss_one (ps_ret (pe_lc (own := [("_law_row", 5)]) (g := (gName 5)) (tt := tYes) rfl nd (pik_list (K := K) rfl (pv 2)) (blkOk_by (N := N__law_allocations) (sc := defScope (top 46)) (by decide +kernel)) (fun _ _ _ _ _ => (pg_name (i := 5) nd rfl (Or.inl rfl))) (fun _ _ _ _ _ => pts_nil) (fun _ _ _ _ _ => (pe_op op_catF (pv 5) (pe_tupF (pa_cons (pe_op op_sub (pv 1) (pe_callB (cr_sumT rfl) (by rfl) T.sum PyProof.Rows.boot_sum (pa_cons (pv 5) pa_nil))) pa_nil))))))))), ?_⟩
    obtain ⟨V, N, rfl, hV, hV3, hN, k⟩ := h
    refine nx_setL (ds := [tI []]) (evl_lst (eva_cons (ev_tup eva_nil (Nat.zero_le _)) eva_nil) (by show 1 ≤ sizeLine; decide)) fun p H1 s1 _ hp => ?_
    refine nx_forS (n := V - 1) (fun i σ' H' => ∃ f x y z w, σ' = [some (.int (V : Nat)), some (.int (N : Nat)), some (.ref f), x, y, z, w] ∧ ∃ als : List (List Int), Lv H' f (als.map tI) ∧ (∀ a ∈ als, RowOk N i a) ∧ als.length ≤ 5 ^ i ∧ 1 ≤ als.length) (fun i σ H H' s ⟨f, x, y, z, w, e, als, h, r⟩ => ⟨f, x, y, z, w, e, als, h.s s, r⟩) (evi_rng (eva_cons (ev_ii (g := fun i j => i - j) (ev_var rfl (.int _)) ev_int) eva_nil) (by omega) (by omega)) ⟨p, _, _, _, _, rfl, [[]], hp, fun a ha => by rw [List.mem_singleton.mp ha]; exact ⟨rfl, (fun n hn => by cases hn), by show (0 : Int) ≤ N; omega⟩, by decide, by decide⟩ ?_ fun σ' H' s' ⟨f, x, y, z, w, e, als, h1, h2, h3, h4⟩ => ?_
    · rintro i x σ' H' hi s' rfl ⟨f, x, y, z, w, rfl, als, hf, hok, hz, h1⟩ D nx rt
      have h5 : (5 : Nat) ^ i ≤ 5 := by
        have : i = 0 ∨ i = 1 := by omega
        rcases this with rfl | rfl <;> decide
      refine nx_setL (ds := []) (evl_lst eva_nil (Nat.zero_le _)) fun l H2 s2 hln hl => ?_
      obtain ⟨l0, hl0, hl1⟩ := hl
      cases hl1
      obtain ⟨ys, hy1, hy2⟩ := hf.s s2
      have hfl : f ≠ l := by
        obtain ⟨ys', hy', _⟩ := hf
        exact ne_of_none hy' hln
      have hlen : ys.length = als.length := by rw [hy2.len, List.length_map]
      refine ⟨_, rfl, f, rfl, ⟨ys, SqL.of hy1⟩, for_it (walk_list (xs := ys)) (fun j σ' H' => ∃ z w, σ' = [some (.int (V : Nat)), some (.int (N : Nat)), some (.ref f), some (.int (i : Nat)), some (.ref l), z, w] ∧ Sb l H2 H' ∧ ∃ bls : List (List Int), Lv H' l (bls.map tI) ∧ (∀ a ∈ bls, RowOk N (i + 1) a) ∧ bls.length ≤ j * 5 ∧ (1 ≤ j → 1 ≤ bls.length)) ⟨_, _, rfl, Sb.refl _ _, [], ⟨[], hl0, .nil⟩, (fun a ha => by cases ha), by decide, fun h => by omega⟩ (fun j σ' H' _ ⟨_, _, _, sb, _⟩ => SqL.of (sb _ _ hfl hy1)) ?_ ?_⟩
      · rintro j x σ' H3 H4 hj ⟨z, w, rfl, sb, bls, hb, hbok, hbz, hb1⟩ ⟨rfl, hx⟩
        obtain ⟨d, e1, dx⟩ := hy2.of hx
        rw [List.getElem?_map] at e1
        cases e2 : als[j]? with
        | none => rw [e2] at e1; cases e1
        | some row =>
          rw [e2] at e1
          cases e1
          have hrow := hok row (List.mem_of_getElem? e2)
          have hnn := sum_nn hrow.2.1
          have hsum := hrow.2.2
          have dx4 : Dt H4 x (tI row) := dx.k (sb.kpl hl0)
          have hm : ((N : Int) - row.sum + 1).toNat ≤ 5 ∧ 1 ≤ ((N : Int) - row.sum + 1).toNat := by omega
          show tFor _ _ _ _ _ _
          refine nx_rng (m := (N : Int) - row.sum + 1) (n := ((N : Int) - row.sum + 1).toNat) (eva_cons (ev_ii (g := fun i j => i + j) (ev_ii (g := fun i j => i - j) (ev_var rfl (.int _)) (ev_sumT (ev_var rfl dx4))) ev_int) eva_nil) rfl (by omega) (fun k σ' H' => ∃ w, σ' = [some (.int (V : Nat)), some (.int (N : Nat)), some (.ref f), some (.int (i : Nat)), some (.ref l), some x, w] ∧ Sb l H2 H' ∧ ∃ bls : List (List Int), Lv H' l (bls.map tI) ∧ (∀ a ∈ bls, RowOk N (i + 1) a) ∧ bls.length ≤ j * 5 + k ∧ (1 ≤ k → 1 ≤ bls.length)) (fun H5 s5 => ⟨_, rfl, sb.trans (Sb.of s5), bls, hb.s s5, hbok, hbz, fun h => by omega⟩) ?_ ?_
          · rintro kk σ' H7 hk ⟨w, rfl, sb6, cls, ⟨zs, hz1, hz2⟩, hcok, hcz, hc1⟩
            show tDrop _ _ _ _
            have hzl : zs.length = cls.length := by rw [hz2.len, List.length_map]
            have dx7 : Dt H7 x (tI row) := dx.k (sb6.kpl hl0)
            refine nx_app (e := tI (row ++ [(kk : Int)])) rfl hz1 ((ev_cat (ev_var rfl dx7) (ev_tup (eva_cons (ev_var rfl (.int _)) eva_nil) (by show 1 ≤ sizeLine; decide)) (by rw [List.length_map, sizeLine_eq, hrow.1]; show i + 1 ≤ _; omega)).eq (tI_app row _)) (by omega) fun v H8 s8 dv => ⟨_, rfl, fun b o hb hH => ?_, cls ++ [row ++ [(kk : Int)]], ⟨zs ++ [v], upd_same, ?_⟩, fun a ha => ?_, ?_, fun _ => by rw [List.length_append, List.length_singleton]; omega⟩
            · rw [upd_ne hb]
              exact s8 _ _ (sb6 _ _ hb hH)
            · have kk' : KpT H8 (upd H8 l (.lst (zs ++ [v]))) := KpT.lst (s8 _ _ hz1)
              rw [List.map_append]
              exact ((hz2.s s8).k kk').app (.cons (dv.k kk') .nil)
            · rcases List.mem_append.mp ha with ha | ha
              · exact hcok a ha
              · rw [List.mem_singleton.mp ha]
                exact alc_row hrow (by omega)
            · rw [List.length_append, List.length_singleton]; omega
          · rintro σ' H6 ⟨w, rfl, sb6, cls, hc, hcok, hcz, hc1⟩
            exact ⟨_, _, rfl, sb6, cls, hc, hcok, by omega, fun _ => hc1 hm.2⟩
      · rintro σ' H3 ⟨z, w, rfl, sb, bls, hb, hbok, hbz, hb1⟩
        change tAsg (tVar 4) (gName 2) D _ _
        refine nx_asgP (evp_var rfl) fun H4 s4 => nx _ H4 (fun b o e => s4 _ _ (sb _ _ (ne_of_none e hln) (s2 _ _ e))) ⟨l, _, _, _, _, rfl, bls, hb.s s4, hbok, ?_, by rw [hlen] at hb1; exact hb1 h1⟩
        rw [Nat.pow_succ]
        rw [hlen] at hbz
        exact Nat.le_trans hbz (Nat.mul_le_mul_right 5 hz)
    · subst e
      have h25 : (5 : Nat) ^ (V - 1) ≤ 25 := by
        have : V = 1 ∨ V = 2 ∨ V = 3 := by omega
        rcases this with rfl | rfl | rfl <;> decide
      refine EvL.go (evl_mapLg (xs := als) tI (fun row => tI (row ++ [(N : Int) - row.sum])) (evp_var rfl) h1 (by omega) (fun _ => rfl) fun row w' H3 hr s3 hw => ?_) fun q zs H3 s3 _ hq hd => k q (als.map fun row => row ++ [(N : Int) - row.sum]) H3 ((s1.trans s').trans s3) ⟨zs, hq, by rw [List.map_map]; exact hd⟩ (fun a ha => ?_) (by rw [List.length_map]; exact h4) (by rw [List.length_map]; omega)
      · have hrow := h2 row hr
        exact (ev_cat (ev_var rfl hw) (ev_tup (eva_cons (ev_ii (g := fun i j => i - j) (ev_var rfl (.int _)) (ev_sumT (ev_var rfl hw))) eva_nil) (by show 1 ≤ sizeLine; decide)) (by rw [List.length_map, sizeLine_eq, hrow.1]; show V - 1 + 1 ≤ _; omega)).eq (tI_app row _)
      · obtain ⟨row, hr, rfl⟩ := List.mem_map.mp ha
        have hrow := h2 row hr
        have hsum := hrow.2.2
        refine ⟨by rw [List.length_append, hrow.1, List.length_singleton]; omega, fun n hn => ?_, by rw [sum_app]; omega⟩
        rcases List.mem_append.mp hn with hn | hn
        · exact hrow.2.1 n hn
        · rw [List.mem_singleton.mp hn]; omega
abbrev N__law_continuing : List Str := ["_law_rule_here", "_law_allocation", "_law_variants", "_law_buckets", "_law_found", "_law_assignment"]
theorem sc__law_continuing : FnScope N__law_continuing ["_law_rule_here", "_law_allocation", "_law_variants", "_law_buckets"] (defScope (top 58)) := ⟨rfl, rfl, rfl, by decide +kernel, rfl, by decide +kernel, by decide +kernel⟩
theorem ok__law_continuing {f : Addr} {fd : FuncData} (F : Fun K "_law_continuing" "_law_continuing" (top 58) f fd) (T : Txt mg) (G__law_assignments : Has P w K mg base 1 "_law_assignments" ["_law_variants", "_law_buckets"] spAsgs) (G__law_shares : Has P w K mg base 1 "_law_shares" ["_law_assignment", "_law_variants"] (spD fCnt)) (G__law_first_leave : Has P w K mg base 2 "_law_first_leave" ["_law_rule_here", "_law_buckets"] (spR gLeave rLeave)) : FnOk P w K mg base CX0 3 f fd ["_law_rule_here", "_law_allocation", "_law_variants", "_law_buckets"] spCont := by
  have nd := sc__law_continuing.nd
  refine F.ok sc__law_continuing (fun vs H Q E h => ?_) fun cdv A outer s H vs Q E hr h => ?_
  · (obtain ⟨r, a, V, N, hd, _⟩ := h; rw [hd.len]; rfl)
  · refine ⟨_, (pss_cons (ps_set (i := 4) nd rfl (Or.inl rfl) (pe_lst pa_nil)) (pss_cons (ps_for PassesOwn.never rfl (pik_list (K := K) rfl (pe_has G__law_assignments hr (by decide) (pa_cons (pv 2) (pa_cons (pv 3) pa_nil)))) (pg_name (i := 5) nd rfl (Or.inl rfl)) (pss_one (ps_if (pt_cmpR (opk_eqD (K := K) rfl hr.units) (pe_has G__law_shares hr (by decide) (pa_cons (pv 5) (pa_cons (pv 2) pa_nil))) (pv 1) (nomark _)) (pss_one (ps_if (pt_cmp (pc_isN (pe_has G__law_first_leave hr (by decide) (pa_cons (pe_op op_catF (pv 0) (pe_tupF (pa_cons (pe_tupF (pa_cons (pv 1) (pa_cons (pv 5) pa_nil))) pa_nil))) (pa_cons (pv 3) pa_nil))))) (pss_one (ps_expr (pe_bm PySem.F.plainAttrs_list PySem.F.slot_list_append PySem.F.type_list_append mt_append (pv 4) (pa_cons (pv 5) pa_nil)))) pss_nil)) pss_nil))) (pss_one (ps_ret (pv 4))))), ?_⟩
    obtain ⟨r, a, V, N, hd, ⟨hp, _, hz⟩, hr5, ha, hV, hV3, hN, hno, k⟩ := h
    obtain ⟨v0, v1, v2, v3, rfl, d0, d1, d2, d3⟩ := hd.four
    obtain rfl := d2.i
    obtain rfl := d3.i
    refine nx_setL (ds := []) (evl_lst eva_nil (Nat.zero_le _)) fun q H1 s1 hqn hq => ?_
    obtain ⟨q0, hq0, hq1⟩ := hq
    cases hq1
    refine ⟨_, rfl, _, rfl, V, N, rfl, hV, hV3, hN, fun l als H2 s2 hl hok hlz => ?_⟩
    obtain ⟨ys, hy1, hy2⟩ := hl
    have hlen : ys.length = als.length := by rw [hy2.len, List.length_map]
    refine ⟨l, rfl, ⟨ys, SqL.of hy1⟩, for_it (walk_list (xs := ys)) (fun j σ' H' => ∃ w, σ' = [some v0, some v1, some (.int (V : Nat)), some (.int (N : Nat)), some (.ref q), w] ∧ Same H2 H') ⟨_, rfl, Same.refl _⟩ (fun j σ' H' _ ⟨_, _, s⟩ => SqL.of (s _ _ hy1)) ?_ ?_⟩
    · rintro j x σ' H3 H4 hj ⟨w, rfl, s4⟩ ⟨rfl, hx⟩
      have s04 := (s1.trans s2).trans s4
      obtain ⟨d, e1, dx⟩ := (hy2.s s4).of hx
      rw [List.getElem?_map] at e1
      cases e2 : als[j]? with
      | none => rw [e2] at e1; cases e1
      | some g =>
        rw [e2] at e1
        cases e1
        have hg := hok g (List.mem_of_getElem? e2)
        show tIfS _ _ _ _ _ _
        refine nx_if (b := decide (counts V g = a)) ((evt_t (ev_eqD (ev_call (eva_cons (ev_var rfl dx) (eva_cons (ev_var rfl (.int _)) eva_nil)) ⟨g, V, rfl, by omega, rfl⟩) (ev_var rfl (d1.s s04)) (tI_shaped _) (tI_shaped _))).eq (eqv_tI _ _)) (fun e H5 s5 => ?_) fun e H5 s5 => ⟨_, rfl, s4.trans s5⟩
        have hc := of_decide_eq_true e
        have hVP : ∀ p ∈ r ++ [(a, g)], VP V N p := fun p hm => by
          rcases List.mem_append.mp hm with hm | hm
          · exact hp p hm
          · rw [List.mem_singleton.mp hm]; exact ⟨ha, hg, hc⟩
        show tIfS _ _ _ _ _ _
        refine nx_isNR (eva_cons ((ev_cat (ev_var rfl (d0.s (s04.trans s5))) (ev_tup (eva_cons (ev_tup (eva_cons (ev_var rfl (d1.s (s04.trans s5))) (eva_cons (ev_var rfl (dx.s s5)) eva_nil)) (by show 2 ≤ sizeLine; decide)) eva_nil) (by show 1 ≤ sizeLine; decide)) (by rw [List.length_map, sizeLine_eq]; show r.length + 1 ≤ _; omega)).eq (tP_app r (a, g))) (eva_cons (ev_var rfl (.int _)) eva_nil)) ⟨r ++ [(a, g)], V, N, rfl, hVP, by rw [List.length_append, List.length_singleton]; omega, by omega⟩ (fun d hrr => ?_) fun H6 s6 => ⟨_, rfl, (s4.trans s5).trans s6⟩
        rcases hrr with ⟨r', N', e3, rfl, hall⟩ | ⟨i, j, b, rfl⟩
        · exfalso
          injection e3 with e3 e4
          injection e4 with e4 _
          injection e4 with e4
          injection e3 with e3
          have e3 := tR_inj e3
          have e4 : N = N' := by omega
          subst e3 e4
          obtain ⟨p, q', b, h1, h2, h3, h4⟩ := hno g hg hc
          rw [hall p q' b h1 h2 h3] at h4
          cases h4
        · rfl
    · rintro σ' H3 ⟨w, rfl, s3⟩
      exact ⟨_, rfl, k q H3 ((s1.trans s2).trans s3) (s3 _ _ (s2 _ _ hq0))⟩
end
end K60
/-! Lists of ints that are written; counts. -/
namespace K60
open PySem L2
theorem ixN_nat {n d : Nat} (h : d < n) : ixN n (d : Int) = some d := by
  unfold ixN
  rw [if_pos (by omega), if_pos (by omega)]
  simp
theorem map_set_int (ns : List Int) (i : Nat) (v : Int) : (ns.map V.int).set i (.int v) = (ns.set i v).map V.int := by
  rw [List.map_set]
theorem map_erase_int : ∀ (ns : List Int) (i : Nat), (ns.map V.int).eraseIdx i = (ns.eraseIdx i).map V.int
  | [], i => rfl
  | n :: ns, 0 => rfl
  | n :: ns, i + 1 => by
    rw [List.map_cons, List.eraseIdx_cons_succ, List.eraseIdx_cons_succ, List.map_cons, map_erase_int ns i]
theorem getD_of {ns : List Int} {i : Nat} (h : i < ns.length) : ns[i] = ns.getD i 0 := by simp [h]
theorem sum_set : ∀ {ns : List Int} {i : Nat} {v : Int}, i < ns.length → (ns.set i v).sum = ns.sum - ns.getD i 0 + v
  | [], i, v, h => by simp at h
  | n :: ns, 0, v, _ => by
    rw [List.set_cons_zero, List.sum_cons, List.sum_cons]
    show _ = n + ns.sum - n + v
    omega
  | n :: ns, i + 1, v, h => by
    rw [List.set_cons_succ, List.sum_cons, List.sum_cons, sum_set (by simpa using h)]
    show _ = n + ns.sum - ns.getD i 0 + v
    omega
theorem getD_set {ns : List Int} {i j : Nat} {v : Int} (h : i < ns.length) : (ns.set i v).getD j 0 = if i = j then v else ns.getD j 0 := by
  rw [List.getD_eq_getElem?_getD, List.getElem?_set, List.getD_eq_getElem?_getD]
  by_cases e : i = j
  · subst e
    rw [if_pos rfl, if_pos rfl, if_pos h]; rfl
  · rw [if_neg e, if_neg e]
theorem exists_pos : ∀ {ns : List Int}, (∀ n ∈ ns, 0 ≤ n) → 0 < ns.sum → ∃ i : Nat, i < ns.length ∧ 0 < ns.getD i 0
  | [], _, h => by simp at h
  | n :: ns, hn, h => by
    by_cases hp : 0 < n
    · exact ⟨0, by simp, hp⟩
    · rw [List.sum_cons] at h
      have := hn n List.mem_cons_self
      obtain ⟨i, h1, h2⟩ := exists_pos (ns := ns) (fun x hx => hn x (List.mem_cons_of_mem _ hx)) (by omega)
      exact ⟨i + 1, by simpa using h1, h2⟩
theorem zero_of_sum : ∀ {ns : List Int}, (∀ n ∈ ns, 0 ≤ n) → ns.sum = 0 → ∀ n ∈ ns, n = 0
  | [], _, _ => fun n h => by cases h
  | n :: ns, hn, h => by
    rw [List.sum_cons] at h
    have h1 := hn n List.mem_cons_self
    have h2 := sum_nn (ns := ns) fun x hx => hn x (List.mem_cons_of_mem _ hx)
    intro x hx
    rcases List.mem_cons.mp hx with rfl | hx
    · omega
    · exact zero_of_sum (fun y hy => hn y (List.mem_cons_of_mem _ hy)) (by omega) x hx
theorem ext_getD {a b : List Int} (h : a.length = b.length) (e : ∀ i, i < a.length → a.getD i 0 = b.getD i 0) : a = b := by
  refine List.ext_getElem h fun i h1 h2 => ?_
  have := e i h1
  simpa [h1, h2] using this
theorem counts_getD {V : Nat} {ns : List Int} {i : Nat} (h : i < V) : (counts V ns).getD i 0 = ((ns.count (i : Int) : Nat) : Int) := by
  unfold counts
  simp [h]
theorem counts_len (V : Nat) (ns : List Int) : (counts V ns).length = V := by unfold counts; rw [List.length_map, List.length_range]
theorem counts_sum (V : Nat) : ∀ (ns : List Int), (∀ n ∈ ns, 0 ≤ n ∧ n < V) → (counts V ns).sum = ns.length
  | [], _ => by
    have : ∀ n ∈ counts V [], n = 0 := fun n hn => by
      obtain ⟨v, _, rfl⟩ := List.mem_map.mp hn
      rfl
    have h : counts V [] = List.replicate V 0 := by
      rw [List.eq_replicate_iff]
      exact ⟨counts_len _ _, this⟩
    rw [h]
    simp
  | n :: ns, h => by
    have ih := counts_sum V ns fun x hx => h x (List.mem_cons_of_mem _ hx)
    have hn := h n List.mem_cons_self
    have e : counts V (n :: ns) = (counts V ns).set n.toNat ((counts V ns).getD n.toNat 0 + 1) := by
      refine ext_getD (by rw [List.length_set, counts_len, counts_len]) fun i hi => ?_
      rw [counts_len] at hi
      rw [getD_set (by rw [counts_len]; omega), counts_getD hi, counts_getD (by omega), List.count_cons]
      by_cases e : n.toNat = i
      · subst e
        have : n = (n.toNat : Int) := by omega
        rw [if_pos rfl, ← this]
        simp
      · rw [if_neg e, if_neg (by rw [beq_iff_eq]; omega), counts_getD hi, Nat.add_zero]
    rw [e, sum_set (by rw [counts_len]; omega), ih, List.length_cons]
    omega
/-- all but the first agree: all agree -/
theorem counts_of_tail {V N : Nat} {ns a : List Int} (hV : 1 ≤ V) (hn : ns.length = N ∧ ∀ n ∈ ns, 0 ≤ n ∧ n < V) (ha : Alc V N a) (h : ∀ w : Nat, 1 ≤ w → w < V → ((ns.count (w : Int) : Nat) : Int) = a.getD w 0) : counts V ns = a := by
  have hs := counts_sum V ns hn.2
  rw [hn.1] at hs
  obtain ⟨a0, ta, rfl⟩ : ∃ x t, a = x :: t := by
    match a, ha.1 with
    | x :: t, _ => exact ⟨x, t, rfl⟩
    | [], h => simp at h; omega
  obtain ⟨c0, tc, hc⟩ : ∃ x t, counts V ns = x :: t := by
    match q : counts V ns, counts_len V ns with
    | x :: t, _ => exact ⟨x, t, rfl⟩
    | [], h => simp at h; omega
  have hl : tc.length = ta.length := by
    have h1 := counts_len V ns
    have h2 := ha.1
    rw [hc, List.length_cons] at h1
    rw [List.length_cons] at h2
    omega
  have ht : tc = ta := by
    refine ext_getD hl fun i hi => ?_
    have h1 := counts_len V ns
    rw [hc, List.length_cons] at h1
    have := h (i + 1) (by omega) (by omega)
    rw [← counts_getD (V := V) (by omega), hc] at this
    exact this
  rw [hc, ht]
  have hs2 := ha.2.2
  rw [hc, List.sum_cons, ht] at hs
  rw [List.sum_cons] at hs2
  congr 1
  omega
theorem count_setI {ns : List Int} {i : Nat} {v w : Int} (h : i < ns.length) (h0 : ns.getD i 0 ≠ w) : (ns.set i v).count w = ns.count w + if v == w then 1 else 0 := by
  rw [List.count_set h, getD_of h]
  have : (ns.getD i 0 == w) = false := by rw [beq_eq_false_iff_ne]; exact h0
  rw [this, if_neg Bool.false_ne_true, Nat.sub_zero]
def spShuf : Sp := fun vs H Q _ => ∃ (s sl : Addr) (n : Nat), vs = [.ref s, .int n] ∧ n ≤ 100 ∧ StS H s sl ∧ ∀ q (fs : List Int) H', H q = none → Sb s H H' → StS H' s sl → H' q = some (.lst (fs.map V.int)) → fs.length = n → (∀ x ∈ fs, 0 ≤ x ∧ x < n) → Q (.ref q) H'
def spByL : Sp := fun vs H Q _ => ∃ (L : Addr) (v : L2.V) (N V : Nat) (a : List Int) (ps : List Addr), vs = [.ref L, v, .int N] ∧ Dt H v (tI a) ∧ Alc V N a ∧ 1 ≤ V ∧ V ≤ 3 ∧ N ≤ 4 ∧ H L = some (.lst (ps.map L2.V.ref)) ∧ ps.length = V - 1 ∧ (∀ p ∈ ps, ∃ fs : List Int, H p = some (.lst (fs.map L2.V.int)) ∧ fs.length = N ∧ ∀ x ∈ fs, 0 ≤ x ∧ x < N) ∧
  ∀ d u H', (d = .none ∨ ∃ g, d = tI g ∧ Asg V N g ∧ counts V g = a) → Same H H' → Dt H' u d → Q u H'
def spDrawn : Sp := fun vs H Q _ => ∃ (s sl : Addr) (v : L2.V) (V N : Nat) (a : List Int), vs = [.ref s, v, .int N] ∧ StS H s sl ∧ Dt H v (tI a) ∧ Alc V N a ∧ V ≤ 3 ∧ N ≤ 4 ∧ ∀ g u H', Asg V N g → counts V g = a → Sb s H H' → StS H' s sl → Dt H' u (tI g) → Q u H'
end K60
namespace K60
open PySem L2
section
variable {K : PySem.W.Frag} {σ : L2.St} {H : Hp} {t te : TE}
theorem evl_rg {n : Nat} (h : Ev te σ H (.int n)) (hn : n ≤ 1000) : EvL (tLstRg (tRg1 te)) σ H (((List.range n).map fun (j : Nat) => (j : Int)).map PyData.int) := fun H1 Q s q =>
  h H1 _ s fun x H2 s2 hx => ⟨(n : Int), hx.i, ⟨by omega, by omega, by omega, by omega, by omega⟩, fun l hl => by
    have e1 : rgV 0 (n : Int) = ((List.range n).map fun (j : Nat) => (j : Int)).map V.int := by
      unfold rgV
      simp
    rw [e1]
    have sn := same_new (o := .lst (((List.range n).map fun (j : Nat) => (j : Int)).map V.int)) hl
    refine q l _ _ (s2.trans sn) ?_ upd_same (DtA.ofInts _ _)
    cases e : H1 l with
    | none => rfl
    | some u => rw [s2 _ _ e] at hl; cases hl⟩
theorem nx_rngS {ta : TA} {g : TG} {tb u : TS} {D : Ends} {m : Int} {n : Nat} (h : EvA ta σ H [.int m]) (hm : m.toNat = n) (hz : -100000 ≤ m ∧ m ≤ 100000) (Pv : Nat → L2.St → Hp → Prop) (h0 : ∀ H2, Same H H2 → Pv 0 σ H2)
    (hs : ∀ (i : Nat) σ H, i < n → Pv i σ H → ∀ D' : Ends, D'.nx = Pv (i + 1) → D'.rt = D.rt → g (.int (i : Nat)) σ H fun σ2 H2 => tb D' σ2 H2) (hd : ∀ σ H, Pv n σ H → u D σ H) : tSeq (tFor (iRng1 ta) g tb) u D σ H :=
  nx_rng (D := { D with nx := u D }) h hm hz Pv h0 (fun i σ H hi p => hs i σ H hi p _ rfl rfl) hd
theorem Lv.ints {p : Addr} {ns : List Int} (h : Lv H p (ns.map PyData.int)) : H p = some (.lst (ns.map V.int)) := by
  obtain ⟨ys, h1, h2⟩ := h
  rw [h2.ints] at h1
  exact h1
end
end K60
namespace K60
open PySem L2
theorem Sb.same {g : Addr} {H H1 H' : Hp} (sb : Sb g H1 H') (s : Same H H1) (hn : H g = none) : Same H H' := fun b o e => sb b o (ne_of_none e hn) (s b o e)
theorem getD_le_sum : ∀ {ns : List Int} {i : Nat}, (∀ n ∈ ns, 0 ≤ n) → ns.getD i 0 ≤ ns.sum
  | [], i, _ => by simp
  | n :: ns, 0, h => by
    have := sum_nn (ns := ns) fun x hx => h x (List.mem_cons_of_mem _ hx)
    rw [List.sum_cons]
    show n ≤ _
    omega
  | n :: ns, i + 1, h => by
    have h1 := getD_le_sum (ns := ns) (i := i) fun x hx => h x (List.mem_cons_of_mem _ hx)
    have h2 := h n List.mem_cons_self
    rw [List.sum_cons]
    show ns.getD i 0 ≤ _
    omega
theorem getD_nn {ns : List Int} (h : ∀ n ∈ ns, 0 ≤ n) (i : Nat) : 0 ≤ ns.getD i 0 := by
  by_cases hi : i < ns.length
  · exact h _ (getD_mem hi)
  · rw [List.getD_eq_getElem?_getD, List.getElem?_eq_none (by omega)]
    exact Int.le_refl _
section
variable {K : PySem.W.Frag} {σ : L2.St} {H : Hp} {t te th : TE}
theorem evl_rep {n : Nat} (h : Ev te σ H (.int n)) (hn : n ≤ 1000) : EvL (tOp rRep (tLst (tCons (tC (.int 0)) tNil)) te) σ H ((List.replicate n (0 : Int)).map PyData.int) := fun H1 Q s q =>
  ⟨by show 1 ≤ sizeLine; decide, fun l hl => by
    have sn := same_new (o := .lst [.int 0]) hl
    refine h _ _ (s.trans sn) fun y H2 s2 hy => ⟨l, (n : Int), [.int 0], rfl, hy.i, s2 _ _ upd_same, by omega, by omega, by rw [sizeLine_eq]; simp; omega, fun p hp => ?_⟩
    have e : (List.replicate (n : Int).toNat [V.int 0]).flatten = (List.replicate n (0 : Int)).map V.int := by
      rw [Int.toNat_natCast, List.flatten_replicate_singleton, List.map_replicate]
    rw [e]
    have sn2 := same_new (o := .lst ((List.replicate n (0 : Int)).map V.int)) hp
    exact q p _ _ ((sn.trans s2).trans sn2) ((sn.trans s2).free hp) upd_same (DtA.ofInts _ _)⟩
theorem evl_listOf {ds : List PyData} (h : Ev t σ H (.tuple ds)) : EvL (tCB (fun xs H Q => ∃ p ys, xs = [V.ref p] ∧ (SqL K H p ys ∨ SqT K H p ys) ∧ ∀ l, H l = none → Q (V.ref l) (upd H l (.lst ys))) (tCons t tNil)) σ H ds := fun H1 Q s q =>
  h H1 _ s fun x H2 s2 hx => by
    obtain ⟨a, xs, rfl, ha, hd⟩ := hx.t
    refine ⟨a, xs, rfl, .inr ha.q, fun l hl => ?_⟩
    have sn := same_new (o := .lst xs) hl
    exact q l xs _ (s2.trans sn) (s2.free hl) upd_same (hd.s sn)
theorem evl_slL {p : Addr} {ns : List Int} {k : Int} (h : EvP te σ H (.ref p)) (hp : H p = some (.lst (ns.map V.int))) (hk : Ev th σ H (.int k)) (h0 : 0 ≤ k) (h1 : k ≤ ns.length) : EvL (tSl (rSlL K) te tNoPart (tPart th)) σ H ((ns.take k.toNat).map PyData.int) := fun H1 Q s q =>
  h H1 _ s fun H2 s2 => hk H2 _ (s.trans s2) fun y H3 s3 hy => ⟨k, hy.i, p, _, rfl, SqL.of (s3 _ _ (s2 _ _ (s _ _ hp))), fun r hr => by
    have e : cutV (ns.map V.int) none (some k) = (ns.take k.toNat).map V.int := by
      unfold cutV
      have e1 : HT.sIx (ns.map V.int).length 0 none = 0 := HT.sIx_none _ _
      have e2 : HT.sIx (ns.map V.int).length (ns.map V.int).length (some k) = k.toNat := by
        have := HT.sIx_nat (ns.map V.int).length (ns.map V.int).length k.toNat
        rw [Int.toNat_of_nonneg h0] at this
        rw [this, List.length_map]
        omega
      rw [e1, e2, List.drop_zero, Nat.sub_zero, List.map_take]
    rw [e]
    have sn := same_new (o := .lst ((ns.take k.toNat).map V.int)) hr
    exact q r _ _ ((s2.trans s3).trans sn) ((s2.trans s3).free hr) upd_same (DtA.ofInts _ _)⟩
theorem nx_forL {tl : TE} {g : TG} {tb : TS} {D : Ends} {ds : List PyData} (h : EvL tl σ H ds) (k : ∀ r ys H2, Same H H2 → H r = none → H2 r = some (.lst ys) → DtA H2 ys ds → ∃ Pv : Nat → L2.St → Hp → Prop, Pv 0 σ H2 ∧ (∀ i σ' H', Pv i σ' H' → H' r = some (.lst ys)) ∧
    (∀ i x σ' H', ys[i]? = some x → Pv i σ' H' → ∀ D' : Ends, D'.nx = Pv (i + 1) → D'.rt = D.rt → g x σ' H' fun σ2 H2 => tb D' σ2 H2) ∧ ∀ σ' H', Pv ys.length σ' H' → D.nx σ' H') : tFor (iList K tl) g tb D σ H :=
  h.go fun r ys H2 s2 hr hr2 hd => by
    obtain ⟨Pv, h0, hl, hs, he⟩ := k r ys H2 s2 hr hr2 hd
    refine ⟨r, rfl, ⟨ys, SqL.of hr2⟩, for_it walk_list Pv h0 (fun i σ' H' _ p => SqL.of (hl i σ' H' p)) (fun i x σ' H' H'' hi p y => ?_) he⟩
    obtain ⟨rfl, hx⟩ := y
    exact hs i x σ' H'' hx p _ rfl rfl
theorem nx_storeV {i j : Nat} {s : Addr} {xs : List V} {n : Nat} {v k : Int} {D : Ends} (h : Ev t σ H (.int v)) (hi : σ[i]? = some (some (.ref s))) (hj : σ[j]? = some (some (.int k))) (hs : H s = some (.lst xs)) (hn : ixN xs.length k = some n) (kk : ∀ H2, Same H H2 → D.nx σ (upd H2 s (.lst (xs.set n (.int v))))) : tAsg t (gSub (tVar i) (tVar j) rSetL) D σ H :=
  h.go fun x H2 s2 hx => ⟨_, hi, _, hj, s, xs, k, n, rfl, rfl, s2 _ _ hs, hn, by rw [hx.i]; exact kk H2 s2⟩
theorem nx_storeVS {i j : Nat} {u : TS} {s : Addr} {xs : List V} {n : Nat} {v k : Int} {D : Ends} (h : Ev t σ H (.int v)) (hi : σ[i]? = some (some (.ref s))) (hj : σ[j]? = some (some (.int k))) (hs : H s = some (.lst xs)) (hn : ixN xs.length k = some n) (kk : ∀ H2, Same H H2 → u D σ (upd H2 s (.lst (xs.set n (.int v))))) : tSeq (tAsg t (gSub (tVar i) (tVar j) rSetL)) u D σ H :=
  nx_storeV (D := { D with nx := u D }) h hi hj hs hn kk
end
end K60
namespace K60
open PySem L2
section
variable {P : Program} {w : World} {K : PySem.W.Frag} {mg : Str → Option Value} {base : Heap}
abbrev N__law_shuffled : List Str := ["_law_stream_here", "_law_many", "_law_left", "_law_found", "_law_k"]
theorem sc__law_shuffled : FnScope N__law_shuffled ["_law_stream_here", "_law_many"] (defScope (top 51)) := ⟨rfl, rfl, rfl, by decide +kernel, rfl, by decide +kernel, by decide +kernel⟩
theorem ok__law_shuffled {f : Addr} {fd : FuncData} (F : Fun K "_law_shuffled" "_law_shuffled" (top 51) f fd) (T : Txt mg) (G__law_next : Has P w K mg base 1 "_law_next" ["_law_stream_here", "_law_many"] spNext) : FnOk P w K mg base CX0 2 f fd ["_law_stream_here", "_law_many"] spShuf := by
  have nd := sc__law_shuffled.nd
  refine F.ok sc__law_shuffled (fun vs H Q E h => ?_) fun cdv A outer s H vs Q E hr h => ?_
  · obtain ⟨s, sl, n, rfl, _⟩ := h; rfl
  · refine ⟨_, (pss_cons (ps_set (i := 2) nd rfl (Or.inl rfl) (pe_listRg rfl (by rfl) T.list (prg_1 (by rfl) T.range (pv 1)))) (pss_cons (ps_set (i := 3) nd rfl (Or.inl rfl) (pe_lst pa_nil)) (pss_cons (ps_for PassesOwn.never rfl (pi_range1 (by rfl) T.range (pa_cons (pv 1) pa_nil)) (pg_name (i := 4) nd rfl (Or.inl rfl)) (pss_one (ps_expr (pe_bm PySem.F.plainAttrs_list PySem.F.slot_list_append PySem.F.type_list_append mt_append (pv 3) (pa_cons (pe_bm PySem.F.plainAttrs_list PySem.F.slot_list_pop PySem.F.type_list_pop mt_popAt (pv 2) (pa_cons (pe_has G__law_next hr (by decide) (pa_cons (pv 0) (pa_cons (pe_callB (call_lenk (K := K) rfl) (by rfl) T.len PySem.boot_len (pa_cons (pv 2) pa_nil)) pa_nil))) pa_nil)) pa_nil))))) (pss_one (ps_ret (pv 3)))))), ?_⟩
    obtain ⟨s, sl, n, rfl, hn, hst, k⟩ := h
    refine nx_setL (evl_rg (ev_var rfl (.int _)) (by omega)) fun l H1 s1 hl hl1 => ?_
    refine nx_setL (ds := []) (evl_lst eva_nil (Nat.zero_le _)) fun f H2 s2 hf hf1 => ?_
    obtain ⟨hls, hlsl⟩ := hst.new hl
    obtain ⟨hfs, hfsl⟩ := (hst.s s1).new hf
    have hl1 := hl1.ints
    have hlf : l ≠ f := ne_of_none hl1 hf
    have hfn : H f = none := s1.free hf
    have hf2 := Lv.ints (ns := []) hf1
    refine nx_rngS (m := (n : Int)) (n := n) (eva_cons (ev_var rfl (.int _)) eva_nil) (by simp) (by omega) (fun i σ' H' => ∃ x, σ' = [some (.ref s), some (.int (n : Nat)), some (.ref l), some (.ref f), x] ∧ Sb s H H' ∧ StS H' s sl ∧ ∃ ms fs : List Int, H' l = some (.lst (ms.map L2.V.int)) ∧ ms.length = n - i ∧ (∀ x ∈ ms, 0 ≤ x ∧ x < n) ∧ H' f = some (.lst (fs.map L2.V.int)) ∧ fs.length = i ∧ ∀ x ∈ fs, 0 ≤ x ∧ x < n)
      (fun H3 s3 => ⟨_, rfl, Sb.of ((s1.trans s2).trans s3), ((hst.s s1).s s2).s s3, (List.range n).map fun (j : Nat) => (j : Int), [], s3 _ _ (s2 _ _ hl1), by simp, (fun x hx => by
        obtain ⟨j, hj, rfl⟩ := List.mem_map.mp hx
        have := List.mem_range.mp hj
        omega), s3 _ _ hf2, rfl, fun x hx => by cases hx⟩) ?_ ?_
    · rintro i σ' H3 hi ⟨x, rfl, sb, st, ms, fs, hm, hml, hmr, hff, hfl, hfr⟩ D hnx _
      show tDrop _ _ _ _
      refine ⟨_, rfl, .inl ⟨rfl, _, SqL.of hff⟩, ?_⟩
      refine ⟨_, rfl, .inl ⟨rfl, _, SqL.of hm⟩, ?_⟩
      refine nx_draw (m := ms.length) (arg2 rfl ((ev_lenP (evp_var rfl) hm).eq (by rw [List.length_map]))) st (by omega) (by omega) fun d H4 hd sb4 st4 => ?_
      have hm4 := sb4 _ _ hls hm
      have hf4 := sb4 _ _ hfs hff
      have hg : ms[d]? = some ms[d] := by simp [hd]
      refine ⟨l, _, _, d, .int ms[d], rfl, rfl, hm4, by omega, by omega, (ixN_seq (ixN_nat (by rw [List.length_map]; exact hd))).1, by rw [List.getElem?_map, hg]; rfl, ?_⟩
      have hf5 : (upd H4 l (.lst ((ms.map L2.V.int).eraseIdx d))) f = some (.lst (fs.map L2.V.int)) := by rw [upd_ne hlf.symm]; exact hf4
      refine ⟨f, _, _, rfl, rfl, hf5, by rw [List.length_map, sizeLine_eq]; omega, ?_⟩
      rw [hnx]
      refine ⟨_, rfl, fun b o hb e => ?_, ?_, ms.eraseIdx d, fs ++ [ms[d]], ?_, ?_, fun x hx => hmr x (List.mem_of_mem_eraseIdx hx), ?_, by rw [List.length_append, List.length_singleton, hfl], fun x hx => ?_⟩
      · rw [upd_ne (ne_of_none e hfn), upd_ne (ne_of_none e hl)]
        exact sb4 _ _ hb (sb _ _ hb e)
      · exact (st4.upd hls hlsl).upd hfs hfsl
      · rw [upd_ne hlf, upd_same, map_erase_int]
      · rw [List.length_eraseIdx, if_pos hd]; omega
      · rw [upd_same, List.map_append]; rfl
      · rcases List.mem_append.mp hx with hx | hx
        · exact hfr x hx
        · rw [List.mem_singleton.mp hx]
          exact hmr _ (List.getElem_mem hd)
    · rintro σ' H3 ⟨x, rfl, sb, st, ms, fs, hm, hml, hmr, hff, hfl, hfr⟩
      exact ⟨_, rfl, k f fs H3 hfn sb st hff hfl hfr⟩
end
end K60
namespace K60
open PySem L2
section
variable {P : Program} {w : World} {K : PySem.W.Frag} {mg : Str → Option Value} {base : Heap}
abbrev N__law_by_lists : List Str := ["_law_lists", "_law_allocation", "_law_buckets", "_law_assignment", "_law_v", "_law_bucket"]
theorem sc__law_by_lists : FnScope N__law_by_lists ["_law_lists", "_law_allocation", "_law_buckets"] (defScope (top 52)) := ⟨rfl, rfl, rfl, by decide +kernel, rfl, by decide +kernel, by decide +kernel⟩
theorem ok__law_by_lists {f : Addr} {fd : FuncData} (F : Fun K "_law_by_lists" "_law_by_lists" (top 52) f fd) (T : Txt mg)  : FnOk P w K mg base CX0 1 f fd ["_law_lists", "_law_allocation", "_law_buckets"] spByL := by
  have nd := sc__law_by_lists.nd
  refine F.ok sc__law_by_lists (fun vs H Q E h => ?_) fun cdv A outer s H vs Q E hr h => ?_
  · obtain ⟨L, v, N, V, a, ps, rfl, _⟩ := h; rfl
  · refine ⟨_, (pss_cons (ps_set (i := 3) nd rfl (Or.inl rfl) (pe_op op_rep (pe_lst (pa_cons pe_int pa_nil)) (pv 2))) (pss_cons (ps_for PassesOwn.never rfl (pi_range1 (by rfl) T.range (pa_cons (pe_callB (call_lenk (K := K) rfl) (by rfl) T.len PySem.boot_len (pa_cons (pv 0) pa_nil)) pa_nil)) (pg_name (i := 4) nd rfl (Or.inl rfl)) (pss_one (ps_for PassesOwn.never rfl (pik_list (K := K) rfl (pe_slice sl_list (pe_ix (ixk_list (K := K) rfl) (pv 0) (pv 4) (fun _ _ => rfl)) po_none (po_some (pe_ix (ixk_tup (K := K) rfl) (pv 1) (pe_op op_add (pv 4) pe_int) (fun _ _ => rfl))))) (pg_name (i := 5) nd rfl (Or.inl rfl)) (pss_cons (ps_if (pt_cmpR op_ne (pe_ix (ixk_list (K := K) rfl) (pv 3) (pv 5) (fun _ _ => rfl)) pe_int (nomark _)) (pss_one (ps_ret pe_non)) pss_nil) (pss_one (ps_asg (pe_op op_add (pv 4) pe_int) (pg_sub (pv 3) (pv 5) set_list))))))) (pss_one (ps_ret (pe_callTy (callk_tupF (K := K) rfl) (by rfl) T.tuple PyProof.Rows.boot_tuple (pa_cons (pv 3) pa_nil)))))), ?_⟩
    obtain ⟨L, v, N, V, a, ps, rfl, da, ha, hV, hV3, hN, hL, hps, hpp, k⟩ := h
    refine nx_setL (evl_rep (ev_var rfl (.int _)) (by omega)) fun g H1 s1 hg hg1 => ?_
    have hg1 := hg1.ints
    have hLg : L ≠ g := ne_of_none hL hg
    refine nx_rngS (m := (V : Int) - 1) (n := V - 1) (eva_cons ((ev_lenP (evp_var rfl) (s1 _ _ hL)).eq (by rw [List.length_map, hps]; congr 1; omega)) eva_nil) (by omega) (by omega) (fun j σ' H' => ∃ x y, σ' = [some (.ref L), some v, some (.int (N : Nat)), some (.ref g), x, y] ∧ Sb g H1 H' ∧ ∃ as : List Int, H' g = some (.lst (as.map L2.V.int)) ∧ as.length = N ∧ (∀ n ∈ as, 0 ≤ n ∧ n ≤ j) ∧ ∀ w : Nat, 1 ≤ w → w ≤ j → ((as.count (w : Int) : Nat) : Int) = a.getD w 0)
      (fun H2 s2 => ⟨_, _, rfl, Sb.of s2, _, s2 _ _ hg1, List.length_replicate, fun n hn => by rw [(List.mem_replicate.mp hn).2]; exact ⟨Int.le_refl _, by omega⟩, fun w h1 h2 => by omega⟩) ?_ ?_
    · rintro j σ' H2 hj ⟨x, y, rfl, sb, as, hgA, hal, har, hac⟩ D hnx hrt
      have sH := sb.same s1 hg
      obtain ⟨p, hpj, hpm⟩ : ∃ p, ps[j]? = some p ∧ p ∈ ps := ⟨ps[j], by simp [show j < ps.length by omega], List.getElem_mem _⟩
      obtain ⟨fs, hf, hfl, hfr⟩ := hpp p hpm
      have hm0 : 0 ≤ a.getD (j + 1) 0 := getD_nn ha.2.1 _
      have hm1 : a.getD (j + 1) 0 ≤ N := by
        have := getD_le_sum (i := j + 1) ha.2.1
        rw [ha.2.2] at this
        exact this
      have e2 : ∀ σ' : L2.St, σ'[4]? = some (some (.int (j : Nat))) → Ev (tOp (rI0 fun i j => .int (i + j)) (tVar 4) (tC (.int 1))) σ' H2 (.int ((j + 1 : Nat) : Int)) := fun σ' h => Ev.eq (d := .int ((j : Int) + 1)) (ev_ii (g := fun i j => i + j) (ev_var h (.int _)) ev_int) rfl
      have hsl : EvL (tSl (rSlL K) (tOp (rIxL K) (tVar 0) (tVar 4)) tNoPart (tPart (tOp (rIxT K) (tVar 1) (tOp (rI0 fun i j => .int (i + j)) (tVar 4) (tC (.int 1)))))) [some (.ref L), some v, some (.int (N : Nat)), some (.ref g), some (.int (j : Nat)), y] H2 ((fs.take (a.getD (j + 1) 0).toNat).map PyData.int) :=
        evl_slL (evp_ixLi (n := j) (evp_var rfl) (sH _ _ hL) (ev_var rfl (.int _)) rfl (by rw [List.getElem?_map, hpj]; rfl)) (sH _ _ hf) (ev_ixN (n := j + 1) (ev_var rfl (da.s sH)) (e2 [some (.ref L), some v, some (.int (N : Nat)), some (.ref g), some (.int (j : Nat)), y] rfl) (by rw [ha.1]; omega)) hm0 (by rw [hfl]; exact hm1)
      show tFor _ _ _ _ _ _
      refine nx_forL hsl fun r ys H3 s3 hr hr3 hd => ?_
      have hys := hd.ints
      have hgr : g ≠ r := ne_of_none hgA hr
      refine ⟨fun i σ' H' => ∃ y, σ' = [some (.ref L), some v, some (.int (N : Nat)), some (.ref g), some (.int (j : Nat)), y] ∧ Sb g H1 H' ∧ H' r = some (.lst ys) ∧ ∃ as : List Int, H' g = some (.lst (as.map L2.V.int)) ∧ as.length = N ∧ (∀ n ∈ as, 0 ≤ n ∧ n ≤ (j : Int) + 1) ∧ (∀ w : Nat, 1 ≤ w → w ≤ j → ((as.count (w : Int) : Nat) : Int) = a.getD w 0) ∧ as.count ((j + 1 : Nat) : Int) = i, ?_, ?_, ?_, ?_⟩
      · refine ⟨_, rfl, sb.trans (Sb.of s3), hr3, as, s3 _ _ hgA, hal, fun n hn => ?_, hac, ?_⟩
        · have := har n hn
          omega
        · rw [List.count_eq_zero]
          intro hm
          have := har _ hm
          omega
      · rintro i σ' H' ⟨y, rfl, sb, hr, _⟩
        exact hr
      · rintro i x σ' H4 hx ⟨y, rfl, sb4, hr4, as, hgA, hal, har, hac, hcc⟩ D' hnx' hrt'
        rw [hys, List.getElem?_map] at hx
        cases e2 : (fs.take (a.getD (j + 1) 0).toNat)[i]? with
        | none => rw [e2] at hx; cases hx
        | some b =>
          rw [e2] at hx
          cases hx
          have hb := hfr b (List.mem_of_mem_take (List.mem_of_getElem? e2))
          have hbn : b.toNat < as.length := by omega
          show tSeq _ _ _ _ _
          refine nx_sif (evt_t (ev_neI (ev_ixLi (n := b.toNat) (v := .int (as.getD b.toNat 0)) (d := .int (as.getD b.toNat 0)) (evp_var rfl) hgA (ev_var rfl (.int _)) (by omega) (by rw [List.getElem?_map, List.getElem?_eq_getElem hbn, getD_of hbn]; rfl) (.int _)) ev_int)) (fun e H5 s5 => ?_) fun e H5 s5 => ?_
          · refine nx_ret ev_non fun u H6 s6 hu => ?_
            show D'.rt u H6
            rw [hrt', hrt]
            exact k .none u H6 (.inl rfl) (((sb4.trans (Sb.of s5)).trans (Sb.of s6)).same s1 hg) hu
          · have h0 : as.getD b.toNat 0 = 0 := by simpa using e
            refine nx_storeV (n := b.toNat) (v := (j : Int) + 1) (ev_ii (g := fun i j => i + j) (ev_var rfl (.int _)) ev_int) rfl rfl (s5 _ _ hgA) (by
              have := ixN_nat (n := (as.map L2.V.int).length) (d := b.toNat) (by rw [List.length_map]; exact hbn)
              rw [Int.toNat_of_nonneg hb.1] at this
              exact this) fun H6 s6 => ?_
            rw [hnx', map_set_int]
            refine ⟨_, rfl, fun c o hc ho => ?_, ?_, _, upd_same, by rw [List.length_set]; exact hal, fun n hn => ?_, fun w h1 h2 => ?_, ?_⟩
            · rw [upd_ne hc]
              exact s6 _ _ (s5 _ _ (sb4 _ _ hc ho))
            · rw [upd_ne hgr.symm]
              exact s6 _ _ (s5 _ _ hr4)
            · rcases List.mem_or_eq_of_mem_set hn with hn | rfl
              · exact har n hn
              · omega
            · rw [count_setI hbn (by rw [h0]; omega), if_neg (by rw [beq_iff_eq]; omega), Nat.add_zero]
              exact hac w h1 h2
            · rw [count_setI hbn (by rw [h0]; omega), if_pos (by rw [beq_iff_eq]; omega), hcc]
      · rintro σ' H' ⟨y, rfl, sb4, hr4, as, hgA, hal, har, hac, hcc⟩
        rw [hnx]
        refine ⟨_, _, rfl, sb4, as, hgA, hal, fun n hn => by have := har n hn; omega, fun w h1 h2 => ?_⟩
        by_cases hw : w = j + 1
        · rw [hw, hcc, hys, List.length_map, List.length_take, hfl]
          omega
        · exact hac w h1 (by omega)
    · rintro σ' H' ⟨x, y, rfl, sb, as, hgA, hal, har, hac⟩
      refine Ev.go (ev_tupP (evp_var rfl) hgA (DtA.ofInts _ _)) fun u H2 s2 hu => k (tI as) u H2 (.inr ⟨as, rfl, ⟨hal, fun n hn => by have := har n hn; omega⟩, ?_⟩) ((sb.same s1 hg).trans s2) hu
      exact counts_of_tail hV ⟨hal, fun n hn => by have := har n hn; omega⟩ ha fun w h1 h2 => hac w h1 (by omega)
abbrev N__law_drawn_assignment : List Str := ["_law_stream_here", "_law_allocation", "_law_buckets", "_law_left", "_law_found", "_law_bucket", "_law_open_ones", "_law_variant"]
theorem sc__law_drawn_assignment : FnScope N__law_drawn_assignment ["_law_stream_here", "_law_allocation", "_law_buckets"] (defScope (top 53)) := ⟨rfl, rfl, rfl, by decide +kernel, rfl, by decide +kernel, by decide +kernel⟩
theorem ok__law_drawn_assignment {f : Addr} {fd : FuncData} (F : Fun K "_law_drawn_assignment" "_law_drawn_assignment" (top 53) f fd) (T : Txt mg) (G__law_next : Has P w K mg base 1 "_law_next" ["_law_stream_here", "_law_many"] spNext) : FnOk P w K mg base CX0 2 f fd ["_law_stream_here", "_law_allocation", "_law_buckets"] spDrawn := by
  have nd := sc__law_drawn_assignment.nd
  refine F.ok sc__law_drawn_assignment (fun vs H Q E h => ?_) fun cdv A outer s H vs Q E hr h => ?_
  · obtain ⟨s, sl, v, V, N, a, rfl, _⟩ := h; rfl
  · refine ⟨_, (pss_cons (ps_set (i := 3) nd rfl (Or.inr rfl) (pe_callTy call_list_of (by rfl) T.list PyProof.Rows.boot_list (pa_cons (pv 1) pa_nil))) (pss_cons (ps_set (i := 4) nd rfl (Or.inl rfl) (pe_lst pa_nil)) (pss_cons (ps_for PassesOwn.never rfl (pi_range1 (by rfl) T.range (pa_cons (pv 2) pa_nil)) (pg_name (i := 5) nd rfl (Or.inl rfl)) (pss_cons (ps_setLc (i := 6) (own := [("_law_variant", 7)]) (g := (gName 7)) rfl nd rfl rfl (sw_true rfl rfl rfl (by decide +kernel)) (pi_range1 (by rfl) T.range (pa_cons (pe_callB (call_lenk (K := K) rfl) (by rfl) T.len PySem.boot_len (pa_cons (pv 3) pa_nil)) pa_nil)) (blkOk_by (N := N__law_drawn_assignment) (sc := defScope (top 53)) (by decide +kernel)) (fun _ _ _ _ _ => (pg_name (i := 7) nd rfl (Or.inl rfl))) (fun _ _ _ _ _ => (pts_one (pt_cmpR op_gt (pe_ix (ixk_list (K := K) rfl) (pv 3) (pv 7) (fun _ _ => rfl)) pe_int (nomark _)))) (fun _ _ _ _ _ => (pv 7))) (pss_cons (ps_set (i := 7) nd rfl (Or.inl rfl) (pe_ix (ixk_list (K := K) rfl) (pv 6) (pe_has G__law_next hr (by decide) (pa_cons (pv 0) (pa_cons (pe_callB (call_lenk (K := K) rfl) (by rfl) T.len PySem.boot_len (pa_cons (pv 6) pa_nil)) pa_nil))) (fun _ _ => rfl))) (pss_cons (ps_asg (pe_op op_sub (pe_ix (ixk_list (K := K) rfl) (pv 3) (pv 7) (fun _ _ => rfl)) pe_int) (pg_sub (pv 3) (pv 7) set_list)) (pss_one (ps_expr (pe_bm PySem.F.plainAttrs_list PySem.F.slot_list_append PySem.F.type_list_append mt_append (pv 4) (pa_cons (pv 7) pa_nil)))))))) (pss_one (ps_ret (pe_callTy (callk_tupF (K := K) rfl) (by rfl) T.tuple PyProof.Rows.boot_tuple (pa_cons (pv 4) pa_nil))))))), ?_⟩
    obtain ⟨s, sl, v, V, N, a, rfl, hst, da, ha, hV3, hN, k⟩ := h
    refine nx_setL (evl_listOf (ev_var rfl da)) fun l H1 s1 hl hl1 => ?_
    have hl1 := hl1.ints
    obtain ⟨hls, hlsl⟩ := hst.new hl
    refine nx_setL (ds := []) (evl_lst eva_nil (Nat.zero_le _)) fun f H2 s2 hf hf1 => ?_
    have hf1 := Lv.ints (ns := []) hf1
    obtain ⟨hfs, hfsl⟩ := (hst.s s1).new hf
    have hlf : l ≠ f := ne_of_none hl1 hf
    have hfn : H f = none := s1.free hf
    refine nx_rngS (m := (N : Int)) (n := N) (eva_cons (ev_var rfl (.int _)) eva_nil) (by simp) (by omega) (fun i σ' H' => ∃ x y z, σ' = [some (.ref s), some v, some (.int (N : Nat)), some (.ref l), some (.ref f), x, y, z] ∧ Sb s H H' ∧ StS H' s sl ∧ ∃ ls fs : List Int, H' l = some (.lst (ls.map L2.V.int)) ∧ ls.length = V ∧ (∀ x ∈ ls, 0 ≤ x) ∧ ls.sum = N - i ∧ H' f = some (.lst (fs.map L2.V.int)) ∧ fs.length = i ∧ (∀ x ∈ fs, 0 ≤ x ∧ x < V) ∧ ∀ w : Nat, w < V → ls.getD w 0 + ((fs.count (w : Int) : Nat) : Int) = a.getD w 0)
      (fun H3 s3 => ⟨_, _, _, rfl, Sb.of ((s1.trans s2).trans s3), ((hst.s s1).s s2).s s3, a, [], s3 _ _ (s2 _ _ hl1), ha.1, ha.2.1, by rw [ha.2.2]; omega, s3 _ _ hf1, rfl, (fun x hx => by cases hx), fun w hw => by simp⟩) ?_ ?_
    · rintro i σ' H3 hi ⟨x, y, z, rfl, sb, st, ls, fs, hlL, hll, hln, hsum, hfF, hfl, hfr, hcnt⟩ D hnx hrt
      show tSeq _ _ _ _ _
      refine nx_setL (evl_filN (n := V) (fun w => decide (0 < ls.getD w 0)) (eva_cons ((ev_lenP (evp_var rfl) hlL).eq (by rw [List.length_map, hll])) eva_nil) (by simp) (by omega) (fun _ => rfl) (fun w H' hw s' => evt_t (ev_ib (g := fun i j => decide (j < i)) (ev_ixLi (n := w) (v := .int (ls.getD w 0)) (d := .int (ls.getD w 0)) (evp_var rfl) (s' _ _ hlL) (ev_var rfl (.int _)) rfl (by rw [List.getElem?_map, List.getElem?_eq_getElem (by rw [hll]; exact hw), getD_of (by rw [hll]; exact hw)]; rfl) (.int _)) ev_int)) fun w H' hw s' => ev_var rfl (.int _)) fun o H4 s4 ho ho4 => ?_
      have ho4 := ho4.ints
      generalize hos : (((List.range V).filter fun w => decide (0 < ls.getD w 0)).map fun (i : Nat) => (i : Int)) = os at ho4
      have hosp : ∀ x ∈ os, ∃ w : Nat, x = w ∧ w < V ∧ 0 < ls.getD w 0 := fun x hx => by
        rw [← hos] at hx
        obtain ⟨w, hw, rfl⟩ := List.mem_map.mp hx
        obtain ⟨h1, h2⟩ := List.mem_filter.mp hw
        exact ⟨w, rfl, List.mem_range.mp h1, of_decide_eq_true h2⟩
      have hosl : 1 ≤ os.length ∧ os.length ≤ V := by
        rw [← hos, List.length_map]
        constructor
        · obtain ⟨w, h1, h2⟩ := exists_pos hln (by rw [hsum]; omega)
          exact List.length_pos_of_mem (List.mem_filter.mpr ⟨List.mem_range.mpr (by rw [← hll]; exact h1), decide_eq_true h2⟩)
        · have := List.length_filter_le (fun w => decide (0 < ls.getD w 0)) (List.range V)
          rw [List.length_range] at this
          exact this
      have hos' : o ≠ s := (st.new ho).1
      refine ⟨_, rfl, ?_⟩
      refine nx_draw (m := os.length) (arg2 rfl ((ev_lenP (evp_var rfl) ho4).eq (by rw [List.length_map]))) (st.s s4) hosl.1 (by omega) fun d H5 hd sb5 st5 => ?_
      obtain ⟨w, hw1, hw2, hw3⟩ := hosp os[d] (List.getElem_mem hd)
      refine ⟨o, _, (d : Int), .int (w : Nat), rfl, rfl, SqL.of (sb5 _ _ hos' ho4), atI_nat (by rw [List.getElem?_map, List.getElem?_eq_getElem hd, hw1]; rfl), ?_⟩
      have hl5 := sb5 _ _ hls (s4 _ _ hlL)
      have hf5 := sb5 _ _ hfs (s4 _ _ hfF)
      have hwl : w < ls.length := by omega
      show tSeq _ _ _ _ _
      refine nx_storeVS (n := w) (v := ls.getD w 0 - 1) (ev_ii (g := fun i j => i - j) (ev_ixLi (n := w) (v := .int (ls.getD w 0)) (d := .int (ls.getD w 0)) (evp_var rfl) hl5 (ev_var rfl (.int _)) rfl (by rw [List.getElem?_map, List.getElem?_eq_getElem hwl, getD_of hwl]; rfl) (.int _)) ev_int) rfl rfl hl5 (ixN_nat (by rw [List.length_map]; exact hwl)) fun H6 s6 => ?_
      rw [map_set_int]
      have hf6 : (upd H6 l (.lst ((ls.set w (ls.getD w 0 - 1)).map L2.V.int))) f = some (.lst (fs.map L2.V.int)) := by rw [upd_ne hlf.symm]; exact s6 _ _ hf5
      refine nx_app (e := .int (w : Nat)) rfl hf6 (ev_var rfl (.int _)) (by rw [List.length_map]; omega) fun u H7 s7 hu => ?_
      rw [hu.i, hnx]
      refine ⟨_, _, _, rfl, fun b oo hb e => ?_, ?_, ls.set w (ls.getD w 0 - 1), fs ++ [(w : Int)], ?_, by rw [List.length_set, hll], fun x hx => ?_, ?_, ?_, by rw [List.length_append, List.length_singleton, hfl], fun x hx => ?_, fun w' hw' => ?_⟩
      · rw [upd_ne (ne_of_none e hfn)]
        refine s7 _ _ ?_
        rw [upd_ne (ne_of_none e hl)]
        exact s6 _ _ (sb5 _ _ hb (s4 _ _ (sb _ _ hb e)))
      · exact (((st5.s s6).upd hls hlsl).s s7).upd hfs hfsl
      · rw [upd_ne hlf]
        exact s7 _ _ upd_same
      · rcases List.mem_or_eq_of_mem_set hx with hx | rfl
        · exact hln x hx
        · omega
      · rw [sum_set hwl, hsum]; omega
      · rw [upd_same, List.map_append]; rfl
      · rcases List.mem_append.mp hx with hx | hx
        · exact hfr x hx
        · rw [List.mem_singleton.mp hx]; omega
      · rw [getD_set hwl, List.count_append, List.count_singleton]
        have := hcnt w' hw'
        by_cases e : w = w'
        · subst e
          rw [if_pos rfl, if_pos (beq_self_eq_true _)]
          omega
        · rw [if_neg e, if_neg (by rw [beq_iff_eq]; omega), Nat.add_zero]
          exact this
    · rintro σ' H3 ⟨x, y, z, rfl, sb, st, ls, fs, hlL, hll, hln, hsum, hfF, hfl, hfr, hcnt⟩
      have hz := zero_of_sum hln (by rw [hsum]; omega)
      refine Ev.go (ev_tupP (evp_var rfl) hfF (DtA.ofInts _ _)) fun u H4 s4 hu => k fs u H4 ⟨hfl, hfr⟩ ?_ (sb.trans (Sb.of s4)) (st.s s4) hu
      refine ext_getD (by rw [counts_len, ha.1]) fun w hw => ?_
      rw [counts_len] at hw
      rw [counts_getD hw, ← hcnt w hw, hz _ (getD_mem (by rw [hll]; exact hw))]
      omega
end
end K60
/-! Draws in blocks and loops. -/
namespace K60
open PySem L2
section
variable {X : Cx} {K : PySem.W.Frag}
theorem hu65 {k : Nat} {A : Around} (hr : Room k A) : A.units + 65 < cLine := by have := hr.un; omega
theorem opk_notInD (h : X.K = K) (hu : X.A.units + 65 < cLine) : OpR X (compareOp .NotIn) (rNotInD K) := h ▸ op_notInD hu
end
section
variable {K : PySem.W.Frag} {σ : L2.St} {H : Hp} {t ta' tb te th : TE}
theorem lc_rng {ta : TA} {tt : TT} {j : Nat} {m : Int} {n : Nat} {Q : VK} (h : EvA ta σ H [.int m]) (hm : m.toNat = n) (hz : -1000 ≤ m ∧ m ≤ 1000) (hw : ∀ x, wipe ((wipe σ [j]).set j (some x)) [j] = wipe σ [j])
    (k : ∀ H1 L, Same H H1 → H1 L = none → ∃ Pv : Nat → List V → Hp → Prop, Pv 0 [] (upd H1 L (.lst [])) ∧ (∀ i acc H', i < n → Pv i acc H' → H' L = some (.lst acc) → tt ((wipe σ [j]).set j (some (.int (i : Nat)))) H' fun b H3 =>
      if b = true then te ((wipe σ [j]).set j (some (.int (i : Nat)))) H3 fun y H4 => ∃ acc0, H4 L = some (.lst acc0) ∧ acc0.length < sizeLine ∧ ∃ acc', (upd H4 L (.lst (acc0 ++ [y]))) L = some (.lst acc') ∧ Pv (i + 1) acc' (upd H4 L (.lst (acc0 ++ [y]))) else ∃ acc', H3 L = some (.lst acc') ∧ Pv (i + 1) acc' H3) ∧ ∀ acc H', Pv n acc H' → H' L = some (.lst acc) → Q (.ref L) H') : tLc (iRng1 ta) (gName j) tt te [j] σ H Q :=
  h.go fun xs H2 s2 hx => by
    obtain ⟨x, rfl, hy⟩ := hx.one
    refine ⟨m, by rw [hy.i], by omega, by omega, fun L hL => ?_⟩
    rw [hm]
    obtain ⟨Pv, h0, hs, hd⟩ := k H2 L s2 hL
    refine lc_it walk_range (fun i H' => ∃ acc, H' L = some (.lst acc) ∧ Pv i acc H') ⟨[], upd_same, h0⟩ (fun _ _ _ _ => trivial) ?_ fun H' ⟨acc, h1, h2⟩ => hd acc H' h2 h1
    rintro i x H' H'' hi ⟨acc, h1, p⟩ ⟨rfl, rfl⟩
    have e : ((0 : Int) + (i : Int)) = (i : Int) := by omega
    show gName j (.int ((0 : Int) + (i : Int))) (wipe σ [j]) H'' _
    rw [e]
    exact ⟨hw _, hs i acc H'' hi p h1⟩
theorem rngW {g : TG} {tb : TS} {D : Ends} {m : Nat} (hm : m ≤ 100000) (Pv : Nat → L2.St → Hp → Prop) (h0 : Pv 0 σ H) (hs : ∀ (i : Nat) σ H, i < m → Pv i σ H → ∀ D' : Ends, D'.nx = Pv (i + 1) → D'.rt = D.rt → g (.int (i : Nat)) σ H fun σ2 H2 => tb D' σ2 H2) (hd : ∀ σ H, Pv m σ H → D.nx σ H) :
    ∃ j : Int, ([V.int (m : Int)] : List V) = [.int j] ∧ -(2 ^ 62) ≤ j ∧ j < 2 ^ 62 ∧ ∃ W : Nat → Nat → L2.St → Hp → Prop, (∃ m, W 0 m σ H) ∧ ∀ i m' σ H, W i m' σ H →
      ((Itr 0 j.toNat).stop i H ∧ D.nx σ H) ∨ ((Itr 0 j.toNat).go i H ∧ ∃ N : L2.St → Hp → Prop, (∀ σ' H', N σ' H' → ∃ m'', m'' < m' ∧ W (i + 1) m'' σ' H') ∧ ∀ x H', (Itr 0 j.toNat).yld i H x H' → g x σ H' fun σ2 H2 => tb { D with nx := N, ct := N, bk := D.nx } σ2 H2) := by
  refine ⟨(m : Int), rfl, by omega, by omega, ?_⟩
  rw [Int.toNat_natCast]
  refine for_it walk_range Pv h0 (fun _ _ _ _ _ => trivial) (fun i x σ H H' hi p y => ?_) hd
  obtain ⟨rfl, rfl⟩ := y
  show g (.int (0 + (i : Int))) σ H' _
  rw [Int.zero_add]
  exact hs i σ H' hi p _ rfl rfl
theorem tals_shaped (als : List (List Int)) : SeqAt.shaped (.list (als.map tI)) = true := by
  have h1 : ∀ l : List (List Int), PyData.canLayAll0 (l.map tI) = true := by
    intro l
    induction l with
    | nil => rfl
    | cons a l ih =>
      rw [List.map_cons]
      show (PyData.canLay0 (tI a) && PyData.canLayAll0 (l.map tI)) = true
      rw [ih]
      have : PyData.canLay0 (tI a) = true := ints_lay a
      rw [this]; rfl
  have h2 : ∀ l : List (List Int), PyData.depthAll (l.map tI) ≤ 2 := by
    intro l
    induction l with
    | nil => simp [PyData.depthAll]
    | cons a l ih =>
      have := tI_depth a
      simp only [List.map_cons, PyData.depthAll]
      simp only [PyData.depth] at this ⊢
      omega
  unfold SeqAt.shaped
  rw [Bool.and_eq_true, decide_eq_true_eq]
  refine ⟨h1 als, ?_⟩
  have := h2 als
  simp only [PyData.depth]
  omega
theorem any_tI (a : List Int) : ∀ als : List (List Int), ((als.map tI).any fun z => PyData.eqv z (tI a)) = decide (a ∈ als)
  | [] => by simp
  | b :: als => by
    rw [List.map_cons, List.any_cons, any_tI a als, eqv_tI, Bool.eq_iff_iff, Bool.or_eq_true, decide_eq_true_eq, decide_eq_true_eq, decide_eq_true_eq, List.mem_cons]
    exact ⟨fun h => h.elim (fun e => .inl e.symm) .inr, fun h => h.elim (fun e => .inl e.symm) .inr⟩
theorem ev_notInL {p : Addr} {a : List Int} {als : List (List Int)} (ha : Ev ta' σ H (tI a)) (hb : EvP tb σ H (.ref p)) (hp : Lv H p (als.map tI)) : Ev (tOp (rNotInD K) ta' tb) σ H (.bool (!decide (a ∈ als))) := fun H1 Q s q =>
  ha H1 _ s fun x H2 s2 hx => hb H2 _ (s.trans s2) fun H3 s3 => by
    obtain ⟨ys, h1, h2⟩ := ((hp.s s).s s2).s s3
    refine ⟨tI a, als.map tI, (hx.s s3).p, .lst (SqL.of h1) h2.p, tI_shaped _, tals_shaped _, ?_⟩
    rw [any_tI]
    exact q _ H3 (s2.trans s3) (.bl _)
/-- == of a draw with an int -/
theorem draw_eq {ta : TA} {s l : Addr} {m : Nat} {i : Int} {Q : VK} (h : ∀ Q : List V → Hp → Prop, (∀ H2, Same H H2 → Q [.ref s, .int m] H2) → ta σ H Q) (hs : StS H s l) (h1 : 1 ≤ m) (h2 : m ≤ 1000000) (k : ∀ (b : Bool) H', Sb s H H' → StS H' s l → Q (.bl b) H') : tOp rEq (tCall spNext [] E0 ta) (tC (.int i)) σ H Q :=
  nx_draw h hs h1 h2 fun d H' _ sb st => ⟨rfl, k _ H' sb st⟩
end
def spRule : Sp := fun vs H Q _ => ∃ (s sl : Addr) (V N : Nat), vs = [.ref s, .int V, .int N, .int 5] ∧ 1 ≤ V ∧ V ≤ 3 ∧ N ≤ 4 ∧ StS H s sl ∧ ∀ r v H', VR V N r → r.length ≤ 5 → Sb s H H' → StS H' s sl → Dt H' v (tR r) → Q v H'
def spAsked : Sp := fun vs H Q _ => ∃ (s sl : Addr) (v : L2.V) (r : List (List Int × List Int)) (V N : Nat), vs = [.ref s, v, .int V, .int N] ∧ 1 ≤ V ∧ V ≤ 3 ∧ N ≤ 4 ∧ VR V N r ∧ r.length ≤ 5 ∧ StS H s sl ∧ Dt H v (tR r) ∧ ∀ a u H', Alc V N a → Sb s H H' → StS H' s sl → Dt H' u (tI a) → Q u H'
end K60
namespace K60
open PySem L2
section
variable {K : PySem.W.Frag} {σ : L2.St} {H : Hp} {t te : TE}
theorem nx_setG {u : TS} {i : Nat} {D : Ends} (h : t σ H fun x H1 => u D (σ.set i (some x)) H1) : tSeq (tAsg t (gName i)) u D σ H := h
theorem nx_asgG {i : Nat} {D : Ends} (h : t σ H fun x H1 => D.nx (σ.set i (some x)) H1) : tAsg t (gName i) D σ H := h
theorem nx_forDraw {ta : TA} {g : TG} {tb u : TS} {D : Ends} {s l : Addr} {m : Nat} (h : ∀ Q : List V → Hp → Prop, (∀ H2, Same H H2 → Q [.ref s, .int m] H2) → ta σ H Q) (hs : StS H s l) (h1 : 1 ≤ m) (h2 : m ≤ 100000)
    (k : ∀ (d : Nat) H', d < m → Sb s H H' → StS H' s l → ∃ Pv : Nat → L2.St → Hp → Prop, Pv 0 σ H' ∧ (∀ (i : Nat) σ H, i < d → Pv i σ H → ∀ D' : Ends, D'.nx = Pv (i + 1) → D'.rt = D.rt → g (.int (i : Nat)) σ H fun σ2 H2 => tb D' σ2 H2) ∧ ∀ σ H, Pv d σ H → u D σ H) : tSeq (tFor (iRng1 (tCons (tCall spNext [] E0 ta) tNil)) g tb) u D σ H := by
  show tCall spNext [] E0 ta σ H _
  refine nx_draw h hs h1 (by omega) fun d H' hd sb st => ?_
  obtain ⟨Pv, p0, ps, pd⟩ := k d H' hd sb st
  exact rngW (D := { D with nx := u D }) (by omega) Pv p0 ps pd
theorem nx_appS {i : Nat} {u : TS} {p : Addr} {ys : List V} {e : PyData} {D : Ends} (hi : σ[i]? = some (some (.ref p))) (hp : H p = some (.lst ys)) (h : Ev te σ H e) (hz : ys.length ≤ 100000) (k : ∀ v H2, Same H H2 → Dt H2 v e → u D σ (upd H2 p (.lst (ys ++ [v])))) : tSeq (tDrop (tBM K "list" rAppend (tVar i) (tCons te tNil))) u D σ H :=
  nx_app (D := { D with nx := u D }) hi hp h hz k
theorem Sb.free {s l q : Addr} {H H' : Hp} (sb : Sb s H H') (st : StS H' s l) (hq : H' q = none) : H q = none := by
  cases e : H q with
  | none => rfl
  | some u =>
    have := sb _ _ (st.new hq).1 e
    rw [hq] at this
    cases this
end
/-- all but three stay -/
def Kp3 (s p t : Addr) (H H' : Hp) : Prop := ∀ b o, b ≠ s → b ≠ p → b ≠ t → H b = some o → H' b = some o
theorem Kp3.sb {s p t : Addr} {H H1 H' : Hp} (k : Kp3 s p t H H1) (sb : Sb s H1 H') : Kp3 s p t H H' := fun b o h1 h2 h3 e => sb b o h1 (k b o h1 h2 h3 e)
theorem Kp3.s {s p t : Addr} {H H1 H' : Hp} (k : Kp3 s p t H H1) (sb : Same H1 H') : Kp3 s p t H H' := k.sb (Sb.of sb)
theorem Kp3.kp {s p t : Addr} {H H' : Hp} {a b c : List V} (k : Kp3 s p t H H') (h1 : H s = some (.lst a)) (h2 : H p = some (.lst b)) (h3 : H t = some (.lst c)) : KpT H H' := by
  intro x o xs e
  refine k x _ (fun z => ?_) (fun z => ?_) (fun z => ?_) e
  · rw [z, h1] at e; cases e
  · rw [z, h2] at e; cases e
  · rw [z, h3] at e; cases e
end K60
namespace K60
open PySem L2
theorem StS.neL {H : Hp} {s l E : Addr} {als : List (List Int)} {ys : List V} (h : StS H s l) (h1 : H E = some (.lst ys)) (h2 : DtA H ys (als.map tI)) (h3 : 1 ≤ als.length) : E ≠ s := by
  obtain ⟨ns, c, k, g1, g2, g3, g4, g5⟩ := h
  intro z
  rw [z, g5] at h1
  cases h1
  cases als with
  | nil => simp at h3
  | cons a als =>
    rw [List.map_cons] at h2
    cases h2 with
    | cons a b =>
      obtain ⟨p, xs, e, hp, _⟩ := a.t
      cases e
      obtain ⟨o, _, e⟩ := hp
      rw [g2] at e
      cases e
end K60
namespace K60
open PySem L2
section
variable {P : Program} {w : World} {K : PySem.W.Frag} {mg : Str → Option Value} {base : Heap}
abbrev N__law_asked : List Str := ["_law_stream_here", "_law_rule_here", "_law_variants", "_law_buckets", "_law_every"]
theorem sc__law_asked : FnScope N__law_asked ["_law_stream_here", "_law_rule_here", "_law_variants", "_law_buckets"] (defScope (top 57)) := ⟨rfl, rfl, rfl, by decide +kernel, rfl, by decide +kernel, by decide +kernel⟩
theorem ok__law_asked {f : Addr} {fd : FuncData} (F : Fun K "_law_asked" "_law_asked" (top 57) f fd) (T : Txt mg) (G__law_allocations : Has P w K mg base 1 "_law_allocations" ["_law_variants", "_law_buckets"] spAllocs) (G__law_next : Has P w K mg base 1 "_law_next" ["_law_stream_here", "_law_many"] spNext) : FnOk P w K mg base CX0 2 f fd ["_law_stream_here", "_law_rule_here", "_law_variants", "_law_buckets"] spAsked := by
  have nd := sc__law_asked.nd
  refine F.ok sc__law_asked (fun vs H Q E h => ?_) fun cdv A outer s H vs Q E hr h => ?_
  · obtain ⟨s, sl, v, r, V, N, rfl, _⟩ := h; rfl
  · refine ⟨_, (pss_cons (ps_set (i := 4) nd rfl (Or.inl rfl) (pe_has G__law_allocations hr (by decide) (pa_cons (pv 2) (pa_cons (pv 3) pa_nil)))) (pss_cons (ps_if (PW.pt (pw_and (ptk_truth (K := K) rfl (pv 1) (fun _ => rfl)) (pw_and1 (pt_cmpR op_eq (pe_has G__law_next hr (by decide) (pa_cons (pv 0) (pa_cons pe_int pa_nil))) pe_int (nomark _))))) (pss_one (ps_ret (pe_ix (ixk_tup (K := K) rfl) (pe_ix (ixk_tup (K := K) rfl) (pv 1) (pe_has G__law_next hr (by decide) (pa_cons (pv 0) (pa_cons (pe_callB (call_lenk (K := K) rfl) (by rfl) T.len PySem.boot_len (pa_cons (pv 1) pa_nil)) pa_nil))) (fun _ _ => rfl)) pe_int (fun _ _ => rfl)))) pss_nil) (pss_one (ps_ret (pe_ix (ixk_list (K := K) rfl) (pv 4) (pe_has G__law_next hr (by decide) (pa_cons (pv 0) (pa_cons (pe_callB (call_lenk (K := K) rfl) (by rfl) T.len PySem.boot_len (pa_cons (pv 4) pa_nil)) pa_nil))) (fun _ _ => rfl)))))), ?_⟩
    obtain ⟨s, sl, v, r, V, N, rfl, hV, hV3, hN, hr1, hr5, hst, dr, k⟩ := h
    refine nx_setG ⟨_, rfl, _, rfl, V, N, rfl, hV, hV3, hN, fun E als H1 s1 hE hok hl1 hl2 => ?_⟩
    obtain ⟨ys, hy1, hy2⟩ := hE
    have hlen : ys.length = als.length := by rw [hy2.len, List.length_map]
    have hEs : E ≠ s := (hst.s s1).neL hy1 hy2 hl1
    have last : ∀ H2, Sb s H1 H2 → StS H2 s sl → tRet (tOp (rIxL K) (tVar 4) (tCall spNext [] E0 (tCons (tVar 0) (tCons (tCB (fun xs H Q => ∃ p ys, xs = [L2.V.ref p] ∧ (SqL K H p ys ∨ SqT K H p ys) ∧ Q (L2.V.int ys.length) H) (tCons (tVar 4) tNil)) tNil)))) { nx := fun _ H' => Q .non H', rt := Q } [some (.ref s), some v, some (.int (V : Nat)), some (.int (N : Nat)), some (.ref E)] H2 := by
      intro H2 sb2 st2
      have hy2' := sb2 _ _ hEs hy1
      refine ⟨_, rfl, ?_⟩
      refine nx_draw (m := ys.length) (arg2 rfl (ev_lenP (evp_var rfl) hy2')) st2 (by omega) (by omega) fun d H3 hd sb3 st3 => ?_
      obtain ⟨a, ha⟩ : ∃ a, als[d]? = some a := ⟨als[d], by simp [show d < als.length by omega]⟩
      obtain ⟨y, hy, dy⟩ := hy2.at (i := d) (d := tI a) (by rw [List.getElem?_map, ha]; rfl)
      refine ⟨E, ys, (d : Int), y, rfl, rfl, SqL.of (sb3 _ _ hEs hy2'), atI_nat hy, k a y H3 (hok a (List.mem_of_getElem? ha)) ((Sb.of s1).trans (sb2.trans sb3)) st3 ?_⟩
      exact (dy.k (sb2.kp (hst.s s1))).k (sb3.kp st2)
    refine ⟨_, rfl, ?_⟩
    obtain ⟨ra, rxs, rfl, hra, hrd⟩ := (dr.s s1).t
    have hrl : rxs.length = r.length := by rw [hrd.len, List.length_map]
    refine ⟨!rxs.isEmpty, .inr (.inl ⟨rxs, hra.q, rfl⟩), ?_⟩
    by_cases he : r = []
    · have : rxs = [] := by
        rw [he] at hrl
        exact List.length_eq_zero_iff.mp hrl
      rw [this]
      exact iteF (iteF (last H1 (Sb.refl _ _) (hst.s s1)))
    · have : (!rxs.isEmpty) = true := by
        cases rxs with
        | nil => exact absurd (List.length_eq_zero_iff.mp hrl.symm) he
        | cons _ _ => rfl
      rw [this]
      refine iteT ?_
      refine draw_eq (m := 3) (arg2 rfl ev_int) (hst.s s1) (by decide) (by decide) fun b H2 sb2 st2 => ⟨b, rfl, ?_⟩
      cases b with
      | false => exact iteF (last H2 sb2 st2)
      | true =>
        refine iteT ?_
        have dr2 : Dt H2 (.ref ra) (tR r) := (Dt.tup hra hrd).k (sb2.kp (hst.s s1))
        have hr0 : 1 ≤ r.length := by
          cases r with
          | nil => exact absurd rfl he
          | cons _ _ => simp
        obtain ⟨ra', rxs', e, hra', hrd'⟩ := dr2.t
        cases e
        refine ⟨_, rfl, ?_⟩
        refine nx_draw (m := r.length) (arg2 rfl ((ev_len (ev_var rfl dr2)).eq (by rw [List.length_map]))) st2 hr0 (by omega) fun d H3 hd sb3 st3 => ?_
        obtain ⟨p, hp⟩ : ∃ p, r[d]? = some p := ⟨r[d], by simp [hd]⟩
        have kp3 := sb3.kp st2
        obtain ⟨y, hy, dy⟩ := (hrd'.k kp3).at (i := d) (d := tP p) (by rw [List.getElem?_map, hp]; rfl)
        obtain ⟨pa, u, w, rfl, hpa, du, dw⟩ := dy.tP_
        refine ⟨ra, rxs', (d : Int), .ref pa, rfl, rfl, (hra'.k kp3).q, atI_nat hy, ?_⟩
        exact ⟨pa, _, 0, u, rfl, rfl, hpa.q, rfl, k p.1 u H3 ((hr1.1 p (List.mem_of_getElem? hp)).1) ((Sb.of s1).trans (sb2.trans sb3)) st3 du⟩
end
end K60
namespace K60
open PySem L2
section
variable {P : Program} {w : World} {K : PySem.W.Frag} {mg : Str → Option Value} {base : Heap}
abbrev N__law_rule : List Str := ["_law_stream_here", "_law_variants", "_law_buckets", "_law_most", "_law_lists", "_law_k", "_law_every", "_law_wild", "_law_pairs", "_law_there", "_law_allocation", "_law_assignment"]
theorem sc__law_rule : FnScope N__law_rule ["_law_stream_here", "_law_variants", "_law_buckets", "_law_most"] (defScope (top 54)) := ⟨rfl, rfl, rfl, by decide +kernel, rfl, by decide +kernel, by decide +kernel⟩
theorem ok__law_rule {f : Addr} {fd : FuncData} (F : Fun K "_law_rule" "_law_rule" (top 54) f fd) (T : Txt mg) (G__law_allocations : Has P w K mg base 1 "_law_allocations" ["_law_variants", "_law_buckets"] spAllocs) (G__law_shuffled : Has P w K mg base 2 "_law_shuffled" ["_law_stream_here", "_law_many"] spShuf) (G__law_next : Has P w K mg base 1 "_law_next" ["_law_stream_here", "_law_many"] spNext) (G__law_by_lists : Has P w K mg base 1 "_law_by_lists" ["_law_lists", "_law_allocation", "_law_buckets"] spByL) (G__law_drawn_assignment : Has P w K mg base 2 "_law_drawn_assignment" ["_law_stream_here", "_law_allocation", "_law_buckets"] spDrawn) : FnOk P w K mg base CX0 3 f fd ["_law_stream_here", "_law_variants", "_law_buckets", "_law_most"] spRule := by
  have nd := sc__law_rule.nd
  refine F.ok sc__law_rule (fun vs H Q E h => ?_) fun cdv A outer s H vs Q E hr h => ?_
  · obtain ⟨s, sl, V, N, rfl, _⟩ := h; rfl
  · refine ⟨_, (pss_cons (ps_setLc (i := 4) (own := [("_law_k", 5)]) (g := (gName 5)) (tt := tYes) rfl nd rfl rfl (sw_true rfl rfl rfl (by decide +kernel)) (pi_range1 (by rfl) T.range (pa_cons (pe_op op_sub (pv 1) pe_int) pa_nil)) (blkOk_by (N := N__law_rule) (sc := defScope (top 54)) (by decide +kernel)) (fun _ _ _ _ _ => (pg_name (i := 5) nd rfl (Or.inl rfl))) (fun _ _ _ _ _ => pts_nil) (fun _ _ _ _ _ => (pe_has G__law_shuffled hr (by decide) (pa_cons (pv 0) (pa_cons (pv 2) pa_nil))))) (pss_cons (ps_set (i := 6) nd rfl (Or.inl rfl) (pe_has G__law_allocations hr (by decide) (pa_cons (pv 1) (pa_cons (pv 2) pa_nil)))) (pss_cons (ps_set (i := 7) nd rfl (Or.inl rfl) (pe_cmpR op_eq (pe_has G__law_next hr (by decide) (pa_cons (pv 0) (pa_cons pe_int pa_nil))) pe_int (nomark _))) (pss_cons (ps_set (i := 8) nd rfl (Or.inl rfl) (pe_lst pa_nil)) (pss_cons (ps_set (i := 9) nd rfl (Or.inl rfl) (pe_lst pa_nil)) (pss_cons (ps_for PassesOwn.never rfl (pi_range1 (by rfl) T.range (pa_cons (pe_has G__law_next hr (by decide) (pa_cons (pv 0) (pa_cons (pe_op op_add (pv 3) pe_int) pa_nil))) pa_nil)) (pg_name (i := 5) nd rfl (Or.inl rfl)) (pss_cons (ps_set (i := 10) nd rfl (Or.inl rfl) (pe_ix (ixk_list (K := K) rfl) (pv 6) (pe_has G__law_next hr (by decide) (pa_cons (pv 0) (pa_cons (pe_callB (call_lenk (K := K) rfl) (by rfl) T.len PySem.boot_len (pa_cons (pv 6) pa_nil)) pa_nil))) (fun _ _ => rfl))) (pss_cons (ps_set (i := 11) nd rfl (Or.inl rfl) (pe_has G__law_by_lists hr (by decide) (pa_cons (pv 4) (pa_cons (pv 10) (pa_cons (pv 2) pa_nil))))) (pss_cons (ps_if (PW.pt (pw_and (ptk_truth (K := K) rfl (pv 7) (fun _ => rfl)) (pw_and1 (PW.pt (pw_or (pt_cmp (pc_isN (pv 11))) (pw_or1 (pt_cmpR op_eq (pe_has G__law_next hr (by decide) (pa_cons (pv 0) (pa_cons pe_int pa_nil))) pe_int (nomark _)))))))) (pss_one (ps_set (i := 11) nd rfl (Or.inl rfl) (pe_has G__law_drawn_assignment hr (by decide) (pa_cons (pv 0) (pa_cons (pv 10) (pa_cons (pv 2) pa_nil)))))) pss_nil) (pss_one (ps_if (PW.pt (pw_and (pt_cmpR (opk_notInD (K := K) rfl (hu65 hr)) (pv 10) (pv 9) (by with_unfolding_all rfl)) (pw_and1 (pt_cmp (pc_notN (pv 11)))))) (pss_cons (ps_expr (pe_bm PySem.F.plainAttrs_list PySem.F.slot_list_append PySem.F.type_list_append mt_append (pv 9) (pa_cons (pv 10) pa_nil))) (pss_one (ps_expr (pe_bm PySem.F.plainAttrs_list PySem.F.slot_list_append PySem.F.type_list_append mt_append (pv 8) (pa_cons (pe_tupF (pa_cons (pv 10) (pa_cons (pv 11) pa_nil))) pa_nil))))) pss_nil)))))) (pss_one (ps_ret (pe_callTy (callk_tupF (K := K) rfl) (by rfl) T.tuple PyProof.Rows.boot_tuple (pa_cons (pv 8) pa_nil)))))))))), ?_⟩
    obtain ⟨s, sl, V, N, rfl, hV, hV3, hN, hst, k⟩ := h
    refine nx_setG (lc_rng (m := (V : Int) - 1) (n := V - 1) (eva_cons (ev_ii (g := fun i j => i - j) (ev_var rfl (.int _)) ev_int) eva_nil) (by omega) (by omega) (fun _ => rfl) fun H1 L s1 hL => ?_)
    have hst1 := hst.s s1
    obtain ⟨hLs, hLsl⟩ := hst1.new hL
    have hLn : H L = none := s1.free hL
    refine ⟨fun i acc H' => Sb s H H' ∧ StS H' s sl ∧ ∃ ps : List Addr, acc = ps.map L2.V.ref ∧ ps.length = i ∧ ∀ p ∈ ps, H p = none ∧ p ≠ L ∧ ∃ fs : List Int, H' p = some (.lst (fs.map L2.V.int)) ∧ fs.length = N ∧ ∀ x ∈ fs, 0 ≤ x ∧ x < N, ⟨Sb.of (s1.trans (same_new hL)), hst1.s (same_new hL), [], rfl, rfl, fun p hp => by cases hp⟩, ?_, ?_⟩
    · rintro i acc H2 hi ⟨sb, st, ps, rfl, hpl, hpp⟩ hacc
      refine evt_yes.go fun H3 s3 => iteT ?_
      refine ⟨_, rfl, _, rfl, ?_⟩
      refine ⟨s, sl, N, rfl, by omega, st.s s3, fun q fs H4 hq sb4 st4 hqq hfl hfr => ?_⟩
      have hL4 := sb4 _ _ hLs (s3 _ _ hacc)
      have hqL : q ≠ L := (ne_of_none (s3 _ _ hacc) hq).symm
      have hqn : H q = none := (sb.trans (Sb.of s3)).free (st.s s3) hq
      refine ⟨_, hL4, by rw [List.length_map, hpl, sizeLine_eq]; omega, _, upd_same, fun b o hb e => ?_, st4.upd hLs hLsl, ps ++ [q], by rw [List.map_append]; rfl, by rw [List.length_append, List.length_singleton, hpl], fun p hp => ?_⟩
      · rw [upd_ne (ne_of_none e hLn)]
        exact sb4 _ _ hb (s3 _ _ (sb _ _ hb e))
      · rcases List.mem_append.mp hp with hp | hp
        · obtain ⟨h1, h2, fs', h3, h4, h5⟩ := hpp p hp
          refine ⟨h1, h2, fs', ?_, h4, h5⟩
          rw [upd_ne h2]
          exact sb4 _ _ (hst.new h1).1 (s3 _ _ h3)
        · rw [List.mem_singleton.mp hp]
          refine ⟨hqn, hqL, fs, ?_, hfl, hfr⟩
          rw [upd_ne hqL]
          exact hqq
    rintro acc H2 ⟨sb, st, ps, rfl, hpl, hpp⟩ hacc
    refine nx_setG ⟨_, rfl, _, rfl, V, N, rfl, hV, hV3, hN, fun E als H3 s3 hE hok hl1 hl2 => ?_⟩
    obtain ⟨ys, hy1, hy2⟩ := hE
    have hlen : ys.length = als.length := by rw [hy2.len, List.length_map]
    have hst3 := st.s s3
    have hEs : E ≠ s := hst3.neL hy1 hy2 hl1
    refine nx_setG (draw_eq (m := 3) (arg2 rfl ev_int) hst3 (by decide) (by decide) fun wd H4 sb4 st4 => ?_)
    refine nx_setL (ds := []) (evl_lst eva_nil (Nat.zero_le _)) fun P H5 s5 hP hP5 => ?_
    refine nx_setL (ds := []) (evl_lst eva_nil (Nat.zero_le _)) fun T' H6 s6 hT hT6 => ?_
    have hP5 := Lv.ints (ns := []) hP5
    have hT6 := Lv.ints (ns := []) hT6
    have sb24 : Sb s H2 H4 := (Sb.of s3).trans sb4
    have st5 := st4.s s5
    have st6 := st5.s s6
    obtain ⟨hPs, hPsl⟩ := st4.new hP
    obtain ⟨hTs, hTsl⟩ := st5.new hT
    have hPT : P ≠ T' := ne_of_none hP5 hT
    have hP6 := s6 _ _ hP5
    have sbH6 : Sb s H H6 := (sb.trans sb24).trans (Sb.of (s5.trans s6))
    have hPn : H P = none := (sb.trans sb24).free st4 hP
    have hTn : H T' = none := ((sb.trans sb24).trans (Sb.of s5)).free st5 hT
    have hE4 := sb4 _ _ hEs hy1
    have hy4 : DtA H4 ys (als.map tI) := hy2.k (sb4.kp hst3)
    have hE6 : H6 E = some (.lst ys) := s6 _ _ (s5 _ _ hE4)
    have hy6 : DtA H6 ys (als.map tI) := (hy4.s s5).s s6
    have hEP : E ≠ P := ne_of_none hE4 hP
    have hET : E ≠ T' := ne_of_none (s5 _ _ hE4) hT
    have hL4 := sb24 _ _ hLs hacc
    have hL6 := s6 _ _ (s5 _ _ hL4)
    have hLP : L ≠ P := ne_of_none hL4 hP
    have hLT : L ≠ T' := ne_of_none (s5 _ _ hL4) hT
    have hps6 : ∀ p ∈ ps, p ≠ s ∧ p ≠ P ∧ p ≠ T' ∧ ∃ fs : List Int, H6 p = some (.lst (fs.map L2.V.int)) ∧ fs.length = N ∧ ∀ x ∈ fs, 0 ≤ x ∧ x < N := fun p hp => by
      obtain ⟨h1, h2, fs', h3, h4, h5⟩ := hpp p hp
      have hs := (hst.new h1).1
      have h34 := sb24 _ _ hs h3
      exact ⟨hs, ne_of_none h34 hP, ne_of_none (s5 _ _ h34) hT, fs', s6 _ _ (s5 _ _ h34), h4, h5⟩
    obtain ⟨sxs, hs6⟩ := st6.at
    refine nx_forDraw (m := 6) (arg2 rfl (Ev.eq (d := .int ((5 : Int) + 1)) (ev_ii (g := fun i j => i + j) (ev_var rfl (.int _)) ev_int) rfl)) st6 (by decide) (by decide) fun d H7 hd sb7 st7 => ?_
    refine ⟨fun i σ' H' => ∃ x5 x10 x11, σ' = [some (.ref s), some (.int (V : Nat)), some (.int (N : Nat)), some (.int 5), some (.ref L), x5, some (.ref E), some (.bl wd), some (.ref P), some (.ref T'), x10, x11] ∧ Kp3 s P T' H6 H' ∧ StS H' s sl ∧ ∃ r : List (List Int × List Int), Lv H' P (r.map tP) ∧ Lv H' T' ((r.map (·.1)).map tI) ∧ (∀ p ∈ r, VP V N p) ∧ (r.map (·.1)).Nodup ∧ r.length ≤ i,
      ⟨_, _, _, rfl, fun b o h1 _ _ e => sb7 b o h1 e, st7, [], ⟨[], sb7 _ _ hPs hP6, .nil⟩, ⟨[], sb7 _ _ hTs hT6, .nil⟩, (fun p hp => by cases hp), List.nodup_nil, Nat.le_refl _⟩, ?_, ?_⟩
    · rintro i σ' H8 hi ⟨x5, x10, x11, rfl, kp, st8, r, hPr, hTr, hvp, hnd, hrl⟩ D hnx hrt
      have kpt := kp.kp hs6 hP6 hT6
      have hE8 := kp _ _ hEs hEP hET hE6
      have hy8 := hy6.k kpt
      show tSeq _ _ _ _ _
      refine nx_setG ⟨_, rfl, ?_⟩
      refine nx_draw (m := ys.length) (arg2 rfl (ev_lenP (evp_var rfl) hE8)) st8 (by omega) (by omega) fun d9 H9 hd9 sb9 st9 => ?_
      obtain ⟨a, ha⟩ : ∃ a, als[d9]? = some a := ⟨als[d9], by simp [show d9 < als.length by omega]⟩
      have hAl := hok a (List.mem_of_getElem? ha)
      obtain ⟨y, hy, dy⟩ := hy8.at (i := d9) (d := tI a) (by rw [List.getElem?_map, ha]; rfl)
      refine ⟨E, ys, (d9 : Int), y, rfl, rfl, SqL.of (sb9 _ _ hEs hE8), atI_nat hy, ?_⟩
      have kp9 := kp.sb sb9
      have kt9 := sb9.kp st8
      have dy9 := dy.k kt9
      have hP9 : Lv H9 P (r.map tP) := by
        obtain ⟨zs, h1, h2⟩ := hPr
        exact ⟨zs, sb9 _ _ hPs h1, h2.k kt9⟩
      have hT9 : Lv H9 T' ((r.map (·.1)).map tI) := by
        obtain ⟨zs, h1, h2⟩ := hTr
        exact ⟨zs, sb9 _ _ hTs h1, h2.k kt9⟩
      have hL9 := kp9 _ _ hLs hLP hLT hL6
      refine nx_setG ⟨_, rfl, _, rfl, _, rfl, ?_⟩
      refine ⟨L, y, N, V, a, ps, rfl, dy9, hAl, hV, hV3, hN, hL9, hpl, fun p hp => ?_, fun dd u H10 hdd s10 hu => ?_⟩
      · obtain ⟨h1, h2, h3, fs', h4, h5⟩ := hps6 p hp
        exact ⟨fs', kp9 _ _ h1 h2 h3 h4, h5⟩
      have kp10 := kp9.s s10
      have st10 := st9.s s10
      have last : ∀ (H11 : Hp) (u : L2.V) (dd : PyData), Kp3 s P T' H6 H11 → StS H11 s sl → Lv H11 P (r.map tP) → Lv H11 T' ((r.map (·.1)).map tI) → Dt H11 y (tI a) → Dt H11 u dd → (dd = .none ∨ ∃ g, dd = tI g ∧ Asg V N g ∧ counts V g = a) → tIfS (tAnd (tTest (tOp (rNotInD K) (tVar 10) (tVar 9))) (tB (tNotN (tVar 11)))) (tSeq (tDrop (tBM K "list" rAppend (tVar 9) (tCons (tVar 10) tNil))) (tDrop (tBM K "list" rAppend (tVar 8) (tCons (tTupF (tCons (tVar 10) (tCons (tVar 11) tNil))) tNil)))) tNext D [some (.ref s), some (.int (V : Nat)), some (.int (N : Nat)), some (.int 5), some (.ref L), some (.int (i : Nat)), some (.ref E), some (.bl wd), some (.ref P), some (.ref T'), some y, some u] H11 := by
        intro H11 u dd kp11 st11 hP11 hT11 dy11 du11 hdd
        refine nx_if (evt_and (evt_t (ev_notInL (ev_var rfl dy11) (evp_var rfl) hT11)) fun _ => evt_b (ev_notN (ev_var rfl du11))) (fun e H12 s12 => ?_) fun e H12 s12 => ?_
        · rw [Bool.and_eq_true, Bool.not_eq_true', Bool.not_eq_true', decide_eq_false_iff_not] at e
          rcases hdd with rfl | ⟨g, rfl, hg, hc⟩
          · cases e.2
          obtain ⟨zs, hz1, hz2⟩ := hT11
          obtain ⟨ws, hw1, hw2⟩ := hP11
          have hzl := hz2.len
          have hwl := hw2.len
          rw [List.length_map, List.length_map] at hzl
          rw [List.length_map] at hwl
          refine nx_appS rfl (s12 _ _ hz1) (ev_var rfl (dy11.s s12)) (by omega) fun v H13 s13 hv => ?_
          have k1 : KpT H13 (upd H13 T' (.lst (zs ++ [v]))) := KpT.lst (s13 _ _ (s12 _ _ hz1))
          have hw13 : (upd H13 T' (.lst (zs ++ [v]))) P = some (.lst ws) := by rw [upd_ne hPT]; exact s13 _ _ (s12 _ _ hw1)
          refine nx_app (e := tP (a, g)) rfl hw13 (ev_tup (eva_cons (ev_var rfl (((dy11.s s12).s s13).k k1)) (eva_cons (ev_var rfl (((du11.s s12).s s13).k k1)) eva_nil)) (by show 2 ≤ sizeLine; decide)) (by omega) fun v2 H14 s14 hv2 => ?_
          rw [hnx]
          have hT14 : H14 T' = some (.lst (zs ++ [v])) := s14 _ _ upd_same
          have k2 : KpT H14 (upd H14 P (.lst (ws ++ [v2]))) := KpT.lst (s14 _ _ hw13)
          refine ⟨_, _, _, rfl, fun b o h1 h2 h3 e => ?_, ?_, r ++ [(a, g)], ⟨_, upd_same, ?_⟩, ⟨zs ++ [v], by rw [upd_ne hPT.symm]; exact hT14, ?_⟩, fun p hp => ?_, ?_, by rw [List.length_append, List.length_singleton]; omega⟩
          · rw [upd_ne h2]
            refine s14 _ _ ?_
            rw [upd_ne h3]
            exact s13 _ _ (s12 _ _ (kp11 b o h1 h2 h3 e))
          · exact ((((st11.s s12).s s13).upd hTs hTsl).s s14).upd hPs hPsl
          · rw [List.map_append]
            exact (((((hw2.s s12).s s13).k k1).s s14).k k2).app (.cons (hv2.k k2) .nil)
          · rw [List.map_append, List.map_append]
            exact (((((hz2.s s12).s s13).k k1).s s14).k k2).app (.cons (((hv.k k1).s s14).k k2) .nil)
          · rcases List.mem_append.mp hp with hp | hp
            · exact hvp p hp
            · rw [List.mem_singleton.mp hp]; exact ⟨hAl, hg, hc⟩
          · rw [List.map_append, List.nodup_append]
            refine ⟨hnd, by simp, fun x hx y hy => ?_⟩
            have : y = a := by simpa using hy
            rw [this]
            exact fun z => e.1 (z ▸ hx)
        · show D.nx _ H12
          rw [hnx]
          exact ⟨_, _, _, rfl, kp11.s s12, st11.s s12, r, hP11.s s12, hT11.s s12, hvp, hnd, by omega⟩
      have dr : ∀ (H11 : Hp) (D' : Ends), D'.nx = (tIfS (tAnd (tTest (tOp (rNotInD K) (tVar 10) (tVar 9))) (tB (tNotN (tVar 11)))) (tSeq (tDrop (tBM K "list" rAppend (tVar 9) (tCons (tVar 10) tNil))) (tDrop (tBM K "list" rAppend (tVar 8) (tCons (tTupF (tCons (tVar 10) (tCons (tVar 11) tNil))) tNil)))) tNext) D → Kp3 s P T' H6 H11 → StS H11 s sl → Lv H11 P (r.map tP) → Lv H11 T' ((r.map (·.1)).map tI) → Dt H11 y (tI a) → tAsg (tCall spDrawn [] E0 (tCons (tVar 0) (tCons (tVar 10) (tCons (tVar 2) tNil)))) (gName 11) D' [some (.ref s), some (.int (V : Nat)), some (.int (N : Nat)), some (.int 5), some (.ref L), some (.int (i : Nat)), some (.ref E), some (.bl wd), some (.ref P), some (.ref T'), some y, some u] H11 := by
        intro H11 D' hD kp11 st11 hP11 hT11 dy11
        refine nx_asgG ⟨_, rfl, _, rfl, _, rfl, s, sl, y, V, N, a, rfl, st11, dy11, hAl, hV3, hN, fun g u2 H12 hg hc sb12 st12 hu2 => ?_⟩
        rw [hD]
        have kt := sb12.kp st11
        obtain ⟨zs, hz1, hz2⟩ := hT11
        obtain ⟨ws, hw1, hw2⟩ := hP11
        exact last H12 u2 (tI g) (kp11.sb sb12) st12 ⟨ws, sb12 _ _ hPs hw1, hw2.k kt⟩ ⟨zs, sb12 _ _ hTs hz1, hz2.k kt⟩ (dy11.k kt) hu2 (.inr ⟨g, rfl, hg, hc⟩)
      have hP10 := hP9.s s10
      have hT10 := hT9.s s10
      have dy10 := dy9.s s10
      refine ⟨_, rfl, wd, rfl, ?_⟩
      cases wd with
      | false => exact iteF (iteF (last H10 u dd kp10 st10 hP10 hT10 dy10 hu hdd))
      | true =>
        refine iteT ?_
        refine ⟨_, rfl, _, rfl, ?_⟩
        rw [isn_ok hu]
        cases hn : isNon dd with
        | true => exact iteT (iteT (dr H10 _ rfl kp10 st10 hP10 hT10 dy10))
        | false =>
          refine iteF ?_
          refine draw_eq (m := 2) (arg2 rfl ev_int) st10 (by decide) (by decide) fun b H11 sb11 st11 => ⟨b, rfl, ?_⟩
          have kt := sb11.kp st10
          have hP11 : Lv H11 P (r.map tP) := by
            obtain ⟨ws, hw1, hw2⟩ := hP10
            exact ⟨ws, sb11 _ _ hPs hw1, hw2.k kt⟩
          have hT11 : Lv H11 T' ((r.map (·.1)).map tI) := by
            obtain ⟨zs, hz1, hz2⟩ := hT10
            exact ⟨zs, sb11 _ _ hTs hz1, hz2.k kt⟩
          cases b with
          | true => exact iteT (dr H11 _ rfl (kp10.sb sb11) st11 hP11 hT11 (dy10.k kt))
          | false => exact iteF (last H11 u dd (kp10.sb sb11) st11 hP11 hT11 (dy10.k kt) (hu.k kt) hdd)
    · rintro σ' H8 ⟨x5, x10, x11, rfl, kp, st8, r, hPr, hTr, hvp, hnd, hrl⟩
      obtain ⟨ws, hw1, hw2⟩ := hPr
      refine Ev.go (ev_tupP (evp_var rfl) hw1 hw2) fun u H9 s9 hu => k r u H9 ⟨hvp, hnd, by omega⟩ (by omega) (fun b o hb e => ?_) (st8.s s9) hu
      exact s9 _ _ (kp _ _ hb (ne_of_none e hPn) (ne_of_none e hTn) (sbH6 _ _ hb e))
end
end K60
/-! Evidence that is turned. -/
namespace K60
open PySem L2
def Eok (s : Addr) (H : Hp) (v : V) : Prop := ∃ e, EvdOk H v e ∧ v ≠ .ref s
theorem EvdOk.sb {s l : Addr} {H H' : Hp} {v : V} {e : Evd} (h : EvdOk H v e) (hv : v ≠ .ref s) (sb : Sb s H H') (st : StS H s l) : EvdOk H' v e := by
  have kt := sb.kp st
  cases e with
  | no => exact h
  | li =>
    obtain ⟨p, ys, rfl, hp⟩ := h
    exact ⟨p, ys, rfl, sb _ _ (fun z => hv (by rw [z])) hp⟩
  | em => exact Dt.k h kt
  | tu t xs => exact ⟨h.1.k kt, h.2⟩
theorem Eok.sb {s l : Addr} {H H' : Hp} {v : V} (h : Eok s H v) (sb : Sb s H H') (st : StS H s l) : Eok s H' v := by
  obtain ⟨e, h, hv⟩ := h
  exact ⟨e, h.sb hv sb st, hv⟩
theorem Dt.neS {s l : Addr} {H : Hp} {v : V} {d : PyData} (h : Dt H v d) (st : StS H s l) : v ≠ .ref s := by
  intro z
  subst z
  cases h with
  | tup t r =>
    obtain ⟨o, _, e⟩ := t
    obtain ⟨xs, e2⟩ := st.at
    rw [e2] at e
    cases e
/-- an item that is evidence; a list of such -/
def Es (t : TE) (σ : L2.St) (s l : Addr) (H : Hp) : Prop := ∀ H1 Q, Sb s H H1 → StS H1 s l → (∀ v H2, Sb s H1 H2 → StS H2 s l → Eok s H2 v → Q v H2) → t σ H1 Q
def EsA (t : TA) (σ : L2.St) (s l : Addr) (H : Hp) (n : Nat) : Prop := ∀ H1 Q, Sb s H H1 → StS H1 s l → (∀ vs H2, Sb s H1 H2 → StS H2 s l → (∀ v ∈ vs, Eok s H2 v) → vs.length = n → Q vs H2) → t σ H1 Q
section
variable {K : PySem.W.Frag} {σ : L2.St} {H : Hp} {s l : Addr} {t ta tb : TE}
theorem esa_nil : EsA tNil σ s l H 0 := fun H1 Q sb st q => q [] H1 (Sb.refl _ _) st (fun v hv => by cases hv) rfl
theorem esa_cons {tr : TA} {n : Nat} (ha : Es ta σ s l H) (hr : EsA tr σ s l H n) : EsA (tCons ta tr) σ s l H (n + 1) := fun H1 Q sb st q =>
  ha H1 _ sb st fun x H2 sb2 st2 hx => hr H2 _ (sb.trans sb2) st2 fun xs H3 sb3 st3 hxs hn => q _ H3 (sb2.trans sb3) st3 (fun v hv => by
    rcases List.mem_cons.mp hv with rfl | hv
    · exact hx.sb sb3 st2
    · exact hxs v hv) (by rw [List.length_cons, hn])
theorem es_tu {tg : Str} {xs : List Itm} (st0 : StS H s l) (h : ∀ H1, KpT H H1 → Ev t σ H1 (.tuple (.str tg :: xs.map Itm.d))) (hz : xs.length ≤ 20) (hs : ∀ x ∈ xs, x.sm) : Es t σ s l H := fun H1 Q sb st q =>
  (h H1 (sb.kp st0)).go fun v H2 s2 hv => q v H2 (Sb.of s2) (st.s s2) ⟨.tu tg xs, ⟨hv, hz, hs⟩, hv.neS (st.s s2)⟩
theorem es_em (st0 : StS H s l) (h : ∀ H1, KpT H H1 → Ev t σ H1 (.tuple [])) : Es t σ s l H := fun H1 Q sb st q =>
  (h H1 (sb.kp st0)).go fun v H2 s2 hv => q v H2 (Sb.of s2) (st.s s2) ⟨.em, hv, hv.neS (st.s s2)⟩
theorem es_no (st0 : StS H s l) (h : ∀ H1, KpT H H1 → Ev t σ H1 .none) : Es t σ s l H := fun H1 Q sb st q =>
  (h H1 (sb.kp st0)).go fun v H2 s2 hv => q v H2 (Sb.of s2) (st.s s2) ⟨.no, hv.n, hv.neS (st.s s2)⟩
theorem es_li {ds : List PyData} (st0 : StS H s l) (h : ∀ H1, KpT H H1 → EvL t σ H1 ds) : Es t σ s l H := fun H1 Q sb st q =>
  (h H1 (sb.kp st0)).go fun p ys H2 s2 hn hp hd => q _ H2 (Sb.of s2) (st.s s2) ⟨.li, ⟨p, ys, rfl, hp⟩, fun z => by
    injection z with z
    exact (st.new hn).1 z⟩
/-- (tag, draws ..): items each a draw or known -/
def EsI (t : TE) (σ : L2.St) (s l : Addr) (H : Hp) : Prop := ∀ H1 Q, Sb s H H1 → StS H1 s l → (∀ (n : Int) H2, Sb s H1 H2 → StS H2 s l → Q (.int n) H2) → t σ H1 Q
theorem esi_ev {i : Int} (h : ∀ H1, Ev t σ H1 (.int i)) : EsI t σ s l H := fun H1 Q sb st q => (h H1).go fun v H2 s2 hv => by
  rw [hv.i]
  exact q i H2 (Sb.of s2) (st.s s2)
theorem esi_draw {m : Nat} (hi : σ[0]? = some (some (.ref s))) (h1 : 1 ≤ m) (h2 : m ≤ 1000) : EsI (tCall spNext [] E0 (tCons (tVar 0) (tCons (tC (.int m)) tNil))) σ s l H := fun H1 Q sb st q =>
  nx_draw (arg2 hi ev_int) st h1 (by omega) fun d H2 _ sb2 st2 => q _ H2 sb2 st2
theorem es_three {tg : Str} {t1 t2 t3 : TE} (h1 : EsI t1 σ s l H) (h2 : EsI t2 σ s l H) (h3 : EsI t3 σ s l H) : Es (tTupF (tCons (tC (.str tg)) (tCons t1 (tCons t2 (tCons t3 tNil))))) σ s l H := fun H1 Q sb st q =>
  h1 H1 _ sb st fun a H2 sb2 st2 => h2 H2 _ (sb.trans sb2) st2 fun b H3 sb3 st3 => h3 H3 _ ((sb.trans sb2).trans sb3) st3 fun c H4 sb4 st4 => ⟨by show 4 ≤ sizeLine; decide, fun r H5 s5 hr => by
    have hd : Dt H5 (.ref r) (.tuple (.str tg :: [Itm.i a, Itm.i b, Itm.i c].map Itm.d)) := .tup hr (.cons (.str _) (.cons (.int _) (.cons (.int _) (.cons (.int _) .nil))))
    refine q _ H5 (((sb2.trans sb3).trans sb4).trans (Sb.of s5)) (st4.s s5) ⟨.tu tg [.i a, .i b, .i c], ⟨hd, by show 3 ≤ 20; decide, fun x hx => ?_⟩, hd.neS (st4.s s5)⟩
    simp at hx
    rcases hx with rfl | rfl | rfl <;> exact True.intro⟩
theorem cb_tupF {tl : TE} {Q : VK} (h : tl σ H fun x H1 => rTupF K [x] H1 Q) : tCB (rTupF K) (tCons tl tNil) σ H Q := h
theorem nx_pick {i i2 j n : Nat} {u : TS} {D : Ends} (hn : n ≤ 10) (st : StS H s l) (hi2 : σ[i2]? = some (some (.int (n : Nat)))) (hw : ∀ x, wipe ((wipe σ [j]).set j (some x)) [j] = wipe σ [j]) (h0 : ∀ x, ((wipe σ [j]).set j (some x))[0]? = some (some (.ref s))) (hj : ∀ x, ((wipe σ [j]).set j (some x))[j]? = some (some x))
    (k : ∀ (c : List Int) r H', c.length ≤ n → Sb s H H' → StS H' s l → Tu H' r (c.map V.int) → u D (σ.set i (some (.ref r))) H') :
    tSeq (tAsg (tCB (rTupF K) (tCons (tLc (iRng1 (tCons (tVar i2) tNil)) (gName j) (tTest (tOp rEq (tCall spNext [] E0 (tCons (tVar 0) (tCons (tC (.int 2)) tNil))) (tC (.int 1)))) (tVar j) [j]) tNil)) (gName i)) u D σ H := by
  refine nx_setG ?_
  refine cb_tupF ?_
  refine lc_rng (m := (n : Int)) (n := n) (eva_cons (ev_var hi2 (.int _)) eva_nil) (by simp) (by omega) hw fun H1 L s1 hL => ?_
  have st1 := st.s s1
  obtain ⟨hLs, hLl⟩ := st1.new hL
  have hLn : H L = none := s1.free hL
  refine ⟨fun i acc H' => Sb s H H' ∧ StS H' s l ∧ ∃ c : List Int, acc = c.map V.int ∧ c.length ≤ i, ⟨Sb.of (s1.trans (same_new hL)), st1.s (same_new hL), [], rfl, Nat.le_refl _⟩, ?_, ?_⟩
  · rintro i acc H2 hi ⟨sb2, st2, c, rfl, hc⟩ hacc
    refine draw_eq (m := 2) (arg2 (h0 _) ev_int) st2 (by decide) (by decide) fun b H3 sb3 st3 => ⟨b, rfl, ?_⟩
    have hacc3 := sb3 _ _ hLs hacc
    cases b with
    | false => exact iteF ⟨_, hacc3, sb2.trans sb3, st3, c, rfl, by omega⟩
    | true =>
      refine iteT ⟨_, hj _, _, hacc3, by rw [List.length_map, sizeLine_eq]; omega, _, upd_same, fun b o hb e => ?_, st3.upd hLs hLl, c ++ [(i : Int)], by rw [List.map_append]; rfl, by rw [List.length_append, List.length_singleton]; omega⟩
      rw [upd_ne (ne_of_none e hLn)]
      exact sb3 _ _ hb (sb2 _ _ hb e)
  · rintro acc H2 ⟨sb2, st2, c, rfl, hc⟩ hacc
    exact ⟨L, _, rfl, SqL.of hacc, fun r H3 s3 hr => k c r H3 hc (sb2.trans (Sb.of s3)) (st2.s s3) hr⟩
end
def spTurned : Sp := fun vs H Q _ => ∃ (s sl : Addr) (v : L2.V) (V N : Nat) (d : PyData), vs = [.ref s, v, .int V, .int N] ∧ V ≤ 3 ∧ N ≤ 4 ∧ StS H s sl ∧ Dt H v d ∧
  (d = .none ∨ (∃ tg x y, d = .tuple (.str tg :: [x, y].map Itm.d) ∧ x.sm ∧ y.sm) ∨ ∃ tg x y z, d = .tuple (.str tg :: [x, y, z].map Itm.d) ∧ x.sm ∧ y.sm ∧ z.sm) ∧
  ∀ e u H', Sb s H H' → StS H' s sl → EvdOk H' u e → Q u H'
theorem sm2 {x y : Itm} (hx : x.sm) (hy : y.sm) : ∀ z ∈ [x, y], z.sm := fun z hz => by
  simp at hz
  rcases hz with rfl | rfl <;> assumption
theorem sm3 {x y w : Itm} (hx : x.sm) (hy : y.sm) (hw : w.sm) : ∀ z ∈ [x, y, w], z.sm := fun z hz => by
  simp at hz
  rcases hz with rfl | rfl | rfl <;> assumption
end K60
namespace K60
open PySem L2
theorem cutD_len (xs : List PyData) (lo hi : Option Int) : (cutD xs lo hi).length ≤ xs.length := by
  unfold cutD
  rw [List.length_take, List.length_drop]
  omega
theorem cut01 (h : List Int) : PyData.tuple (h.map PyData.int ++ cutD (h.map PyData.int) none (some 1)) = tI (h ++ h.take 1) := by
  have : cutD (h.map PyData.int) none (some 1) = (h.take 1).map PyData.int := by
    unfold cutD
    have e1 : HT.sIx (h.map PyData.int).length 0 none = 0 := HT.sIx_none _ _
    have e2 : HT.sIx (h.map PyData.int).length (h.map PyData.int).length (some 1) = min 1 (h.map PyData.int).length := HT.sIx_nat _ _ 1
    rw [e1, e2, List.drop_zero, Nat.sub_zero, List.map_take, List.length_map]
    cases h with
    | nil => rfl
    | cons a h =>
      have : min 1 (a :: h).length = 1 := by rw [List.length_cons]; omega
      rw [this]
  rw [this]
  show _ = PyData.tuple _
  rw [List.map_append]
theorem ev_neg {σ : L2.St} {H : Hp} {t : TE} {i : Int} (h : Ev t σ H (.int i)) : Ev (tUn (rU fun i => .int (-i)) t) σ H (.int (-i)) := fun H1 Q s q =>
  h H1 _ s fun x H2 s2 hx => ⟨i, hx.i, q _ H2 s2 (.int _)⟩
end K60
namespace K60
open PySem L2
section
variable {P : Program} {w : World} {K : PySem.W.Frag} {mg : Str → Option Value} {base : Heap}
abbrev N__law_turned : List Str := ["_law_stream_here", "_law_evidence", "_law_variants", "_law_buckets", "_law_chosen", "_law_variant", "_law_held", "_law_bucket", "_law_rows"]
theorem sc__law_turned : FnScope N__law_turned ["_law_stream_here", "_law_evidence", "_law_variants", "_law_buckets"] (defScope (top 63)) := ⟨rfl, rfl, rfl, by decide +kernel, rfl, by decide +kernel, by decide +kernel⟩
theorem ok__law_turned {f : Addr} {fd : FuncData} (F : Fun K "_law_turned" "_law_turned" (top 63) f fd) (T : Txt mg) (G__law_next : Has P w K mg base 1 "_law_next" ["_law_stream_here", "_law_many"] spNext) : FnOk P w K mg base CX0 2 f fd ["_law_stream_here", "_law_evidence", "_law_variants", "_law_buckets"] spTurned := by
  have nd := sc__law_turned.nd
  refine F.ok sc__law_turned (fun vs H Q E h => ?_) fun cdv A outer s H vs Q E hr h => ?_
  · obtain ⟨s, sl, v, V, N, d, rfl, _⟩ := h; rfl
  · refine ⟨_, (pss_cons (ps_set (i := 4) nd rfl (Or.inl rfl) (pe_callTy (callk_tupF (K := K) rfl) (by rfl) T.tuple PyProof.Rows.boot_tuple (pa_cons (pe_lc (own := [("_law_variant", 5)]) (g := (gName 5)) rfl nd (pi_range1 (by rfl) T.range (pa_cons (pv 2) pa_nil)) (blkOk_by (N := N__law_turned) (sc := defScope (top 63)) (by decide +kernel)) (fun _ _ _ _ _ => (pg_name (i := 5) nd rfl (Or.inl rfl))) (fun _ _ _ _ _ => (pts_one (pt_cmpR op_eq (pe_has G__law_next hr (by decide) (pa_cons (pv 0) (pa_cons pe_int pa_nil))) pe_int (nomark _)))) (fun _ _ _ _ _ => (pv 5))) pa_nil))) (pss_cons (ps_set (i := 6) nd rfl (Or.inl rfl) (pe_callTy (callk_tupF (K := K) rfl) (by rfl) T.tuple PyProof.Rows.boot_tuple (pa_cons (pe_lc (own := [("_law_bucket", 7)]) (g := (gName 7)) rfl nd (pi_range1 (by rfl) T.range (pa_cons (pv 3) pa_nil)) (blkOk_by (N := N__law_turned) (sc := defScope (top 63)) (by decide +kernel)) (fun _ _ _ _ _ => (pg_name (i := 7) nd rfl (Or.inl rfl))) (fun _ _ _ _ _ => (pts_one (pt_cmpR op_eq (pe_has G__law_next hr (by decide) (pa_cons (pv 0) (pa_cons pe_int pa_nil))) pe_int (nomark _)))) (fun _ _ _ _ _ => (pv 7))) pa_nil))) (pss_cons (ps_set (i := 8) nd rfl (Or.inl rfl) (pe_lst (pa_cons (pe_tupF (pa_cons pe_str (pa_cons (pv 4) (pa_cons (pv 6) pa_nil)))) (pa_cons (pe_tupF (pa_cons pe_str (pa_cons (pe_tupRgF rfl T.tuple (prg_1 (by rfl) T.range (pv 2))) (pa_cons (pe_tupRgF rfl T.tuple (prg_1 (by rfl) T.range (pv 3))) pa_nil)))) (pa_cons (pe_tupF (pa_cons pe_str (pa_cons (pe_has G__law_next hr (by decide) (pa_cons (pv 0) (pa_cons pe_int pa_nil))) (pa_cons (pe_has G__law_next hr (by decide) (pa_cons (pv 0) (pa_cons pe_int pa_nil))) (pa_cons (pe_has G__law_next hr (by decide) (pa_cons (pv 0) (pa_cons pe_int pa_nil))) pa_nil))))) (pa_cons (pe_tupF (pa_cons pe_str (pa_cons (pv 4) (pa_cons (pv 6) (pa_cons pe_int pa_nil))))) (pa_cons (pe_tupF (pa_cons pe_str (pa_cons pe_bl (pa_cons pe_int (pa_cons pe_int pa_nil))))) (pa_cons (pe_tupF (pa_cons pe_str (pa_cons (pv 4) (pa_cons (pv 6) pa_nil)))) (pa_cons (pe_tupF (pa_cons pe_str (pa_cons (pv 4) (pa_cons (pe_op op_catF (pv 6) (pe_slice sl_tupF (pv 6) po_none (po_some pe_int))) pa_nil)))) (pa_cons (pe_tupF (pa_cons pe_str (pa_cons (pe_revT (pv 4)) (pa_cons (pv 6) pa_nil)))) (pa_cons (pe_tupF (pa_cons pe_str (pa_cons (pe_op op_catF (pv 4) (pe_tupF (pa_cons (pv 2) pa_nil))) (pa_cons (pv 6) pa_nil)))) (pa_cons (pe_tupF (pa_cons pe_str (pa_cons (pe_op op_catF (pe_tupF (pa_cons (pe_un un_neg pe_int) pa_nil)) (pv 4)) (pa_cons (pe_revT (pv 6)) pa_nil)))) (pa_cons (pe_tupF (pa_cons pe_str (pa_cons pe_int (pa_cons (pe_has G__law_next hr (by decide) (pa_cons (pv 0) (pa_cons pe_int pa_nil))) (pa_cons (pe_un un_neg pe_int) pa_nil))))) (pa_cons (pe_tupF (pa_cons pe_str (pa_cons (pe_un un_neg pe_int) (pa_cons pe_int (pa_cons pe_int pa_nil))))) (pa_cons (pe_tupF pa_nil) (pa_cons pe_non pa_nil)))))))))))))))) (pss_cons (ps_if (pt_cmp (pc_notN (pv 1))) (pss_cons (ps_set (i := 8) nd rfl (Or.inl rfl) (pe_op op_cat (pv 8) (pe_lst (pa_cons (pv 1) (pa_cons (pv 1) (pa_cons (pe_callTy call_list_of (by rfl) T.list PyProof.Rows.boot_list (pa_cons (pv 1) pa_nil)) (pa_cons (pe_op op_catF (pe_slice sl_tupF (pv 1) po_none (po_some pe_int)) (pe_tupF (pa_cons (pv 6) pa_nil))) (pa_cons (pe_op op_catF (pe_tupF (pa_cons (pe_ix (ixk_tup (K := K) rfl) (pv 1) pe_int (fun _ _ => rfl)) (pa_cons (pv 4) pa_nil))) (pe_slice sl_tupF (pv 1) (po_some pe_int) po_none)) pa_nil)))))))) (pss_one (ps_set (i := 8) nd rfl (Or.inl rfl) (pe_op op_cat (pv 8) (pe_lst (pa_cons (pe_op op_catF (pe_slice sl_tupF (pv 1) po_none (po_some (pe_un un_neg pe_int))) (pe_tupF (pa_cons (pv 3) pa_nil))) (pa_cons (pe_op op_catF (pe_op op_catF (pe_slice sl_tupF (pv 1) po_none (po_some pe_int)) (pe_tupF (pa_cons (pe_tupF pa_nil) pa_nil))) (pe_slice sl_tupF (pv 1) (po_some pe_int) po_none)) pa_nil))))))) pss_nil) (pss_one (ps_ret (pe_ix (ixk_list (K := K) rfl) (pv 8) (pe_has G__law_next hr (by decide) (pa_cons (pv 0) (pa_cons (pe_callB (call_lenk (K := K) rfl) (by rfl) T.len PySem.boot_len (pa_cons (pv 8) pa_nil)) pa_nil))) (fun _ _ => rfl)))))))), ?_⟩
    obtain ⟨s, sl, v, V, N, d, rfl, hV, hN, hst, dv, hd, k⟩ := h
    refine nx_pick (n := V) (by omega) hst rfl (fun _ => rfl) (fun _ => rfl) (fun _ => rfl) fun c rc H1 hc sb1 st1 hrc => ?_
    refine nx_pick (n := N) (by omega) st1 rfl (fun _ => rfl) (fun _ => rfl) (fun _ => rfl) fun h rh H2 hh sb2 st2 hrh => ?_
    have kp1 := sb1.kp hst
    have kp2 := sb2.kp st1
    have dc : Dt H2 (.ref rc) (Itm.t c).d := Dt.ofI (hrc.k kp2)
    have dh : Dt H2 (.ref rh) (Itm.t h).d := Dt.ofI hrh
    have dv2 : Dt H2 v d := (dv.k kp1).k kp2
    have smc : (Itm.t c).sm := by show c.length ≤ 500; omega
    have smh : (Itm.t h).sm := by show h.length ≤ 500; omega
    have z2 : ∀ {n : Nat}, n ≤ 100 → n ≤ sizeLine := fun h => by rw [sizeLine_eq]; omega
    have σe : ∀ (x8 : Option L2.V), (([some (.ref s), some v, some (.int (V : Nat)), some (.int (N : Nat)), some (.ref rc), none, some (.ref rh), none, x8] : L2.St)) = [some (.ref s), some v, some (.int (V : Nat)), some (.int (N : Nat)), some (.ref rc), none, some (.ref rh), none, x8] := fun _ => rfl
    have vc : ∀ {x8 : Option L2.V} {H3 : Hp}, KpT H2 H3 → Ev (tVar 4) [some (.ref s), some v, some (.int (V : Nat)), some (.int (N : Nat)), some (.ref rc), none, some (.ref rh), none, x8] H3 (tI c) := fun kp => ev_var rfl (dc.k kp)
    have vh : ∀ {x8 : Option L2.V} {H3 : Hp}, KpT H2 H3 → Ev (tVar 6) [some (.ref s), some v, some (.int (V : Nat)), some (.int (N : Nat)), some (.ref rc), none, some (.ref rh), none, x8] H3 (tI h) := fun kp => ev_var rfl (dh.k kp)
    have vN : ∀ {x8 : Option L2.V} {H3 : Hp}, Ev (tVar 3) [some (.ref s), some v, some (.int (V : Nat)), some (.int (N : Nat)), some (.ref rc), none, some (.ref rh), none, x8] H3 (.int (N : Nat)) := ev_var rfl (.int _)
    have vV : ∀ {x8 : Option L2.V} {H3 : Hp}, Ev (tVar 2) [some (.ref s), some v, some (.int (V : Nat)), some (.int (N : Nat)), some (.ref rc), none, some (.ref rh), none, x8] H3 (.int (V : Nat)) := ev_var rfl (.int _)
    have cl : (c.map PyData.int).length = c.length := List.length_map ..
    have hl : (h.map PyData.int).length = h.length := List.length_map ..
    refine nx_setG ?_
    show tLst _ _ _ _
    refine (esa_cons (es_tu (tg := "short") (xs := [.t c, .t h]) st2 (fun H3 kp => ev_tup (eva_cons ev_str (eva_cons (vc kp) (eva_cons (vh kp) eva_nil))) (by show 3 ≤ sizeLine; decide)) (by show 2 ≤ 20; decide) (sm2 smc smh)) <|
      esa_cons (es_tu (tg := "short") (xs := [.t ((List.range V).map fun (j : Nat) => (j : Int)), .t ((List.range N).map fun (j : Nat) => (j : Int))]) st2 (fun H3 kp => ev_tup (eva_cons ev_str (eva_cons (ev_rgT (n := V) (fun H4 Q s4 q => ⟨_, rfl, (V : Int), rfl, q H4 (Same.refl _)⟩) (RgOk.of_le (by omega) (by omega) (by omega) (by omega))) (eva_cons (ev_rgT (n := N) (fun H4 Q s4 q => ⟨_, rfl, (N : Int), rfl, q H4 (Same.refl _)⟩) (RgOk.of_le (by omega) (by omega) (by omega) (by omega))) eva_nil))) (by show 3 ≤ sizeLine; decide)) (by show 2 ≤ 20; decide) (sm2 (by show List.length _ ≤ 500; rw [List.length_map, List.length_range]; omega) (by show List.length _ ≤ 500; rw [List.length_map, List.length_range]; omega))) <|
      esa_cons (es_three (esi_draw rfl (by decide) (by decide)) (esi_draw rfl (by decide) (by decide)) (esi_draw rfl (by decide) (by decide))) <|
      esa_cons (es_tu (tg := "short") (xs := [.t c, .t h, .i 0]) st2 (fun H3 kp => ev_tup (eva_cons ev_str (eva_cons (vc kp) (eva_cons (vh kp) (eva_cons ev_int eva_nil)))) (by show 4 ≤ sizeLine; decide)) (by show 3 ≤ 20; decide) (sm3 smc smh True.intro)) <|
      esa_cons (es_tu (tg := "needless") (xs := [.b true, .i 0, .i 0]) st2 (fun H3 kp => ev_tup (eva_cons ev_str (eva_cons ev_bl (eva_cons ev_int (eva_cons ev_int eva_nil)))) (by show 4 ≤ sizeLine; decide)) (by show 3 ≤ 20; decide) (sm3 True.intro True.intro True.intro)) <|
      esa_cons (es_tu (tg := "none") (xs := [.t c, .t h]) st2 (fun H3 kp => ev_tup (eva_cons ev_str (eva_cons (vc kp) (eva_cons (vh kp) eva_nil))) (by show 3 ≤ sizeLine; decide)) (by show 2 ≤ 20; decide) (sm2 smc smh)) <|
      esa_cons (es_tu (tg := "short") (xs := [.t c, .t (h ++ h.take 1)]) st2 (fun H3 kp => ev_tup (eva_cons ev_str (eva_cons (vc kp) (eva_cons ((ev_cat (vh kp) (ev_sl (vh kp) evo_none (evo_some ev_int)) (by have := cutD_len (h.map PyData.int) none (some 1); rw [hl] at this ⊢; exact z2 (by omega))).eq (by rw [cut01 h]; rfl)) eva_nil))) (by show 3 ≤ sizeLine; decide)) (by show 2 ≤ 20; decide) (sm2 smc (by show (h ++ h.take 1).length ≤ 500; rw [List.length_append, List.length_take]; omega))) <|
      esa_cons (es_tu (tg := "short") (xs := [.t c.reverse, .t h]) st2 (fun H3 kp => ev_tup (eva_cons ev_str (eva_cons ((ev_rev (vc kp)).eq (by rw [← List.map_reverse]; rfl)) (eva_cons (vh kp) eva_nil))) (by show 3 ≤ sizeLine; decide)) (by show 2 ≤ 20; decide) (sm2 (by show c.reverse.length ≤ 500; rw [List.length_reverse]; omega) smh)) <|
      esa_cons (es_tu (tg := "short") (xs := [.t (c ++ [(V : Int)]), .t h]) st2 (fun H3 kp => ev_tup (eva_cons ev_str (eva_cons ((ev_cat (vc kp) (ev_tup (eva_cons vV eva_nil) (by show 1 ≤ sizeLine; decide)) (by rw [cl]; exact z2 (by show c.length + 1 ≤ 100; omega))).eq (tI_app c _)) (eva_cons (vh kp) eva_nil))) (by show 3 ≤ sizeLine; decide)) (by show 2 ≤ 20; decide) (sm2 (by show (c ++ [(V : Int)]).length ≤ 500; rw [List.length_append, List.length_singleton]; omega) smh)) <|
      esa_cons (es_tu (tg := "short") (xs := [.t (-1 :: c), .t h.reverse]) st2 (fun H3 kp => ev_tup (eva_cons ev_str (eva_cons ((ev_cat (ev_tup (eva_cons (ev_neg ev_int) eva_nil) (by show 1 ≤ sizeLine; decide)) (vc kp) (by rw [cl]; exact z2 (by show 1 + c.length ≤ 100; omega))).eq rfl) (eva_cons ((ev_rev (vh kp)).eq (by rw [← List.map_reverse]; rfl)) eva_nil))) (by show 3 ≤ sizeLine; decide)) (by show 2 ≤ 20; decide) (sm2 (by show (-1 :: c).length ≤ 500; rw [List.length_cons]; omega) (by show h.reverse.length ≤ 500; rw [List.length_reverse]; omega))) <|
      esa_cons (es_three (esi_ev fun _ => ev_int) (esi_draw rfl (by decide) (by decide)) (esi_ev fun _ => ev_neg ev_int)) <|
      esa_cons (es_tu (tg := "needless") (xs := [.i (-1), .i 0, .i 0]) st2 (fun H3 kp => ev_tup (eva_cons ev_str (eva_cons (ev_neg ev_int) (eva_cons ev_int (eva_cons ev_int eva_nil)))) (by show 4 ≤ sizeLine; decide)) (by show 3 ≤ 20; decide) (sm3 True.intro True.intro True.intro)) <|
      esa_cons (es_em st2 fun H3 kp => ev_tup eva_nil (Nat.zero_le _)) <|
      esa_cons (es_no st2 fun H3 kp => ev_non) esa_nil) H2 _ (Sb.refl _ _) st2 fun vs H3 sb3 st3 hvs hvn => ⟨z2 (by omega), fun p hp => ?_⟩
    have sn := same_new (o := .lst vs) hp
    have last : ∀ (H4 : Hp) (p : Addr) (ys : List L2.V), H4 p = some (.lst ys) → p ≠ s → StS H4 s sl → Sb s H H4 → (∀ y ∈ ys, Eok s H4 y) → 1 ≤ ys.length → ys.length ≤ 100 → (tRet (tOp (rIxL K) (tVar 8) (tCall spNext [] E0 (tCons (tVar 0) (tCons (tCB (fun xs H Q => ∃ p ys, xs = [L2.V.ref p] ∧ (SqL K H p ys ∨ SqT K H p ys) ∧ Q (L2.V.int ys.length) H) (tCons (tVar 8) tNil)) tNil))))) { nx := fun _ H' => Q .non H', rt := Q } [some (.ref s), some v, some (.int (V : Nat)), some (.int (N : Nat)), some (.ref rc), none, some (.ref rh), none, some (.ref p)] H4 := by
      intro H4 p ys hp4 hps st4 sb4 hys h1 h2
      refine ⟨_, rfl, ?_⟩
      refine nx_draw (m := ys.length) (arg2 rfl (ev_lenP (evp_var rfl) hp4)) st4 h1 (by omega) fun dd H5 hd5 sb5 st5 => ?_
      obtain ⟨e, he, hes⟩ := (hys ys[dd] (List.getElem_mem hd5)).sb sb5 st4
      exact ⟨p, ys, (dd : Int), ys[dd], rfl, rfl, SqL.of (sb5 _ _ hps hp4), atI_nat (by simp [hd5]), k e ys[dd] H5 (sb4.trans sb5) st5 he⟩
    have hps := (st3.new hp).1
    have sbH3 : Sb s H H3 := (sb1.trans sb2).trans sb3
    have st3' := st3.s sn
    have kp23 : KpT H2 (upd H3 p (.lst vs)) := (sb3.kp st2).trans (.of sn)
    have hp0 : (upd H3 p (.lst vs)) p = some (.lst vs) := upd_same
    have hvs' : ∀ y ∈ vs, Eok s (upd H3 p (.lst vs)) y := fun y hy => (hvs y hy).sb (Sb.of sn) st3
    show tSeq _ _ _ _ _
    have dv3 := dv2.k kp23
    rcases hd with rfl | hd
    · exact nx_sif (b := false) ((evt_b (ev_notN (ev_var rfl dv3))).eq rfl) ff fun _ H4 s4 => last H4 p vs (s4 _ _ hp0) hps (st3'.s s4) (sbH3.trans (Sb.of (sn.trans s4))) (fun y hy => (hvs' y hy).sb (Sb.of s4) st3') (by omega) (by omega)
    have hev : ∃ (tg : Str) (xs : List Itm) (x0 : Itm) (pre rest : List Itm), d = .tuple (.str tg :: xs.map Itm.d) ∧ xs.length ≤ 3 ∧ 2 ≤ xs.length ∧ (∀ x ∈ xs, x.sm) ∧ (∀ x ∈ x0 :: rest, x.sm) ∧ (∀ x ∈ pre, x.sm) ∧ pre.length ≤ 2 ∧ rest.length ≤ 2 ∧ cutD (.str tg :: xs.map Itm.d) none (some 2) = [.str tg, x0.d] ∧ cutD (.str tg :: xs.map Itm.d) (some 2) none = rest.map Itm.d ∧ cutD (.str tg :: xs.map Itm.d) none (some (-1)) = .str tg :: pre.map Itm.d ∧ cutD (.str tg :: xs.map Itm.d) none (some 1) = [.str tg] := by
      rcases hd with ⟨tg, x, y, rfl, hx, hy⟩ | ⟨tg, x, y, z, rfl, hx, hy, hz⟩
      · exact ⟨tg, [x, y], x, [x], [y], rfl, Nat.le_of_ble_eq_true rfl, Nat.le_of_ble_eq_true rfl, sm2 hx hy, sm2 hx hy, (fun w hw => by rw [List.mem_singleton.mp hw]; exact hx), Nat.le_of_ble_eq_true rfl, Nat.le_of_ble_eq_true rfl, rfl, rfl, rfl, rfl⟩
      · exact ⟨tg, [x, y, z], x, [x, y], [y, z], rfl, Nat.le_of_ble_eq_true rfl, Nat.le_of_ble_eq_true rfl, sm3 hx hy hz, sm3 hx hy hz, sm2 hx hy, Nat.le_of_ble_eq_true rfl, Nat.le_of_ble_eq_true rfl, rfl, rfl, rfl, rfl⟩
    obtain ⟨tg, xs, x0, pre, rest, rfl, hxl, hxl2, hxs, hxr, hpre, hprl, hrl, c2, c3, c4, c5⟩ := hev
    have vd : ∀ {x8 : Option L2.V} {H3 : Hp}, KpT H2 H3 → Ev (tVar 1) [some (.ref s), some v, some (.int (V : Nat)), some (.int (N : Nat)), some (.ref rc), none, some (.ref rh), none, x8] H3 (.tuple (.str tg :: xs.map Itm.d)) := fun kp => ev_var rfl (dv2.k kp)
    refine nx_sif (b := true) ((evt_b (ev_notN (ev_var rfl dv3))).eq rfl) (fun _ H4 s4 => ?_) fun e => by cases e
    have st4 := st3'.s s4
    have kp4 : KpT H2 H4 := kp23.trans (.of s4)
    refine nx_setG ⟨_, rfl, ?_⟩
    refine (esa_cons (n := 4) (es_tu (tg := tg) (xs := xs) st4 (fun H5 kp => vd (kp4.trans kp)) (by omega) hxs) <| esa_cons (es_tu (tg := tg) (xs := xs) st4 (fun H5 kp => vd (kp4.trans kp)) (by omega) hxs) <|
      esa_cons (es_li st4 fun H5 kp => evl_listOf (vd (kp4.trans kp))) <|
      esa_cons (es_tu (tg := tg) (xs := [x0, .t h]) st4 (fun H5 kp => (ev_cat (ev_sl (vd (kp4.trans kp)) evo_none (evo_some ev_int)) (ev_tup (eva_cons (vh (kp4.trans kp)) eva_nil) (by show 1 ≤ sizeLine; decide)) (by rw [c2]; show 3 ≤ sizeLine; decide)).eq (by rw [c2]; rfl)) (by show 2 ≤ 20; decide) (sm2 (hxr x0 (by simp)) smh)) <|
      esa_cons (es_tu (tg := tg) (xs := .t c :: rest) st4 (fun H5 kp => (ev_cat (ev_tup (eva_cons (ev_ixc (n := 0) (vd (kp4.trans kp)) ev_int rfl rfl) (eva_cons (vc (kp4.trans kp)) eva_nil)) (by show 2 ≤ sizeLine; decide)) (ev_sl (vd (kp4.trans kp)) (evo_some ev_int) evo_none) (by rw [c3, List.length_map]; exact z2 (by show 2 + rest.length ≤ 100; omega))).eq (by rw [c3]; rfl)) (by rw [List.length_cons]; omega) (fun z hz => by
        rcases List.mem_cons.mp hz with rfl | hz
        · exact smc
        · exact hxr z (List.mem_cons_of_mem _ hz))) esa_nil) H4 _ (Sb.refl _ _) st4 fun ws H5 sb5 st5 hws hwn => ⟨z2 (by omega), fun q hq => ?_⟩
    have hp5 := sb5 _ _ hps (s4 _ _ hp0)
    have sq := same_new (o := .lst ws) hq
    refine ⟨p, q, vs, ws, rfl, rfl, sq _ _ hp5, upd_same, z2 (by omega), fun r hr => ?_⟩
    have sr := same_new (o := .lst (vs ++ ws)) hr
    have st6 := (st5.s sq).s sr
    have hrs := ((st5.s sq).new hr).1
    have sb56 : Sb s H5 (upd (upd H5 q (.lst ws)) r (.lst (vs ++ ws))) := Sb.of (sq.trans sr)
    have hall : ∀ y ∈ vs ++ ws, Eok s (upd (upd H5 q (.lst ws)) r (.lst (vs ++ ws))) y := fun y hy => by
      rcases List.mem_append.mp hy with hy | hy
      · exact (((hvs' y hy).sb (Sb.of s4) st3').sb sb5 st4).sb sb56 st5
      · exact (hws y hy).sb sb56 st5
    have kp6 : KpT H2 (upd (upd H5 q (.lst ws)) r (.lst (vs ++ ws))) := kp4.trans ((sb5.kp st4).trans (sb56.kp st5))
    have sbH6 : Sb s H (upd (upd H5 q (.lst ws)) r (.lst (vs ++ ws))) := (sbH3.trans (Sb.of (sn.trans s4))).trans (sb5.trans sb56)
    generalize hH6 : upd (upd H5 q (.lst ws)) r (.lst (vs ++ ws)) = H6 at *
    have hr6 : H6 r = some (.lst (vs ++ ws)) := by rw [← hH6]; exact upd_same
    show tAsg _ _ _ _ _
    refine nx_asgG ⟨_, rfl, ?_⟩
    refine (esa_cons (n := 1) (es_tu (tg := tg) (xs := pre ++ [.i (N : Int)]) st6 (fun H7 kp => (ev_cat (ev_sl (vd (kp6.trans kp)) evo_none (evo_some (ev_neg ev_int))) (ev_tup (eva_cons vN eva_nil) (by show 1 ≤ sizeLine; decide)) (by rw [c4]; exact z2 (by show (pre.map Itm.d).length + 1 + 1 ≤ 100; rw [List.length_map]; omega))).eq (by rw [c4, List.map_append]; rfl)) (by rw [List.length_append, List.length_singleton]; omega) (fun z hz => by
        rcases List.mem_append.mp hz with hz | hz
        · exact hpre z hz
        · rw [List.mem_singleton.mp hz]; exact True.intro)) <|
      esa_cons (es_tu (tg := tg) (xs := .t [] :: rest) st6 (fun H7 kp => (ev_cat (ev_cat (ev_sl (vd (kp6.trans kp)) evo_none (evo_some ev_int)) (ev_tup (eva_cons (ev_tup eva_nil (Nat.zero_le _)) eva_nil) (by show 1 ≤ sizeLine; decide)) (by rw [c5]; show 2 ≤ sizeLine; decide)) (ev_sl (vd (kp6.trans kp)) (evo_some ev_int) evo_none) (by rw [c5, c3, List.length_map]; exact z2 (by show 2 + rest.length ≤ 100; omega))).eq (by rw [c5, c3]; rfl)) (by rw [List.length_cons]; omega) (fun z hz => by
        rcases List.mem_cons.mp hz with rfl | hz
        · exact Nat.zero_le _
        · exact hxr z (List.mem_cons_of_mem _ hz))) esa_nil) H6 _ (Sb.refl _ _) st6 fun us H7 sb7 st7 hus hun => ⟨z2 (by omega), fun q2 hq2 => ?_⟩
    have hr7 := sb7 _ _ hrs hr6
    have sq2 := same_new (o := .lst us) hq2
    refine ⟨r, q2, vs ++ ws, us, rfl, rfl, sq2 _ _ hr7, upd_same, z2 (by rw [List.length_append]; omega), fun r2 hr2 => ?_⟩
    have sr2 := same_new (o := .lst ((vs ++ ws) ++ us)) hr2
    have sb78 := Sb.of (s := s) (sq2.trans sr2)
    refine last _ r2 _ upd_same ((st7.s sq2).new hr2).1 ((st7.s sq2).s sr2) ((sbH6.trans sb7).trans sb78) (fun y hy => ?_) (by rw [List.length_append]; omega) (by rw [List.length_append, List.length_append]; omega)
    rcases List.mem_append.mp hy with hy | hy
    · exact ((hall y hy).sb sb7 st6).sb sb78 st7
    · exact (hus y hy).sb sb78 st7
end
end K60
/-! The plain law: right evidence leaves nothing to continue; the first small set is the least row. -/
namespace K60
open PySem L2
/-! ### nothing continues -/
theorem okP_of {a g : List Int} {p : List Int × List Int} {b : Nat} (h1 : goesF p (a, g) b = false) (h2 : goesF (a, g) p b = false) : okP a b (g.getD b 0) p = true := by
  unfold goesF at h1 h2
  unfold okP
  simp only at h1 h2
  generalize p.2.getD b 0 = o at *
  generalize g.getD b 0 = v at *
  generalize decide (p.1.getD o.toNat 0 ≤ a.getD o.toNat 0) = x at *
  generalize decide (a.getD v.toNat 0 ≤ p.1.getD v.toNat 0) = y at *
  have e : (o != v) = (v != o) := by
    rw [Bool.eq_iff_iff, bne_iff_ne, bne_iff_ne]
    exact ne_comm
  rw [e] at h2
  generalize (v != o) = z at *
  generalize (o != 0) = w at *
  generalize (v != 0) = u at *
  revert h1 h2
  cases x <;> cases y <;> cases z <;> cases w <;> cases u <;> decide
theorem count_cov (c : List Int) : ∀ g : List Int, (g.filter fun v => c.contains v).length ≤ (c.map fun v => ((g.count v : Nat) : Int)).sum.toNat ∧ 0 ≤ (c.map fun v => ((g.count v : Nat) : Int)).sum := by
  intro g
  induction c with
  | nil =>
    refine ⟨?_, by simp⟩
    have : (g.filter fun v => ([] : List Int).contains v) = [] := List.filter_eq_nil_iff.mpr fun x _ => by simp
    rw [this]; simp
  | cons x c ih =>
    rw [List.map_cons, List.sum_cons]
    have h1 : (g.filter fun v => (x :: c).contains v).length ≤ g.count x + (g.filter fun v => c.contains v).length := by
      clear ih
      induction g with
      | nil => simp
      | cons y g ih =>
        rw [List.filter_cons, List.filter_cons, List.count_cons]
        by_cases e : y = x
        · subst e
          have : ((y :: c).contains y) = true := by simp
          rw [if_pos this, List.length_cons, if_pos (beq_self_eq_true _)]
          split <;> (try rw [List.length_cons]) <;> omega
        · have e1 : ((x :: c).contains y) = c.contains y := by simp [e]
          rw [e1]
          have e2 : (y == x) = false := by rw [beq_eq_false_iff_ne]; exact e
          rw [e2]
          split
          · rw [List.length_cons, List.length_cons, if_neg Bool.false_ne_true]; omega
          · rw [if_neg Bool.false_ne_true]; omega
    omega
theorem nodup_le {α : Type} [DecidableEq α] : ∀ {l m : List α}, l.Nodup → (∀ x ∈ l, x ∈ m) → l.length ≤ m.length
  | [], m, _, _ => Nat.zero_le _
  | x :: l, m, h, hs => by
    rw [List.nodup_cons] at h
    have hx := hs x List.mem_cons_self
    have := nodup_le (l := l) (m := m.erase x) h.2 fun y hy => (List.mem_erase_of_ne (by intro e; subst e; exact h.1 hy)).mpr (hs y (List.mem_cons_of_mem _ hy))
    rw [List.length_erase_of_mem hx] at this
    have hp := List.length_pos_of_mem hx
    rw [List.length_cons]
    omega
theorem filter_range (g : List Int) (p : Int → Bool) : ((List.range g.length).filter fun b => p (g.getD b 0)).length = (g.filter p).length := by
  induction g with
  | nil => rfl
  | cons x g ih =>
    have e : (((List.range g.length).map Nat.succ).filter fun b => p ((x :: g).getD b 0)).length = (g.filter p).length := by
      rw [List.filter_map, List.length_map, ← ih]
      rfl
    rw [List.length_cons, List.range_succ_eq_map, List.filter_cons, List.filter_cons]
    show (if p x = true then _ else _ : List Nat).length = _
    cases p x with
    | true =>
      rw [if_pos rfl, if_pos rfl, List.length_cons, List.length_cons, e]
    | false =>
      rw [if_neg Bool.false_ne_true, if_neg Bool.false_ne_true, e]

theorem menus_at {V N : Nat} {r : List (List Int × List Int)} {a : List Int} {b : Nat} (hb : b < N) : (menusF V N r a).getD b [] = ((List.range V).filter fun (v : Nat) => allowedF r a b (v : Int)).map fun (v : Nat) => (v : Int) := by
  unfold menusF
  simp [hb]
theorem no_short {V N : Nat} {r : List (List Int × List Int)} {a c h g : List Int} (ha : Alc V N a) (hg : Asg V N g) (hc : counts V g = a) (h1 : rowB c a.length = true) (h2 : rowB h N = true) (h3 : (c.map fun v => a.getD v.toNat 0).sum < (h.length : Int)) (h4 : ∀ b ∈ h, ((menusF V N r a).getD b.toNat []).all (fun v => c.contains v) = true) :
    ∃ p q, ∃ b : Nat, p ∈ r ++ [(a, g)] ∧ q ∈ r ++ [(a, g)] ∧ b < N ∧ goesF p q b = true := by
  refine Classical.byContradiction fun no => ?_
  have nog : ∀ p q (b : Nat), p ∈ r ++ [(a, g)] → q ∈ r ++ [(a, g)] → b < N → goesF p q b = false := fun p q b hp hq hb => by
    cases e : goesF p q b with
    | false => rfl
    | true => exact absurd ⟨p, q, b, hp, hq, hb, e⟩ no
  have hin := rowB_in h2
  have hm : ∀ b : Nat, b < N → (b : Int) ∈ h → c.contains (g.getD b 0) = true := fun b hb hbh => by
    have hv := hg.at hb
    have hall : allowedF r a b (g.getD b 0) = true := by
      unfold allowedF
      rw [List.all_eq_true]
      intro p hp
      have hp1 : p ∈ r ++ [(a, g)] := List.mem_append_left _ hp
      have hp2 : (a, g) ∈ r ++ [(a, g)] := List.mem_append_right _ (List.mem_singleton.mpr rfl)
      exact okP_of (nog p (a, g) b hp1 hp2 hb) (nog (a, g) p b hp2 hp1 hb)
    have h5 := h4 (b : Int) hbh
    rw [Int.toNat_natCast, menus_at hb, List.all_eq_true] at h5
    refine h5 _ (List.mem_map.mpr ⟨(g.getD b 0).toNat, List.mem_filter.mpr ⟨List.mem_range.mpr (by omega), ?_⟩, by omega⟩)
    rw [Int.toNat_of_nonneg hv.1]
    exact hall
  have nd : (h.map Int.toNat).Nodup := by
    unfold rowB at h2
    rw [Bool.and_eq_true, asc_lt] at h2
    rw [List.nodup_iff_pairwise_ne, List.pairwise_map]
    refine (List.pairwise_iff_getElem.mpr fun i j hi hj hij => ?_)
    have := List.pairwise_iff_getElem.mp h2.2 i j hi hj hij
    have ni := (hin _ (List.getElem_mem hi)).1
    have nj := (hin _ (List.getElem_mem hj)).1
    omega
  have h6 := nodup_le (m := (List.range g.length).filter fun b => c.contains (g.getD b 0)) nd fun x hx => by
    obtain ⟨b, hb, rfl⟩ := List.mem_map.mp hx
    have hbr := hin b hb
    refine List.mem_filter.mpr ⟨List.mem_range.mpr (by rw [hg.1]; omega), hm b.toNat (by omega) ?_⟩
    rw [Int.toNat_of_nonneg hbr.1]
    exact hb
  rw [List.length_map, filter_range g (fun v => c.contains v)] at h6
  have h7 := count_cov c g
  have e : (c.map fun v => ((g.count v : Nat) : Int)) = c.map fun v => a.getD v.toNat 0 := by
    refine List.map_congr_left fun v hv => ?_
    have hvr := rowB_in h1 v hv
    have := ha.1
    rw [← hc, counts_getD (by omega), Int.toNat_of_nonneg hvr.1]
  rw [e] at h7
  omega
theorem right_ends {V N : Nat} {r : List (List Int × List Int)} {a : List Int} {e : Evd} (ha : Alc V N a) (hN : (menusF V N r a).length = N) (h : evB r a (menusF V N r a) N e = true) : ∀ g, Asg V N g → counts V g = a → ∃ p q, ∃ b : Nat, p ∈ r ++ [(a, g)] ∧ q ∈ r ++ [(a, g)] ∧ b < N ∧ goesF p q b = true := by
  intro g hg hc
  cases e with
  | no => cases h
  | li => cases h
  | em => cases h
  | tu s xs =>
    rw [evB_tu] at h
    by_cases e1 : s = "needless"
    · rw [if_pos e1] at h
      match xs, h with
      | [x, y, z], h =>
        have h : needI r N x y z = true := h
        unfold needI at h
        rw [Bool.and_eq_true, Bool.and_eq_true, Bool.and_eq_true] at h
        obtain ⟨hx, hy, hz, hgo⟩ := h
        obtain ⟨i, rfl, hi⟩ := inR_nat hx
        obtain ⟨j, rfl, hj⟩ := inR_nat hy
        obtain ⟨b, rfl, hb⟩ := inR_nat hz
        exact ⟨_, _, b, List.mem_append_left _ (rD_mem hi), List.mem_append_left _ (rD_mem hj), hb, hgo⟩
      | [], h => cases h
      | [_], h => cases h
      | [_, _], h => cases h
      | _ :: _ :: _ :: _ :: _, h => cases h
    · rw [if_neg e1] at h
      by_cases e2 : s = "short"
      · rw [if_pos e2] at h
        match xs, h with
        | [x, y], h =>
          have h : shortI a (menusF V N r a) x y = true := h
          cases x with
          | i _ => cases h
          | b _ => cases h
          | t c =>
            cases y with
            | i _ => cases h
            | b _ => cases h
            | t hh =>
              have h : (rowB c a.length && (rowB hh (menusF V N r a).length && (decide ((c.map fun v => a.getD v.toNat 0).sum < (hh.length : Int)) && hh.all fun b => ((menusF V N r a).getD b.toNat []).all fun v => c.contains v))) = true := h
              rw [Bool.and_eq_true, Bool.and_eq_true, Bool.and_eq_true, decide_eq_true_eq, List.all_eq_true, hN] at h
              exact no_short ha hg hc h.1 h.2.1 h.2.2.1 h.2.2.2
        | [], h => cases h
        | [_], h => cases h
        | _ :: _ :: _ :: _, h => cases h
      · rw [if_neg e2] at h
        cases h
/-! ### the first small set -/
def heldN (N : Nat) (M : List (List Int)) (s : List Int) : List Int := ((List.range N).filter fun k => (M.getD k []).all fun v => s.contains v).map fun (k : Nat) => (k : Int)
def shortS (a : List Int) (N : Nat) (M : List (List Int)) (s : List Int) : Bool := decide ((s.map fun v => a.getD v.toNat 0).sum < ((heldN N M s).length : Int))
def rowOf (N : Nat) (M : List (List Int)) (s : List Int) : Row := ((s.length : Int), s, heldN N M s)
def rowsF (V N : Nat) (a : List Int) (M : List (List Int)) : List Row := ((setsF V).filter (shortS a N M)).map (rowOf N M)
theorem v3 {V : Nat} (h1 : 1 ≤ V) (h : V ≤ 3) : V = 1 ∨ V = 2 ∨ V = 3 := by omega
theorem mask_chk : ∀ V, V = 1 ∨ V = 2 ∨ V = 3 → ∀ m ∈ setsF V, ∀ c ∈ setsF V, (Builtin.bitOr (maskF m) (maskF c) == maskF c) = m.all fun v => c.contains v := by
  rintro V (rfl | rfl | rfl) <;> decide +kernel
theorem choose_sets : ∀ V, V = 1 ∨ V = 2 ∨ V = 3 → ∀ k, k ≤ 3 → ∀ c ∈ choose (List.range V) k, castL c ∈ setsF V := by
  rintro V (rfl | rfl | rfl) k hk <;> (have : k = 0 ∨ k = 1 ∨ k = 2 ∨ k = 3 := by omega) <;> rcases this with rfl | rfl | rfl | rfl <;> decide
theorem sets_choose : ∀ V, V = 1 ∨ V = 2 ∨ V = 3 → ∀ s ∈ setsF V, s.length ≤ V ∧ s ∈ (choose (List.range V) s.length).map castL := by
  rintro V (rfl | rfl | rfl) <;> decide
def incr (l : List (List Int)) : Bool := (List.range l.length).all fun i => (List.range l.length).all fun j => !decide (i < j) || HT.lexLt (l.getD i []) (l.getD j [])
theorem choose_lt : ∀ V, V = 1 ∨ V = 2 ∨ V = 3 → ∀ k, k ≤ 3 → incr ((choose (List.range V) k).map castL) = true := by
  rintro V (rfl | rfl | rfl) k hk <;> (have : k = 0 ∨ k = 1 ∨ k = 2 ∨ k = 3 := by omega) <;> rcases this with rfl | rfl | rfl | rfl <;> decide
theorem fil_sets : ∀ V, V = 1 ∨ V = 2 ∨ V = 3 → ∀ p : Nat → Bool, (((List.range V).filter p).map fun (v : Nat) => (v : Int)) ∈ setsF V := by
  rintro V (rfl | rfl | rfl) p
  · cases h0 : p 0 <;> simp [List.range_succ, List.filter_cons, h0, setsF]
  · cases h0 : p 0 <;> cases h1 : p 1 <;> simp [List.range_succ, List.filter_cons, h0, h1, setsF]
  · cases h0 : p 0 <;> cases h1 : p 1 <;> cases h2 : p 2 <;> simp [List.range_succ, List.filter_cons, h0, h1, h2, setsF]
theorem filter_rangeM (M : List (List Int)) (p : List Int → Bool) : ((List.range M.length).filter fun b => p (M.getD b [])).length = (M.filter p).length := by
  induction M with
  | nil => rfl
  | cons x g ih =>
    have e : (((List.range g.length).map Nat.succ).filter fun b => p ((x :: g).getD b [])).length = (g.filter p).length := by
      rw [List.filter_map, List.length_map, ← ih]
      rfl
    rw [List.length_cons, List.range_succ_eq_map, List.filter_cons, List.filter_cons]
    show (if p x = true then _ else _ : List Nat).length = _
    cases p x with
    | true =>
      rw [if_pos rfl, if_pos rfl, List.length_cons, List.length_cons, e]
    | false =>
      rw [if_neg Bool.false_ne_true, if_neg Bool.false_ne_true, e]
theorem short_eq {V N : Nat} {a : List Int} {M : List (List Int)} {c : List Nat} (hV : V = 1 ∨ V = 2 ∨ V = 3) (hM : ∀ m ∈ M, m ∈ setsF V) (hN : M.length = N) (hc : castL c ∈ setsF V) : shortB a (M.map maskF) c = shortS a N M (castL c) := by
  unfold shortB shortS heldN
  rw [List.length_map, ← hN, filter_rangeM M (fun m => m.all fun v => (castL c).contains v), List.filter_map, List.length_map]
  have : (M.filter ((fun m => Builtin.bitOr m (maskF (castL c)) == maskF (castL c)) ∘ maskF)) = M.filter fun m => m.all fun v => (castL c).contains v := by
    refine List.filter_congr fun m hm => ?_
    exact mask_chk V hV m (hM m hm) _ hc
  rw [this]
theorem row_lt {r t : Row} (h : r.1 < t.1 ∨ (r.1 = t.1 ∧ HT.lexLt r.2.1 t.2.1 = true)) : ltR r t = true := by
  show (if r.1 = t.1 then (if r.2.1 = t.2.1 then HT.lexLt r.2.2 t.2.2 else HT.lexLt r.2.1 t.2.1) else decide (r.1 < t.1)) = true
  rcases h with h | ⟨h1, h2⟩
  · rw [if_neg (by omega)]
    exact decide_eq_true h
  · rw [if_pos h1, if_neg (fun e => by rw [e, tot_lex.irr] at h2; cases h2)]
    exact h2
theorem first_row {V N : Nat} {a : List Int} {M : List (List Int)} {c : List Nat} {out : List Row} (hV1 : 1 ≤ V) (hV3 : V ≤ 3) (hM : ∀ m ∈ M, m ∈ setsF V) (hN : M.length = N) (hc : FirstC V a (M.map maskF) c) (hp : out.Perm (rowsF V N a M)) (hs : SrtO.Srtd ltR out) : ∃ o', out = rowOf N M (castL c) :: o' := by
  obtain ⟨k, i, hk, hi, hsh, hb1, hb2⟩ := hc
  have hV := v3 hV1 hV3
  have hcm := List.mem_of_getElem? hi
  have hcs := choose_sets V hV k (by omega) c hcm
  rw [short_eq hV hM hN hcs] at hsh
  have ht : rowOf N M (castL c) ∈ rowsF V N a M := List.mem_map.mpr ⟨_, List.mem_filter.mpr ⟨hcs, hsh⟩, rfl⟩
  have ht' := hp.mem_iff.mpr ht
  cases out with
  | nil => cases ht'
  | cons o out' =>
    refine ⟨out', ?_⟩
    have hom := hp.mem_iff.mp (List.mem_cons_self (a := o) (l := out'))
    obtain ⟨s, hs1, rfl⟩ := List.mem_map.mp hom
    obtain ⟨hs2, hs3⟩ := List.mem_filter.mp hs1
    obtain ⟨hsl, hsc⟩ := sets_choose V hV s hs2
    obtain ⟨s', hs', rfl⟩ := List.mem_map.mp hsc
    have hcl : (castL c).length = k := by unfold castL; rw [List.length_map]; exact (choose_len _ _ _ hcm).1
    by_cases heq : castL s' = castL c
    · rw [heq]
    · exfalso
      have hlt : ltR (rowOf N M (castL c)) (rowOf N M (castL s')) = false := by
        rcases List.mem_cons.mp ht' with e | h
        · exact absurd (congrArg (fun x : Row => x.2.1) e).symm heq
        · exact SrtO.srtd_head hs _ h
      have hshort : shortB a (M.map maskF) s' = true := by rw [short_eq hV hM hN hs2]; exact hs3
      have : ltR (rowOf N M (castL c)) (rowOf N M (castL s')) = true := by
        refine row_lt ?_
        show ((castL c).length : Int) < ((castL s').length : Int) ∨ ((castL c).length : Int) = ((castL s').length : Int) ∧ HT.lexLt (castL c) (castL s') = true
        by_cases h1 : (castL s').length < k
        · have := hb1 _ h1 s' hs'
          rw [hshort] at this
          cases this
        · by_cases h2 : (castL s').length = k
          · right
            refine ⟨by rw [hcl, h2], ?_⟩
            rw [h2] at hs'
            obtain ⟨i', hi', e⟩ := List.mem_iff_getElem.mp hs'
            have e' : (choose (List.range V) k)[i']? = some s' := by rw [List.getElem?_eq_getElem hi', e]
            have hne : i' ≠ i := fun z => by
              rw [z, hi] at e'
              exact heq (by rw [Option.some.inj e'])
            have hge : ¬ i' < i := fun z => by
              have := hb2 i' s' z e'
              rw [hshort] at this
              cases this
            have hinc := choose_lt V hV k (by omega)
            unfold incr at hinc
            have hil := (List.getElem?_eq_some_iff.mp hi).1
            have := List.all_eq_true.mp (List.all_eq_true.mp hinc i (List.mem_range.mpr (by rw [List.length_map]; exact hil))) i' (List.mem_range.mpr (by rw [List.length_map]; exact hi'))
            rw [decide_eq_true (by omega), Bool.not_true, Bool.false_or] at this
            have g1 : ((choose (List.range V) k).map castL).getD i [] = castL c := by rw [List.getD_eq_getElem?_getD, List.getElem?_map, hi]; rfl
            have g2 : ((choose (List.range V) k).map castL).getD i' [] = castL s' := by rw [List.getD_eq_getElem?_getD, List.getElem?_map, e']; rfl
            rw [g1, g2] at this
            exact this
          · left
            rw [hcl]
            omega
      rw [hlt] at this
      cases this
end K60
/-! What the law itself asks. -/
namespace K60
open PySem L2
theorem hu4 {k : Nat} {A : Around} (hr : Room k A) : A.units + 4 < cLine := by have := hr.un; omega
section
variable {K : PySem.W.Frag} {σ : L2.St} {H : Hp} {t ta' tb te : TE}
theorem op_draw {ta : TA} {g : Int → Int → V} {i : Int} {s l : Addr} {m : Nat} {Q : VK} (h : ∀ Q : List V → Hp → Prop, (∀ H2, Same H H2 → Q [.ref s, .int m] H2) → ta σ H Q) (hs : StS H s l) (h1 : 1 ≤ m) (h2 : m ≤ 1000000) (k : ∀ (d : Nat) H', d < m → Sb s H H' → StS H' s l → Q (g i d) H') : tOp (rI0 g) (tC (.int i)) (tCall spNext [] E0 ta) σ H Q :=
  nx_draw h hs h1 h2 fun d H' hd sb st => ⟨i, d, rfl, rfl, k d H' hd sb st⟩
theorem nx_setR {i : Nat} {u : TS} {D : Ends} {g : List PyData → Prop} {R : List PyData → PyData → Prop} {ta : TA} {ds : List PyData} (ha : EvA ta σ H ds) (hg : g ds) (k : ∀ d v H', R ds d → Same H H' → Dt H' v d → u D (σ.set i (some v)) H') : tSeq (tAsg (tCall (spR g R) [] E0 ta) (gName i)) u D σ H :=
  ha.go fun vs H2 s2 hv => by
    rw [List.append_nil]
    exact ⟨ds, hg, hv, fun d v H3 hr s3 hd => k d v H3 hr (s2.trans s3) hd⟩
theorem ev_neB {i j : Bool} (ha : Ev ta' σ H (.bool i)) (hb : Ev tb σ H (.bool j)) : Ev (tOp rNe ta' tb) σ H (.bool (i != j)) :=
  ev_op ha hb fun x y H1 Q s hx hy q => by
    rw [hx.b, hy.b]
    refine ⟨rfl, ?_⟩
    have : (!decide (V.bl i = V.bl j)) = (i != j) := by cases i <;> cases j <;> decide
    rw [this]
    exact q _ _ (Same.refl _) (.bl _)
theorem nx_forSets {i n : Nat} {g : TG} {tb u : TS} {D : Ends} (hn : n ≤ 3) (hi : σ[i]? = some (some (.int (n : Nat)))) (k : ∀ q ys H1, Same H H1 → H1 q = some (.lst ys) → DtA H1 ys ((setsF n).map tI) → ∃ Pv : Nat → L2.St → Hp → Prop, Pv 0 σ H1 ∧ (∀ i σ' H', Pv i σ' H' → H' q = some (.lst ys)) ∧
    (∀ i x σ' H', ys[i]? = some x → Pv i σ' H' → ∀ D' : Ends, D'.nx = Pv (i + 1) → D'.rt = D.rt → g x σ' H' fun σ2 H2 => tb D' σ2 H2) ∧ ∀ σ' H', Pv ys.length σ' H' → u D σ' H') : tSeq (tFor (iList K (tCall spSets [] E0 (tCons (tVar i) tNil))) g tb) u D σ H :=
  ⟨_, hi, n, rfl, hn, fun q H1 s1 hq => by
    obtain ⟨ys, h1, h2⟩ := hq
    obtain ⟨Pv, p0, pl, ps, pd⟩ := k q ys H1 s1 h1 h2
    refine ⟨q, rfl, ⟨ys, SqL.of h1⟩, for_it (D := { D with nx := u D }) walk_list Pv p0 (fun i σ' H' _ p => SqL.of (pl i σ' H' p)) (fun i x σ' H' H'' hi p y => ?_) pd⟩
    obtain ⟨rfl, hx⟩ := y
    exact ps i x σ' H'' hx p _ rfl rfl⟩
theorem ev_sorted0 {p : Addr} {ys : List V} {rs : List Row} {o : Row} (hp : H p = some (.lst ys)) (hd : DtA H ys (rs.map tRow)) (ht : EvP t σ H (.ref p)) (h : ∀ out : List Row, out.Perm rs → SrtO.Srtd ltR out → ∃ o', out = o :: o') : Ev (tOp (rIxL K) (tCB (rSortedR K) (tCons t tNil)) (tC (.int 0))) σ H (tRow o) := fun H1 Q s q =>
  ht H1 _ s fun H2 s2 => ⟨p, ys, rs, rfl, SqL.of (s2 _ _ (s _ _ hp)), (hd.s s).s s2, fun zs out r hperm hs hr hz => by
    obtain ⟨o', rfl⟩ := h out hperm hs
    have sn := same_new (o := .lst zs) hr
    obtain ⟨v, hv, dv⟩ := hz.at (i := 0) (d := tRow o) rfl
    exact ⟨r, zs, ((0 : Nat) : Int), v, rfl, rfl, SqL.of upd_same, atI_nat hv, q v _ (s2.trans sn) dv⟩⟩
end
theorem two_shaped (c h : List Int) : SeqAt.shaped (.tuple [tI c, tI h]) = true := by
  have h1 := tI_depth c
  have h2 := tI_depth h
  unfold SeqAt.shaped
  rw [Bool.and_eq_true, decide_eq_true_eq]
  constructor
  · show (PyData.canLay0 (tI c) && (PyData.canLay0 (tI h) && true)) = true
    have e1 : PyData.canLay0 (tI c) = true := ints_lay c
    have e2 : PyData.canLay0 (tI h) = true := ints_lay h
    rw [e1, e2]; rfl
  · simp only [PyData.depth, PyData.depthAll] at h1 h2 ⊢
    omega
theorem two_eqv (c h : List Int) : PyData.eqv (.tuple [tI c, tI h]) (.tuple [tI c, tI h]) = true := by
  show (PyData.eqv (tI c) (tI c) && (PyData.eqv (tI h) (tI h) && true)) = true
  rw [eqv_tI, eqv_tI]
  simp
theorem held_eq {M : List (List Int)} {N : Nat} (h : M.length = N) (c : List Int) : heldF M c = heldN N M c := by
  unfold heldF heldN
  rw [h]
theorem menus_sets {V N : Nat} {r : List (List Int × List Int)} {a : List Int} (h1 : 1 ≤ V) (h3 : V ≤ 3) : ∀ m ∈ menusF V N r a, m ∈ setsF V := fun m hm => by
  obtain ⟨b, _, rfl⟩ := List.mem_map.mp hm
  exact fil_sets V (v3 h1 h3) _
def spLaw (K : PySem.W.Frag) : Sp := fun vs H Q _ => ∃ (a : Addr) (ns : List Int), vs = [.ref a] ∧ SqL K H a (ns.map V.int) ∧ ns.length ≤ 63 ∧ ∀ H', Q (.bl true) H'
end K60
namespace K60
theorem sets_in : ∀ V, V = 1 ∨ V = 2 ∨ V = 3 → ∀ s ∈ setsF V, ∀ n ∈ s, 0 ≤ n ∧ n < (V : Int) := by
  rintro V (rfl | rfl | rfl) <;> decide
end K60
namespace K60
open PySem L2
section
variable {P : Program} {w : World} {K : PySem.W.Frag} {mg : Str → Option Value} {base : Heap}
abbrev N_law : List Str := ["_law_script", "_law_stream_here", "_law_variants", "_law_buckets", "_law_rule_here", "_law_allocation", "_law_menus", "_law_told", "_law_evidence", "_law_due", "_law_actual", "_law_rows", "_law_chosen", "_law_held", "_law_k", "_law_variant"]
theorem sc_law : FnScope N_law ["_law_script"] (defScope (top 64)) := ⟨rfl, rfl, rfl, by decide +kernel, rfl, by decide +kernel, by decide +kernel⟩
theorem ok_law {f : Addr} {fd : FuncData} (F : Fun K "law" "law" (top 64) f fd) (T : Txt mg) (G__law_stream : Has P w K mg base 1 "_law_stream" ["_law_script"] (spStream K)) (G__law_next : Has P w K mg base 1 "_law_next" ["_law_stream_here", "_law_many"] spNext) (G__law_rule : Has P w K mg base 3 "_law_rule" ["_law_stream_here", "_law_variants", "_law_buckets", "_law_most"] spRule) (G__law_asked : Has P w K mg base 2 "_law_asked" ["_law_stream_here", "_law_rule_here", "_law_variants", "_law_buckets"] spAsked) (G_allowed_variants : Has P w K mg base 10 "allowed_variants" ["variants", "buckets", "rule", "allocation"] (spD fMenus)) (G_why_none : Has P w K mg base 10 "why_none" ["variants", "buckets", "rule", "allocation"] (spR gWhy rWhy)) (G__law_turned : Has P w K mg base 2 "_law_turned" ["_law_stream_here", "_law_evidence", "_law_variants", "_law_buckets"] spTurned) (G__law_is_right : Has P w K mg base 3 "_law_is_right" ["_law_rule_here", "_law_menus", "_law_allocation", "_law_evidence"] spRight) (G_accepts_none : Has P w K mg base 10 "accepts_none" ["variants", "buckets", "rule", "allocation", "evidence"] spAcc) (G__law_sets : Has P w K mg base 1 "_law_sets" ["_law_many"] spSets) (G__law_continuing : Has P w K mg base 3 "_law_continuing" ["_law_rule_here", "_law_allocation", "_law_variants", "_law_buckets"] spCont) : FnOk P w K mg base CX0 11 f fd ["_law_script"] (spLaw K) := by
  have nd := sc_law.nd
  refine F.ok sc_law (fun vs H Q E h => ?_) fun cdv A outer s H vs Q E hr h => ?_
  · obtain ⟨a, ns, rfl, _⟩ := h; rfl
  · refine ⟨_, (pss_cons (ps_set (i := 1) nd rfl (Or.inl rfl) (pe_has G__law_stream hr (by decide) (pa_cons (pv 0) pa_nil))) (pss_cons (ps_set (i := 2) nd rfl (Or.inl rfl) (pe_op op_add pe_int (pe_has G__law_next hr (by decide) (pa_cons (pv 1) (pa_cons pe_int pa_nil))))) (pss_cons (ps_set (i := 3) nd rfl (Or.inl rfl) (pe_has G__law_next hr (by decide) (pa_cons (pv 1) (pa_cons pe_int pa_nil)))) (pss_cons (ps_set (i := 4) nd rfl (Or.inl rfl) (pe_has G__law_rule hr (by decide) (pa_cons (pv 1) (pa_cons (pv 2) (pa_cons (pv 3) (pa_cons pe_int pa_nil)))))) (pss_cons (ps_set (i := 5) nd rfl (Or.inr rfl) (pe_has G__law_asked hr (by decide) (pa_cons (pv 1) (pa_cons (pv 4) (pa_cons (pv 2) (pa_cons (pv 3) pa_nil)))))) (pss_cons (ps_set (i := 6) nd rfl (Or.inr rfl) (pe_has G_allowed_variants hr (by decide) (pa_cons (pv 2) (pa_cons (pv 3) (pa_cons (pv 4) (pa_cons (pv 5) pa_nil)))))) (pss_cons (ps_set (i := 7) nd rfl (Or.inl rfl) (pe_has G_why_none hr (by decide) (pa_cons (pv 2) (pa_cons (pv 3) (pa_cons (pv 4) (pa_cons (pv 5) pa_nil)))))) (pss_cons (ps_set (i := 8) nd rfl (Or.inl rfl) (pe_has G__law_turned hr (by decide) (pa_cons (pv 1) (pa_cons (pv 7) (pa_cons (pv 2) (pa_cons (pv 3) pa_nil)))))) (pss_cons (ps_set (i := 9) nd rfl (Or.inl rfl) (pe_has G__law_is_right hr (by decide) (pa_cons (pv 4) (pa_cons (pv 6) (pa_cons (pv 5) (pa_cons (pv 8) pa_nil)))))) (pss_cons (ps_set (i := 10) nd rfl (Or.inl rfl) (pe_has G_accepts_none hr (by decide) (pa_cons (pv 2) (pa_cons (pv 3) (pa_cons (pv 4) (pa_cons (pv 5) (pa_cons (pv 8) pa_nil))))))) (pss_cons (ps_if (PW.pt (pw_or (pt_not (pt_val (pek_isi (K := K) rfl T.isi T.bool PyProof.Rows.boot_bool (pv 10)))) (pw_or1 (pt_cmpR op_ne (pv 10) (pv 9) (nomark _))))) (pss_one (ps_ret pe_bl)) pss_nil) (pss_cons (ps_if (PW.pt (pw_and (ptk_truth (K := K) rfl (pv 9) (fun _ => rfl)) (pw_and1 (ptk_truth (K := K) rfl (pe_has G__law_continuing hr (by decide) (pa_cons (pv 4) (pa_cons (pv 5) (pa_cons (pv 2) (pa_cons (pv 3) pa_nil))))) (fun _ => rfl))))) (pss_one (ps_ret pe_bl)) pss_nil) (pss_cons (ps_if (PW.pt (pw_or (pt_cmp (pc_isN (pv 7))) (pw_or1 (pt_cmpR op_eq (pe_ix (ixk_tup (K := K) rfl) (pv 7) pe_int (fun _ _ => rfl)) pe_str (nomark _))))) (pss_one (ps_ret pe_bl)) pss_nil) (pss_cons (ps_set (i := 11) nd rfl (Or.inl rfl) (pe_lst pa_nil)) (pss_cons (ps_for PassesOwn.never rfl (pik_list (K := K) rfl (pe_has G__law_sets hr (by decide) (pa_cons (pv 2) pa_nil))) (pg_name (i := 12) nd rfl (Or.inr rfl)) (pss_cons (ps_set (i := 13) nd rfl (Or.inl rfl) (pe_callTy (callk_tupF (K := K) rfl) (by rfl) T.tuple PyProof.Rows.boot_tuple (pa_cons (pe_lc (own := [("_law_k", 14)]) (g := (gName 14)) rfl nd (pi_range1 (by rfl) T.range (pa_cons (pv 3) pa_nil)) (blkOk_by (N := N_law) (sc := defScope (top 64)) (by decide +kernel)) (fun _ _ _ _ _ => (pg_name (i := 14) nd rfl (Or.inl rfl))) (fun _ _ _ _ _ => (pts_one (pt_val (pe_callB (crk_all (K := K) rfl rfl) (by rfl) T.all PyProof.Rows.boot_all (pa_cons (pe_lc (own := [("_law_variant", 15)]) (g := (gName 15)) (tt := tYes) rfl nd (pik_tup (K := K) rfl (pe_ix (ixk_tup (K := K) rfl) (pv 6) (pv 14) (fun _ _ => rfl))) (blkOk_by (N := N_law) (sc := relab (lcSc (xArg (xAsg (forAt (bodyAt 64 14) 0))))) (by decide +kernel)) (fun _ _ _ _ _ => (pg_name (i := 15) nd rfl (Or.inl rfl))) (fun _ _ _ _ _ => pts_nil) (fun _ _ _ _ _ => (pe_cmpR (opk_in (K := K) rfl) (pv 15) (pv 12) (by with_unfolding_all rfl)))) pa_nil))))) (fun _ _ _ _ _ => (pv 14))) pa_nil))) (pss_one (ps_if (pt_cmpR op_gt (pe_callB (call_lenk (K := K) rfl) (by rfl) T.len PySem.boot_len (pa_cons (pv 13) pa_nil)) (pe_callB (crk_sum (K := K) rfl rfl) (by rfl) T.sum PyProof.Rows.boot_sum (pa_cons (pe_lc (own := [("_law_variant", 15)]) (g := (gName 15)) (tt := tYes) rfl nd (pik_tup (K := K) rfl (pv 12)) (blkOk_by (N := N_law) (sc := defScope (top 64)) (by decide +kernel)) (fun _ _ _ _ _ => (pg_name (i := 15) nd rfl (Or.inl rfl))) (fun _ _ _ _ _ => pts_nil) (fun _ _ _ _ _ => (pe_ix (ixk_tup (K := K) rfl) (pv 5) (pv 15) (fun _ _ => rfl)))) pa_nil)) (nomark _)) (pss_one (ps_expr (pe_bm PySem.F.plainAttrs_list PySem.F.slot_list_append PySem.F.type_list_append mt_append (pv 11) (pa_cons (pe_tupF (pa_cons (pe_callB (call_lenk (K := K) rfl) (by rfl) T.len PySem.boot_len (pa_cons (pv 12) pa_nil)) (pa_cons (pv 12) (pa_cons (pv 13) pa_nil)))) pa_nil)))) pss_nil)))) (pss_one (ps_ret (pe_cmpR (opk_eqD (K := K) rfl hr.units) (pe_slice sl_tupF (pv 7) (po_some pe_int) po_none) (pe_slice sl_tupF (pe_ix (ixk_list (K := K) rfl) (pe_callB (cr_sortedR (hu4 hr)) (by rfl) T.sorted PyProof.Rows.boot_sorted (pa_cons (pv 11) pa_nil)) pe_int (fun _ _ => rfl)) (po_some pe_int) po_none) (nomark _))))))))))))))))))), ?_⟩
    obtain ⟨a0, ns, rfl, hS, hlen, k⟩ := h
    refine nx_setG ⟨_, rfl, a0, ns, rfl, hS, fun s sl H1 s1 hsn st1 => ?_⟩
    refine nx_setG (op_draw (m := 3) (arg2 rfl ev_int) st1 (by decide) (by decide) fun d2 H2 hd2 sb2 st2 => ?_)
    have eV : (1 + (d2 : Int)) = ((1 + d2 : Nat) : Int) := by omega
    rw [eV]
    have hV1 : 1 ≤ 1 + d2 := by omega
    have hV3 : 1 + d2 ≤ 3 := by omega
    generalize 1 + d2 = V at hV1 hV3
    refine nx_setG (nx_draw (m := 5) (arg2 rfl ev_int) st2 (by decide) (by decide) fun N H3 hN5 sb3 st3 => ?_)
    have hN : N ≤ 4 := by omega
    refine nx_setG ⟨_, rfl, _, rfl, _, rfl, s, sl, V, N, rfl, hV1, hV3, hN, st3, fun r vr H4 hr1 hr5 sb4 st4 dr => ?_⟩
    refine nx_setG ⟨_, rfl, _, rfl, _, rfl, _, rfl, s, sl, vr, r, V, N, rfl, hV1, hV3, hN, hr1, hr5, st4, dr, fun a va H5 ha sb5 st5 da => ?_⟩
    have dr5 := dr.k (sb5.kp st4)
    have hs : Sz V N := ⟨hV1, by omega, by omega⟩
    have hMz : (menusF V N r a).length = N := by unfold menusF; rw [List.length_map, List.length_range]
    have hMok := menusF_ok (V := V) (N := N) (r := r) (a := a) (by omega) (by omega)
    refine nx_set (e := tM (menusF V N r a)) (ev_call (eva_cons (ev_var rfl (.int _)) (eva_cons (ev_var rfl (.int _)) (eva_cons (ev_var rfl dr5) (eva_cons (ev_var rfl da) eva_nil)))) ⟨r, a, V, N, rfl, hr1, ha, hs, rfl⟩) fun vm H6 s6 dm => ?_
    refine nx_setR (eva_cons (ev_var rfl (.int _)) (eva_cons (ev_var rfl (.int _)) (eva_cons (ev_var rfl (dr5.s s6)) (eva_cons (ev_var rfl (da.s s6)) eva_nil)))) ⟨r, a, V, N, rfl, hr1, ha, hs, hV3⟩ fun td vt H7 htd s7 dt => ?_
    obtain ⟨r', a', V', N', ee, htold⟩ := htd
    have hTold : Told V N r a td := by
      injection ee with e1 ee
      injection ee with e2 ee
      injection ee with e3 ee
      injection ee with e4 _
      injection e1 with e1
      injection e2 with e2
      injection e3 with e3
      injection e4 with e4
      have e1 : V = V' := by omega
      have e2 : N = N' := by omega
      subst e1 e2
      rw [tR_inj e3, ints_inj e4]
      exact htold
    have st7 := (st5.s s6).s s7
    refine nx_setG ⟨_, rfl, _, rfl, _, rfl, _, rfl, s, sl, vt, V, N, td, rfl, hV3, hN, st7, dt, ?_, fun e ve H8 sb8 st8 hve => ?_⟩
    · rcases hTold with rfl | ⟨i, j, b, rfl⟩ | ⟨c, hc, rfl⟩
      · exact .inl rfl
      · exact .inr (.inr ⟨"needless", .i i, .i j, .i b, rfl, True.intro, True.intro, True.intro⟩)
      · refine .inr (.inl ⟨"short", .t (castL c), .t (heldF (menusF V N r a) (castL c)), rfl, ?_, ?_⟩)
        · obtain ⟨kk, i, hk, hi, _⟩ := hc
          have := (choose_len _ _ _ (List.mem_of_getElem? hi)).1
          show (castL c).length ≤ 500
          unfold castL
          rw [List.length_map]
          omega
        · show (heldF (menusF V N r a) (castL c)).length ≤ 500
          unfold heldF
          rw [List.length_map]
          have := List.length_filter_le (fun b => ((menusF V N r a).getD b []).all fun v => (castL c).contains v) (List.range (menusF V N r a).length)
          rw [List.length_range] at this
          omega
    have kp8 := sb8.kp st7
    have dr8 : Dt H8 vr (tR r) := ((dr5.s s6).s s7).k kp8
    have da8 : Dt H8 va (tI a) := ((da.s s6).s s7).k kp8
    have dm8 : Dt H8 vm (tM (menusF V N r a)) := (dm.s s7).k kp8
    have dt8 : Dt H8 vt td := dt.k kp8
    have hal := ha.1
    refine nx_setG ⟨_, rfl, _, rfl, _, rfl, _, rfl, r, a, V, N, menusF V N r a, [vr, vm, va], ve, e, rfl, .cons dr8 (.cons dm8 (.cons da8 .nil)), hr1, by omega, hMok, hMz, hve, fun H9 s9 => ?_⟩
    refine nx_setG ⟨_, rfl, _, rfl, _, rfl, _, rfl, _, rfl, r, a, V, N, [.int (V : Nat), .int (N : Nat), vr, va], ve, e, rfl, .cons (.int _) (.cons (.int _) (.cons (dr8.s s9) (.cons (da8.s s9) .nil))), hr1, ha, hs, hve.s s9, fun H10 s10 => ?_⟩
    have s810 := s9.trans s10
    have hright := right_ends (e := e) ha hMz
    generalize hb : evB r a (menusF V N r a) N e = b at hright
    refine nx_sif (b := false) ((evt_or (evt_not (evt_b (ev_isBool (ev_var rfl (.bl _))))) fun _ => evt_t (ev_neB (ev_var rfl (.bl _)) (ev_var rfl (.bl _)))).eq (by cases b <;> rfl)) ff fun _ H11 s11 => ?_
    have dr11 := (dr8.s s810).s s11
    have da11 := (da8.s s810).s s11
    have dm11 := (dm8.s s810).s s11
    have dt11 := (dt8.s s810).s s11
    have fin : ∀ H', Same H11 H' → (tSeq (tIfS (tOr (tB (tIsN (tVar 7))) (tTest (tOp rEq (tOp (rIxT K) (tVar 7) (tC (.int 0))) (tC (.str "needless"))))) (tRet (tC (.bl true))) tNext) (tSeq (tAsg (tLst tNil) (gName 11)) (tSeq (tFor (iList K (tCall spSets [] E0 (tCons (tVar 2) tNil))) (gName 12) (tSeq (tAsg (tCB (rTupF K) (tCons (tLc (iRng1 (tCons (tVar 3) tNil)) (gName 14) (tB (tCB (rAll K) (tCons (tLc (iTup K (tOp (rIxT K) (tVar 6) (tVar 14))) (gName 15) tYes (tOp (rIn K false) (tVar 15) (tVar 12)) [15]) tNil))) (tVar 14) [14]) tNil)) (gName 13)) (tIfS (tTest (tOp (rI0 fun i j => .bl (decide (j < i))) (tCB (fun xs H Q => ∃ p ys, xs = [L2.V.ref p] ∧ (SqL K H p ys ∨ SqT K H p ys) ∧ Q (L2.V.int ys.length) H) (tCons (tVar 13) tNil)) (tCB (rSum K) (tCons (tLc (iTup K (tVar 12)) (gName 15) tYes (tOp (rIxT K) (tVar 5) (tVar 15)) [15]) tNil)))) (tDrop (tBM K "list" rAppend (tVar 11) (tCons (tTupF (tCons (tCB (fun xs H Q => ∃ p ys, xs = [L2.V.ref p] ∧ (SqL K H p ys ∨ SqT K H p ys) ∧ Q (L2.V.int ys.length) H) (tCons (tVar 12) tNil)) (tCons (tVar 12) (tCons (tVar 13) tNil)))) tNil))) tNext))) (tRet (tOp (rEqD K) (tSl rSlF (tVar 7) (tPart (tC (.int 1))) tNoPart) (tSl rSlF (tOp (rIxL K) (tCB (rSortedR K) (tCons (tVar 11) tNil)) (tC (.int 0))) (tPart (tC (.int 1))) tNoPart)))))) { nx := fun _ H' => Q .non H', rt := Q } [some (.ref a0), some (.ref s), some (.int (V : Nat)), some (.int (N : Nat)), some vr, some va, some vm, some vt, some ve, some (.bl b), some (.bl b), none, none, none, none, none] H' := by
      intro H12 s12
      have da12 := da11.s s12
      have dm12 := dm11.s s12
      have dt12 := dt11.s s12
      rcases hTold with rfl | ⟨i, j, bb, rfl⟩ | ⟨c, hc, rfl⟩
      · exact nx_sif (b := true) ((evt_or (b := true) (evt_b (ev_isN (ev_var rfl dt12))) fun h => by cases h).eq rfl) (fun _ H13 s13 => nx_ret ev_bl fun v H14 s14 hv => by rw [hv.b]; exact k H14) fun h => by cases h
      · exact nx_sif (b := true) ((evt_or (evt_b (ev_isN (ev_var rfl dt12))) fun _ => evt_t (ev_eqS (ev_ixc (n := 0) (d := .str "needless") (ev_var rfl dt12) ev_int rfl rfl) ev_str rfl)).eq (by show isStr ("needless" : Str) (.str "needless") = true; decide +kernel)) (fun _ H13 s13 => nx_ret ev_bl fun v H14 s14 hv => by rw [hv.b]; exact k H14) fun h => by cases h
      refine nx_sif (b := false) ((evt_or (evt_b (ev_isN (ev_var rfl dt12))) fun _ => evt_t (ev_eqS (ev_ixc (n := 0) (d := .str "short") (ev_var rfl dt12) ev_int rfl rfl) ev_str rfl)).eq (by show isStr ("needless" : Str) (.str "short") = false; decide +kernel)) ff fun _ H13 s13 => ?_
      refine nx_setL (ds := []) (evl_lst eva_nil (Nat.zero_le _)) fun R H14 s14 hR hR14 => ?_
      have hR14 := Lv.ints (ns := []) hR14
      refine nx_forSets (n := V) hV3 rfl fun q ys H15 s15 hq hqd => ?_
      have s1215 := (s13.trans s14).trans s15
      have da15 := da12.s s1215
      have dm15 := dm12.s s1215
      have dt15 := dt12.s s1215
      have hR15 := s15 _ _ hR14
      have hysl : ys.length = (setsF V).length := by rw [hqd.len, List.length_map]
      have hqR : q ≠ R := by
        intro z
        rw [z, hR15] at hq
        cases hq
        rw [setsF_len] at hysl
        have := Nat.two_pow_pos V
        have hz0 : (0 : Nat) = 2 ^ V := hysl
        omega
      refine ⟨fun i σ' H' => ∃ x12 x13, σ' = [some (.ref a0), some (.ref s), some (.int (V : Nat)), some (.int (N : Nat)), some vr, some va, some vm, some vt, some ve, some (.bl b), some (.bl b), some (.ref R), x12, x13, none, none] ∧ Sb R H15 H' ∧ ∃ zs, H' R = some (.lst zs) ∧ DtA H' zs (((((setsF V).take i).filter (shortS a N (menusF V N r a))).map (rowOf N (menusF V N r a))).map tRow), ⟨_, _, rfl, Sb.refl _ _, [], hR15, .nil⟩, fun i σ' H' ⟨_, _, _, sb, _⟩ => sb _ _ hqR hq, ?_, ?_⟩
      · rintro i x σ' H16 hx ⟨x12, x13, rfl, sb16, zs, hz1, hz2⟩ D hnx hrt
        have kp16 := sb16.kpl hR15
        obtain ⟨dd, e1, dx⟩ := (hqd.k kp16).of hx
        rw [List.getElem?_map] at e1
        cases e2 : (setsF V)[i]? with
        | none => rw [e2] at e1; cases e1
        | some ss =>
          rw [e2] at e1
          cases e1
          have hss := List.mem_of_getElem? e2
          have hsl := (sets_choose V (v3 hV1 hV3) ss hss).1
          have da16 := da15.k kp16
          have dm16 := dm15.k kp16
          show tSeq _ _ _ _ _
          refine nx_set (e := tI (heldN N (menusF V N r a) ss)) (ev_tupL (evl_filN (n := N) (fun kk => ((menusF V N r a).getD kk []).all fun v => ss.contains v) (eva_cons (ev_var rfl (.int _)) eva_nil) (by simp) (by omega) (fun _ => rfl) (fun kk H' hk s' => evt_b ((ev_all (evl_mapB (fun v => ss.contains v) (Ev.eq (ev_ixM (b := (kk : Int)) (ev_var rfl (dm16.s s')) (ev_var rfl (.int _)) (by omega) (by rw [hMz]; omega)) (by rw [Int.toNat_natCast])) (by have := (hMok.2 _ (getDM_mem (M := menusF V N r a) (b := (kk : Int)) (by omega) (by rw [hMz]; omega))).1; rw [Int.toNat_natCast] at this; omega) (fun _ => rfl) fun v H'' _ s'' => ev_in (ev_var rfl (.int _)) (ev_var rfl (dx.s (s'.trans s''))))).eq (by rw [all_idI]))) fun kk H' hk s' => ev_var rfl (.int _))) fun vh H17 s17 dh => ?_
          have hin : ∀ n ∈ ss, 0 ≤ n ∧ n < a.length := fun n hn => by
            rw [hal]
            exact sets_in V (v3 hV1 hV3) ss hss n hn
          refine nx_if (b := shortS a N (menusF V N r a) ss) ((evt_t (ev_ib (g := fun i j => decide (j < i)) (ev_len (ev_var rfl dh)) (ev_sumL (evl_mapI (fun v => a.getD v.toNat 0) (ev_var rfl (dx.s s17)) (by omega) (fun _ => rfl) fun n H' hn s' => ev_ixI (ev_var rfl ((da16.s s17).s s')) (ev_var rfl (.int _)) (hin n hn).1 (hin n hn).2)))).eq (by rw [List.length_map]; rfl)) (fun e3 H18 s18 => ?_) fun e3 H18 s18 => ?_
          · have hz18 := s18 _ _ (s17 _ _ hz1)
            have hzl : zs.length ≤ 100 := by
              have := hz2.len
              rw [List.length_map, List.length_map] at this
              have h2 := List.length_filter_le (shortS a N (menusF V N r a)) ((setsF V).take i)
              rw [List.length_take, setsF_len] at h2
              have : (2 : Nat) ^ V ≤ 8 := by
                rcases v3 hV1 hV3 with rfl | rfl | rfl <;> decide
              omega
            refine nx_app (e := tRow (rowOf N (menusF V N r a) ss)) rfl hz18 ((ev_tup (eva_cons (ev_len (ev_var rfl (dx.s (s17.trans s18)))) (eva_cons (ev_var rfl (dx.s (s17.trans s18))) (eva_cons (ev_var rfl (dh.s s18)) eva_nil))) (by show 3 ≤ sizeLine; decide)).eq (by rw [List.length_map]; rfl)) (by omega) fun v H19 s19 hv => ?_
            rw [hnx]
            have k2 : KpT H19 (upd H19 R (.lst (zs ++ [v]))) := KpT.lst (s19 _ _ hz18)
            refine ⟨_, _, rfl, fun bb o hb ho => ?_, zs ++ [v], upd_same, ?_⟩
            · rw [upd_ne hb]
              exact s19 _ _ (s18 _ _ (s17 _ _ (sb16 _ _ hb ho)))
            · rw [List.take_add_one, e2, List.filter_append, Option.toList_some, List.filter_cons, e3, if_pos rfl, List.filter_nil, List.map_append, List.map_append]
              exact ((((hz2.s s17).s s18).s s19).k k2).app (.cons (hv.k k2) .nil)
          · show D.nx _ H18
            rw [hnx]
            refine ⟨_, _, rfl, sb16.trans (Sb.of (s17.trans s18)), zs, s18 _ _ (s17 _ _ hz1), ?_⟩
            rw [List.take_add_one, e2, List.filter_append, Option.toList_some, List.filter_cons, e3, if_neg Bool.false_ne_true, List.filter_nil, List.append_nil]
            exact (hz2.s s17).s s18
      · rintro σ' H16 ⟨x12, x13, rfl, sb16, zs, hz1, hz2⟩
        have hz3 : DtA H16 zs ((rowsF V N a (menusF V N r a)).map tRow) := by
          rw [hysl, List.take_length] at hz2
          exact hz2
        have dt16 := dt15.k (sb16.kpl hR15)
        refine nx_ret (e := .bool true) ((ev_eqD (d := .tuple [tI (castL c), tI (heldF (menusF V N r a) (castL c))]) (e := .tuple [tI (castL c), tI (heldF (menusF V N r a) (castL c))]) ((ev_sl (ev_var rfl dt16) (evo_some ev_int) evo_none).eq (by rw [cut1])) ((ev_sl (ev_sorted0 (o := rowOf N (menusF V N r a) (castL c)) hz1 hz3 (evp_var rfl) fun out hp hs => first_row hV1 hV3 (menus_sets hV1 hV3) hMz hc hp hs) (evo_some ev_int) evo_none).eq (by rw [cut1, held_eq hMz]; rfl)) (two_shaped _ _) (two_shaped _ _)).eq (by rw [two_eqv])) fun v H17 s17 hv => ?_
        rw [hv.b]
        exact k H17
    refine ⟨_, rfl, b, rfl, ?_⟩
    cases b with
    | false => exact iteF (iteF (fin H11 (Same.refl _)))
    | true =>
      refine iteT ⟨_, rfl, _, rfl, _, rfl, _, rfl, ?_⟩
      refine ⟨r, a, V, N, .cons dr11 (.cons da11 (.cons (.int _) (.cons (.int _) .nil))), hr1, hr5, ha, hV1, hV3, hN, hright rfl, fun q H12 s12 hq => ?_⟩
      exact ⟨false, .inl ⟨[], SqL.of hq, rfl⟩, iteF (fin H12 s12)⟩
end
end K60
namespace K60
open PySem L2
def At (K : PySem.W.Frag) (x : Str) (st : Stmt) : Prop := ∃ (f : Addr) (od an : Option Addr) (sl : Array (Option Value)) (oc kV dc pm cd ct : Value), PySem.W.nsIn K mainGlobals x = some (some (.ref f)) ∧
  K.lookup f = some ⟨oc, od, .func (PySem.W.fnOf x x (defArgs st) (defBody st) (defScope st) .none kV dc pm an cd ct), sl⟩ ∧ PySem.W.codeIn K cd x = true ∧ PySem.W.keepIn K (.ref f) = true
theorem at_mk {K : PySem.W.Frag} {x : Str} {st : Stmt} {f : Addr} {od an : Option Addr} {sl : Array (Option Value)} {oc kV dc pm cd ct : Value} (a : PySem.W.nsIn K mainGlobals x = some (some (.ref f)))
    (l : K.lookup f = some ⟨oc, od, .func (PySem.W.fnOf x x (defArgs st) (defBody st) (defScope st) .none kV dc pm an cd ct), sl⟩) (c : PySem.W.codeIn K cd x = true) (k : PySem.W.keepIn K (.ref f) = true) : At K x st := ⟨f, od, an, sl, oc, kV, dc, pm, cd, ct, a, l, c, k⟩
theorem at_has {P : Program} {w : World} {K : PySem.W.Frag} {mg : Str → Option Value} {base h : Heap} {x : Str} {st : Stmt} {ps : List Str} {k : Nat} {sp : Sp} (A : At K x st) (X : K.In h) (G : h.Ns mainGlobals mg)
    (ok : ∀ (f : Addr) (fd : FuncData), Fun K x x st f fd → FnOk P w K mg base CX0 k f fd ps sp)
    (hb : ∀ (kV doc pm : Value) (an : Option Addr) (cdv ct : Value) (us : List Value), us.length = ps.length → bindArgs (PySem.W.fnOf x x (defArgs st) (defBody st) (defScope st) .none kV doc pm an cdv ct) ⟨us, []⟩ = pure (ps.zip us)) : Has P w K mg base k x ps sp := by
  obtain ⟨f, od, an, sl, oc, kV, dc, pm, cd, ct, a, l, c, kk⟩ := A
  have F := fun_mk l c kk
  exact ⟨f, _, ok f _ F, PySem.W.mg_of X G a, kk, F.binds hb⟩
theorem all_mk {l : PySem.W.OpenLaw} {w : World} {K : PySem.W.Frag} {h : Heap} {mg : Str → Option Value} {fa : Addr} (X : K.In h) (G : h.Ns mainGlobals mg) (hfa : mg "law" = some (.ref fa)) (T : Txt mg)
    (A_is_whole : At K "is_whole" (top 7))
    (A_is_between : At K "is_between" (top 8))
    (A_is_allocation : At K "is_allocation" (top 9))
    (A_is_assignment : At K "is_assignment" (top 11))
    (A_check_assignment : At K "check_assignment" (top 12))
    (A_check_variants : At K "check_variants" (top 13))
    (A_counts_of : At K "counts_of" (top 14))
    (A__law_shares : At K "_law_shares" (top 48))
    (A_allocation_of : At K "allocation_of" (top 15))
    (A_is_integer : At K "is_integer" (top 17))
    (A_is_pair : At K "is_pair" (top 29))
    (A_check_sizes : At K "check_sizes" (top 30))
    (A_are_pairs : At K "are_pairs" (top 31))
    (A_check_rule : At K "check_rule" (top 32))
    (A_goes_needlessly : At K "goes_needlessly" (top 33))
    (A__law_goes : At K "_law_goes" (top 55))
    (A_check_all : At K "check_all" (top 36))
    (A_is_allowed : At K "is_allowed" (top 37))
    (A_menus_of : At K "menus_of" (top 38))
    (A_allowed_variants : At K "allowed_variants" (top 39))
    (A_first_needless : At K "first_needless" (top 34))
    (A__law_first_leave : At K "_law_first_leave" (top 56))
    (A_mask_of : At K "mask_of" (top 19))
    (A_tally : At K "tally" (top 20))
    (A_first_small : At K "first_small" (top 21))
    (A_small_set : At K "small_set" (top 22))
    (A_why_none : At K "why_none" (top 40))
    (A_is_ascending : At K "is_ascending" (top 23))
    (A_shows_small : At K "shows_small" (top 24))
    (A_is_needless : At K "is_needless" (top 41))
    (A__law_is_row : At K "_law_is_row" (top 60))
    (A__law_is_short : At K "_law_is_short" (top 61))
    (A__law_is_right : At K "_law_is_right" (top 62))
    (A_accepts_none : At K "accepts_none" (top 42))
    (A__law_next : At K "_law_next" (top 45))
    (A__law_stream : At K "_law_stream" (top 44))
    (A__law_sets : At K "_law_sets" (top 59))
    (A__law_assignments : At K "_law_assignments" (top 47))
    (A__law_allocations : At K "_law_allocations" (top 46))
    (A__law_continuing : At K "_law_continuing" (top 58))
    (A__law_shuffled : At K "_law_shuffled" (top 51))
    (A__law_by_lists : At K "_law_by_lists" (top 52))
    (A__law_drawn_assignment : At K "_law_drawn_assignment" (top 53))
    (A__law_asked : At K "_law_asked" (top 57))
    (A__law_rule : At K "_law_rule" (top 54))
    (A__law_turned : At K "_law_turned" (top 63))
    (A_law : At K "law" (top 64))
    : ∃ fd : FuncData, (∀ (s : Shared) (v : Value), BindsTo s fd ⟨[v], []⟩ [("_law_script", v)]) ∧ ∀ base : Heap, K.In base → base.Ns mainGlobals mg → FnOk l.prog w K mg base CX0 11 fa fd ["_law_script"] (spLaw K) := by
  obtain ⟨f, od, an, sl, oc, kV, dc, pm, cd, ct, a, lk, c, kk⟩ := A_law
  have e := hfa.symm.trans (PySem.W.mg_of X G a)
  cases e
  refine ⟨PySem.W.fnOf "law" "law" (defArgs (top 64)) (defBody (top 64)) (defScope (top 64)) .none kV dc pm an cd ct, fun s v => .of_eq rfl, fun base _ _ => ?_⟩
  have H_is_whole : Has l.prog w K mg base 1 "is_whole" ["value"] spWhole := at_has A_is_whole X G (fun f fd F => ok_whole F T) fun _ _ _ _ _ _ us hl => match us, hl with | [_], _ => rfl
  have H_is_between : Has l.prog w K mg base 2 "is_between" ["value", "low", "high"] spBtw := at_has A_is_between X G (fun f fd F => ok_btw F T H_is_whole) fun _ _ _ _ _ _ us hl => match us, hl with | [_, _, _], _ => rfl
  have H_is_allocation : Has l.prog w K mg base 2 "is_allocation" ["value", "variants", "buckets"] (spD fAlloc) := at_has A_is_allocation X G (fun f fd F => ok_is_allocation F T H_is_whole) fun _ _ _ _ _ _ us hl => match us, hl with | [_, _, _], _ => rfl
  have H_is_assignment : Has l.prog w K mg base 3 "is_assignment" ["value", "variants", "buckets"] (spD fAsg) := at_has A_is_assignment X G (fun f fd F => ok_is_assignment F T H_is_between) fun _ _ _ _ _ _ us hl => match us, hl with | [_, _, _], _ => rfl
  have H_check_assignment : Has l.prog w K mg base 4 "check_assignment" ["value", "variants", "name"] (spD fCkA) := at_has A_check_assignment X G (fun f fd F => ok_check_assignment F T H_is_assignment) fun _ _ _ _ _ _ us hl => match us, hl with | [_, _, _], _ => rfl
  have H_check_variants : Has l.prog w K mg base 4 "check_variants" ["variants", "assignments"] spCV := at_has A_check_variants X G (fun f fd F => ok_check_variants F T H_is_between H_is_assignment) fun _ _ _ _ _ _ us hl => match us, hl with | [_, _], _ => rfl
  have H_counts_of : Has l.prog w K mg base 1 "counts_of" ["assignment", "variants"] (spD fCnt) := at_has A_counts_of X G (fun f fd F => ok_counts_of F T ) fun _ _ _ _ _ _ us hl => match us, hl with | [_, _], _ => rfl
  have H__law_shares : Has l.prog w K mg base 1 "_law_shares" ["_law_assignment", "_law_variants"] (spD fCnt) := at_has A__law_shares X G (fun f fd F => ok__law_shares F T ) fun _ _ _ _ _ _ us hl => match us, hl with | [_, _], _ => rfl
  have H_allocation_of : Has l.prog w K mg base 5 "allocation_of" ["assignment", "variants"] (spD fAlOf) := at_has A_allocation_of X G (fun f fd F => ok_allocation_of F T H_check_assignment H_check_variants H_counts_of) fun _ _ _ _ _ _ us hl => match us, hl with | [_, _], _ => rfl
  have H_is_integer : Has l.prog w K mg base 1 "is_integer" ["value"] (spD fIsInt) := at_has A_is_integer X G (fun f fd F => ok_is_integer F T ) fun _ _ _ _ _ _ us hl => match us, hl with | [_], _ => rfl
  have H_is_pair : Has l.prog w K mg base 6 "is_pair" ["value", "variants", "buckets"] (spD fPair) := at_has A_is_pair X G (fun f fd F => ok_is_pair F T H_allocation_of H_is_allocation H_is_assignment) fun _ _ _ _ _ _ us hl => match us, hl with | [_, _, _], _ => rfl
  have H_check_sizes : Has l.prog w K mg base 3 "check_sizes" ["variants", "buckets"] (spD fSizes) := at_has A_check_sizes X G (fun f fd F => ok_check_sizes F T H_is_between) fun _ _ _ _ _ _ us hl => match us, hl with | [_, _], _ => rfl
  have H_are_pairs : Has l.prog w K mg base 7 "are_pairs" ["value", "variants", "buckets"] (spD fPairs) := at_has A_are_pairs X G (fun f fd F => ok_are_pairs F T H_is_pair) fun _ _ _ _ _ _ us hl => match us, hl with | [_, _, _], _ => rfl
  have H_check_rule : Has l.prog w K mg base 8 "check_rule" ["variants", "buckets", "rule"] (spD fCkR) := at_has A_check_rule X G (fun f fd F => ok_check_rule F T H_check_sizes H_are_pairs) fun _ _ _ _ _ _ us hl => match us, hl with | [_, _, _], _ => rfl
  have H_goes_needlessly : Has l.prog w K mg base 1 "goes_needlessly" ["one", "other", "bucket"] (spD fGoes) := at_has A_goes_needlessly X G (fun f fd F => ok_goes_needlessly F T ) fun _ _ _ _ _ _ us hl => match us, hl with | [_, _, _], _ => rfl
  have H__law_goes : Has l.prog w K mg base 1 "_law_goes" ["_law_one", "_law_other", "_law_bucket"] (spD fGoes) := at_has A__law_goes X G (fun f fd F => ok__law_goes F T ) fun _ _ _ _ _ _ us hl => match us, hl with | [_, _, _], _ => rfl
  have H_check_all : Has l.prog w K mg base 9 "check_all" ["variants", "buckets", "rule", "allocation"] (spD fCkAll) := at_has A_check_all X G (fun f fd F => ok_check_all F T H_check_rule H_is_allocation) fun _ _ _ _ _ _ us hl => match us, hl with | [_, _, _, _], _ => rfl
  have H_is_allowed : Has l.prog w K mg base 1 "is_allowed" ["rule", "allocation", "bucket", "variant"] (spD fAllowed) := at_has A_is_allowed X G (fun f fd F => ok_is_allowed F T ) fun _ _ _ _ _ _ us hl => match us, hl with | [_, _, _, _], _ => rfl
  have H_menus_of : Has l.prog w K mg base 2 "menus_of" ["variants", "buckets", "rule", "allocation"] (spD fMenus) := at_has A_menus_of X G (fun f fd F => ok_menus_of F T H_is_allowed) fun _ _ _ _ _ _ us hl => match us, hl with | [_, _, _, _], _ => rfl
  have H_allowed_variants : Has l.prog w K mg base 10 "allowed_variants" ["variants", "buckets", "rule", "allocation"] (spD fMenus) := at_has A_allowed_variants X G (fun f fd F => ok_allowed_variants F T H_check_all H_menus_of) fun _ _ _ _ _ _ us hl => match us, hl with | [_, _, _, _], _ => rfl
  have H_first_needless : Has l.prog w K mg base 2 "first_needless" ["buckets", "rule"] (spR gNeed rNeed) := at_has A_first_needless X G (fun f fd F => ok_first_needless F T H_goes_needlessly) fun _ _ _ _ _ _ us hl => match us, hl with | [_, _], _ => rfl
  have H__law_first_leave : Has l.prog w K mg base 2 "_law_first_leave" ["_law_rule_here", "_law_buckets"] (spR gLeave rLeave) := at_has A__law_first_leave X G (fun f fd F => ok__law_first_leave F T H__law_goes) fun _ _ _ _ _ _ us hl => match us, hl with | [_, _], _ => rfl
  have H_mask_of : Has l.prog w K mg base 1 "mask_of" ["chosen"] (spD fMask) := at_has A_mask_of X G (fun f fd F => ok_mask_of F T ) fun _ _ _ _ _ _ us hl => match us, hl with | [_], _ => rfl
  have H_tally : Has l.prog w K mg base 1 "tally" ["masks"] spTally := at_has A_tally X G (fun f fd F => ok_tally F T ) fun _ _ _ _ _ _ us hl => match us, hl with | [_], _ => rfl
  have H_first_small : Has l.prog w K mg base 2 "first_small" ["allocation", "masks"] spFS := at_has A_first_small X G (fun f fd F => ok_first_small F T H_tally H_mask_of) fun _ _ _ _ _ _ us hl => match us, hl with | [_, _], _ => rfl
  have H_small_set : Has l.prog w K mg base 3 "small_set" ["allocation", "menus"] (spR gSS rSS) := at_has A_small_set X G (fun f fd F => ok_small_set F T H_first_small H_mask_of) fun _ _ _ _ _ _ us hl => match us, hl with | [_, _], _ => rfl
  have H_why_none : Has l.prog w K mg base 10 "why_none" ["variants", "buckets", "rule", "allocation"] (spR gWhy rWhy) := at_has A_why_none X G (fun f fd F => ok_why_none F T H_check_all H_first_needless H_small_set H_menus_of) fun _ _ _ _ _ _ us hl => match us, hl with | [_, _, _, _], _ => rfl
  have H_is_ascending : Has l.prog w K mg base 2 "is_ascending" ["value", "most"] (spD fAsc) := at_has A_is_ascending X G (fun f fd F => ok_is_ascending F T H_is_integer) fun _ _ _ _ _ _ us hl => match us, hl with | [_, _], _ => rfl
  have H_shows_small : Has l.prog w K mg base 3 "shows_small" ["allocation", "menus", "value"] (spD fShow) := at_has A_shows_small X G (fun f fd F => ok_shows_small F T H_is_ascending) fun _ _ _ _ _ _ us hl => match us, hl with | [_, _, _], _ => rfl
  have H_is_needless : Has l.prog w K mg base 3 "is_needless" ["buckets", "rule", "row"] (spD fNeedl) := at_has A_is_needless X G (fun f fd F => ok_is_needless F T H_is_between H_goes_needlessly) fun _ _ _ _ _ _ us hl => match us, hl with | [_, _, _], _ => rfl
  have H__law_is_row : Has l.prog w K mg base 1 "_law_is_row" ["_law_value", "_law_many"] (spD fRow) := at_has A__law_is_row X G (fun f fd F => ok__law_is_row F T ) fun _ _ _ _ _ _ us hl => match us, hl with | [_, _], _ => rfl
  have H__law_is_short : Has l.prog w K mg base 2 "_law_is_short" ["_law_menus", "_law_allocation", "_law_chosen", "_law_held"] (spD fShort) := at_has A__law_is_short X G (fun f fd F => ok__law_is_short F T H__law_is_row) fun _ _ _ _ _ _ us hl => match us, hl with | [_, _, _, _], _ => rfl
  have H__law_is_right : Has l.prog w K mg base 3 "_law_is_right" ["_law_rule_here", "_law_menus", "_law_allocation", "_law_evidence"] spRight := at_has A__law_is_right X G (fun f fd F => ok__law_is_right F T H__law_goes H__law_is_short H__law_is_row) fun _ _ _ _ _ _ us hl => match us, hl with | [_, _, _, _], _ => rfl
  have H_accepts_none : Has l.prog w K mg base 10 "accepts_none" ["variants", "buckets", "rule", "allocation", "evidence"] spAcc := at_has A_accepts_none X G (fun f fd F => ok_accepts_none F T H_check_all H_shows_small H_is_needless H_menus_of) fun _ _ _ _ _ _ us hl => match us, hl with | [_, _, _, _, _], _ => rfl
  have H__law_next : Has l.prog w K mg base 1 "_law_next" ["_law_stream_here", "_law_many"] spNext := at_has A__law_next X G (fun f fd F => ok__law_next F T ) fun _ _ _ _ _ _ us hl => match us, hl with | [_, _], _ => rfl
  have H__law_stream : Has l.prog w K mg base 1 "_law_stream" ["_law_script"] (spStream K) := at_has A__law_stream X G (fun f fd F => ok__law_stream F T ) fun _ _ _ _ _ _ us hl => match us, hl with | [_], _ => rfl
  have H__law_sets : Has l.prog w K mg base 1 "_law_sets" ["_law_many"] spSets := at_has A__law_sets X G (fun f fd F => ok__law_sets F T ) fun _ _ _ _ _ _ us hl => match us, hl with | [_], _ => rfl
  have H__law_assignments : Has l.prog w K mg base 1 "_law_assignments" ["_law_variants", "_law_buckets"] spAsgs := at_has A__law_assignments X G (fun f fd F => ok__law_assignments F T ) fun _ _ _ _ _ _ us hl => match us, hl with | [_, _], _ => rfl
  have H__law_allocations : Has l.prog w K mg base 1 "_law_allocations" ["_law_variants", "_law_buckets"] spAllocs := at_has A__law_allocations X G (fun f fd F => ok__law_allocations F T ) fun _ _ _ _ _ _ us hl => match us, hl with | [_, _], _ => rfl
  have H__law_continuing : Has l.prog w K mg base 3 "_law_continuing" ["_law_rule_here", "_law_allocation", "_law_variants", "_law_buckets"] spCont := at_has A__law_continuing X G (fun f fd F => ok__law_continuing F T H__law_assignments H__law_shares H__law_first_leave) fun _ _ _ _ _ _ us hl => match us, hl with | [_, _, _, _], _ => rfl
  have H__law_shuffled : Has l.prog w K mg base 2 "_law_shuffled" ["_law_stream_here", "_law_many"] spShuf := at_has A__law_shuffled X G (fun f fd F => ok__law_shuffled F T H__law_next) fun _ _ _ _ _ _ us hl => match us, hl with | [_, _], _ => rfl
  have H__law_by_lists : Has l.prog w K mg base 1 "_law_by_lists" ["_law_lists", "_law_allocation", "_law_buckets"] spByL := at_has A__law_by_lists X G (fun f fd F => ok__law_by_lists F T ) fun _ _ _ _ _ _ us hl => match us, hl with | [_, _, _], _ => rfl
  have H__law_drawn_assignment : Has l.prog w K mg base 2 "_law_drawn_assignment" ["_law_stream_here", "_law_allocation", "_law_buckets"] spDrawn := at_has A__law_drawn_assignment X G (fun f fd F => ok__law_drawn_assignment F T H__law_next) fun _ _ _ _ _ _ us hl => match us, hl with | [_, _, _], _ => rfl
  have H__law_asked : Has l.prog w K mg base 2 "_law_asked" ["_law_stream_here", "_law_rule_here", "_law_variants", "_law_buckets"] spAsked := at_has A__law_asked X G (fun f fd F => ok__law_asked F T H__law_allocations H__law_next) fun _ _ _ _ _ _ us hl => match us, hl with | [_, _, _, _], _ => rfl
  have H__law_rule : Has l.prog w K mg base 3 "_law_rule" ["_law_stream_here", "_law_variants", "_law_buckets", "_law_most"] spRule := at_has A__law_rule X G (fun f fd F => ok__law_rule F T H__law_allocations H__law_shuffled H__law_next H__law_by_lists H__law_drawn_assignment) fun _ _ _ _ _ _ us hl => match us, hl with | [_, _, _, _], _ => rfl
  have H__law_turned : Has l.prog w K mg base 2 "_law_turned" ["_law_stream_here", "_law_evidence", "_law_variants", "_law_buckets"] spTurned := at_has A__law_turned X G (fun f fd F => ok__law_turned F T H__law_next) fun _ _ _ _ _ _ us hl => match us, hl with | [_, _, _, _], _ => rfl
  exact ok_law (fun_mk lk c kk) T H__law_stream H__law_next H__law_rule H__law_asked H_allowed_variants H_why_none H__law_turned H__law_is_right H_accepts_none H__law_sets H__law_continuing
theorem walk {l : PySem.W.OpenLaw} {q : Program} {loose : List Str} {XP : (Str → Option Value) → Heap → Prop} {YP : World → Heap → Prop} {d : DefRec} {K : Params → PySem.W.Frag} (hn : l.most = some 63) (hdf : d.params.defaults = [])
    (hY : ∀ (w : World) (h : Heap), YP w h → (K w.params).In h)
    (F : ∀ (w : World) (mg : Str → Option Value) (fa : Addr) (h : Heap), (K w.params).In h → h.Ns mainGlobals mg → mg d.name = some (.ref fa) →
      ∃ fd : FuncData, (∀ (s : Shared) (u : Value), BindsTo s fd ⟨[u], []⟩ [("_law_script", u)]) ∧ ∀ base : Heap, (K w.params).In base → base.Ns mainGlobals mg → FnOk l.prog w (K w.params) mg base CX0 11 fa fd ["_law_script"] (spLaw (K w.params))) :
    PySem.W.WalkO q loose XP YP l.row.toRowW d [] (fun f vs => PySem.call f vs) :=
  L2.walk_of (n := 63) (k := 11) (x := "_law_script") (CX := fun _ => CX0) (sp := fun w => spLaw (K w.params)) hn (by decide) hdf ⟨rfl, by decide, by decide⟩ hY F (fun _ _ a ns hl _ hS => ⟨a, ns, rfl, hS, hl, fun _ => rfl⟩) fun _ _ _ _ _ z => z
theorem txt_mk {K : PySem.W.Frag} {h : Heap} {mg : Str → Option Value} (X : K.In h) (G : h.Ns mainGlobals mg) {t0 : Tok}  {t1 : Tok}  {t2 : Tok}  {t3 : Tok}  {t4 : Tok}
    (z_isi : PySem.W.nsIn K mainGlobals "isinstance" = some none)
    (z_int : PySem.W.nsIn K mainGlobals "int" = some none)
    (z_bool : PySem.W.nsIn K mainGlobals "bool" = some none)
    (z_tuple : PySem.W.nsIn K mainGlobals "tuple" = some none)
    (z_str : PySem.W.nsIn K mainGlobals "str" = some none)
    (z_list : PySem.W.nsIn K mainGlobals "list" = some none)
    (z_len : PySem.W.nsIn K mainGlobals "len" = some none)
    (z_all : PySem.W.nsIn K mainGlobals "all" = some none)
    (z_sum : PySem.W.nsIn K mainGlobals "sum" = some none)
    (z_range : PySem.W.nsIn K mainGlobals "range" = some none)
    (z_enum : PySem.W.nsIn K mainGlobals "enumerate" = some none)
    (z_sorted : PySem.W.nsIn K mainGlobals "sorted" = some none)
    (z_abs : PySem.W.nsIn K mainGlobals "abs" = some none)
    (z_mva : PySem.W.nsIn K mainGlobals "MOST_VARIANTS_allocations" = some (some (.int 5 t0)))
    (z_mba : PySem.W.nsIn K mainGlobals "MOST_BUCKETS_allocations" = some (some (.int 20 t1)))
    (z_mvr : PySem.W.nsIn K mainGlobals "MOST_VARIANTS_rules" = some (some (.int 5 t2)))
    (z_mbr : PySem.W.nsIn K mainGlobals "MOST_BUCKETS_rules" = some (some (.int 20 t3)))
    (z_mp : PySem.W.nsIn K mainGlobals "MOST_PAIRS" = some (some (.int 20 t4)))
    (z_comb : PySem.W.nsIn K mainGlobals "combinations" = some (some (.type "itertools.combinations")))
    : Txt mg :=
  ⟨PySem.W.mg_none_of X G z_isi, PySem.W.mg_none_of X G z_int, PySem.W.mg_none_of X G z_bool, PySem.W.mg_none_of X G z_tuple, PySem.W.mg_none_of X G z_str, PySem.W.mg_none_of X G z_list, PySem.W.mg_none_of X G z_len, PySem.W.mg_none_of X G z_all, PySem.W.mg_none_of X G z_sum, PySem.W.mg_none_of X G z_range, PySem.W.mg_none_of X G z_enum, PySem.W.mg_none_of X G z_sorted, PySem.W.mg_none_of X G z_abs, ⟨_, PySem.W.mg_of X G z_mva⟩, ⟨_, PySem.W.mg_of X G z_mba⟩, ⟨_, PySem.W.mg_of X G z_mvr⟩, ⟨_, PySem.W.mg_of X G z_mbr⟩, ⟨_, PySem.W.mg_of X G z_mp⟩, PySem.W.mg_of X G z_comb⟩
end K60

open PySem PySem.W PyProof.Rows in
set_option maxRecDepth 100000 in
set_option maxHeartbeats 0 in
theorem PySem.Challenge.cw_leastmoved_k60_whole_evidence_of_none_holds : PySem.Challenge.rw_leastmoved_k60_whole_evidence_of_none.Holds := by
  w_on; o_law; k_head; (case hw => w_witness2)
  k_fill
  refine K60.walk (l := PySem.Challenge.rw_leastmoved_k60_whole_evidence_of_none) rfl rfl (fun w h Y => PySem.W.kIn_of Y) ?F
  case F =>
    intro w mg fa h KX G hmg
    refine' K60.all_mk KX G hmg (K60.txt_mk KX G ?z_isi ?z_int ?z_bool ?z_tuple ?z_str ?z_list ?z_len ?z_all ?z_sum ?z_range ?z_enum ?z_sorted ?z_abs ?z_mva ?z_mba ?z_mvr ?z_mbr ?z_mp ?z_comb) (K60.at_mk ?a0 ?l0 ?c0 ?k0) (K60.at_mk ?a1 ?l1 ?c1 ?k1) (K60.at_mk ?a2 ?l2 ?c2 ?k2) (K60.at_mk ?a3 ?l3 ?c3 ?k3) (K60.at_mk ?a4 ?l4 ?c4 ?k4) (K60.at_mk ?a5 ?l5 ?c5 ?k5) (K60.at_mk ?a6 ?l6 ?c6 ?k6) (K60.at_mk ?a7 ?l7 ?c7 ?k7) (K60.at_mk ?a8 ?l8 ?c8 ?k8) (K60.at_mk ?a9 ?l9 ?c9 ?k9) (K60.at_mk ?a10 ?l10 ?c10 ?k10) (K60.at_mk ?a11 ?l11 ?c11 ?k11) (K60.at_mk ?a12 ?l12 ?c12 ?k12) (K60.at_mk ?a13 ?l13 ?c13 ?k13) (K60.at_mk ?a14 ?l14 ?c14 ?k14) (K60.at_mk ?a15 ?l15 ?c15 ?k15) (K60.at_mk ?a16 ?l16 ?c16 ?k16) (K60.at_mk ?a17 ?l17 ?c17 ?k17) (K60.at_mk ?a18 ?l18 ?c18 ?k18) (K60.at_mk ?a19 ?l19 ?c19 ?k19) (K60.at_mk ?a20 ?l20 ?c20 ?k20) (K60.at_mk ?a21 ?l21 ?c21 ?k21) (K60.at_mk ?a22 ?l22 ?c22 ?k22) (K60.at_mk ?a23 ?l23 ?c23 ?k23) (K60.at_mk ?a24 ?l24 ?c24 ?k24) (K60.at_mk ?a25 ?l25 ?c25 ?k25) (K60.at_mk ?a26 ?l26 ?c26 ?k26) (K60.at_mk ?a27 ?l27 ?c27 ?k27) (K60.at_mk ?a28 ?l28 ?c28 ?k28) (K60.at_mk ?a29 ?l29 ?c29 ?k29) (K60.at_mk ?a30 ?l30 ?c30 ?k30) (K60.at_mk ?a31 ?l31 ?c31 ?k31) (K60.at_mk ?a32 ?l32 ?c32 ?k32) (K60.at_mk ?a33 ?l33 ?c33 ?k33) (K60.at_mk ?a34 ?l34 ?c34 ?k34) (K60.at_mk ?a35 ?l35 ?c35 ?k35) (K60.at_mk ?a36 ?l36 ?c36 ?k36) (K60.at_mk ?a37 ?l37 ?c37 ?k37) (K60.at_mk ?a38 ?l38 ?c38 ?k38) (K60.at_mk ?a39 ?l39 ?c39 ?k39) (K60.at_mk ?a40 ?l40 ?c40 ?k40) (K60.at_mk ?a41 ?l41 ?c41 ?k41) (K60.at_mk ?a42 ?l42 ?c42 ?k42) (K60.at_mk ?a43 ?l43 ?c43 ?k43) (K60.at_mk ?a44 ?l44 ?c44 ?k44) (K60.at_mk ?a45 ?l45 ?c45 ?k45) (K60.at_mk ?a46 ?l46 ?c46 ?k46)
    (case z_isi => k_is)
    (case z_int => k_is)
    (case z_bool => k_is)
    (case z_tuple => k_is)
    (case z_str => k_is)
    (case z_list => k_is)
    (case z_len => k_is)
    (case z_all => k_is)
    (case z_sum => k_is)
    (case z_range => k_is)
    (case z_enum => k_is)
    (case z_sorted => k_is)
    (case z_abs => k_is)
    (case z_mva => k_is)
    (case z_mba => k_is)
    (case z_mvr => k_is)
    (case z_mbr => k_is)
    (case z_mp => k_is)
    (case z_comb => k_is)
    (case a0 => k_is)
    (case l0 => k_is)
    (case c0 => k_is)
    (case k0 => k_is)
    (case a1 => k_is)
    (case l1 => k_is)
    (case c1 => k_is)
    (case k1 => k_is)
    (case a2 => k_is)
    (case l2 => k_is)
    (case c2 => k_is)
    (case k2 => k_is)
    (case a3 => k_is)
    (case l3 => k_is)
    (case c3 => k_is)
    (case k3 => k_is)
    (case a4 => k_is)
    (case l4 => k_is)
    (case c4 => k_is)
    (case k4 => k_is)
    (case a5 => k_is)
    (case l5 => k_is)
    (case c5 => k_is)
    (case k5 => k_is)
    (case a6 => k_is)
    (case l6 => k_is)
    (case c6 => k_is)
    (case k6 => k_is)
    (case a7 => k_is)
    (case l7 => k_is)
    (case c7 => k_is)
    (case k7 => k_is)
    (case a8 => k_is)
    (case l8 => k_is)
    (case c8 => k_is)
    (case k8 => k_is)
    (case a9 => k_is)
    (case l9 => k_is)
    (case c9 => k_is)
    (case k9 => k_is)
    (case a10 => k_is)
    (case l10 => k_is)
    (case c10 => k_is)
    (case k10 => k_is)
    (case a11 => k_is)
    (case l11 => k_is)
    (case c11 => k_is)
    (case k11 => k_is)
    (case a12 => k_is)
    (case l12 => k_is)
    (case c12 => k_is)
    (case k12 => k_is)
    (case a13 => k_is)
    (case l13 => k_is)
    (case c13 => k_is)
    (case k13 => k_is)
    (case a14 => k_is)
    (case l14 => k_is)
    (case c14 => k_is)
    (case k14 => k_is)
    (case a15 => k_is)
    (case l15 => k_is)
    (case c15 => k_is)
    (case k15 => k_is)
    (case a16 => k_is)
    (case l16 => k_is)
    (case c16 => k_is)
    (case k16 => k_is)
    (case a17 => k_is)
    (case l17 => k_is)
    (case c17 => k_is)
    (case k17 => k_is)
    (case a18 => k_is)
    (case l18 => k_is)
    (case c18 => k_is)
    (case k18 => k_is)
    (case a19 => k_is)
    (case l19 => k_is)
    (case c19 => k_is)
    (case k19 => k_is)
    (case a20 => k_is)
    (case l20 => k_is)
    (case c20 => k_is)
    (case k20 => k_is)
    (case a21 => k_is)
    (case l21 => k_is)
    (case c21 => k_is)
    (case k21 => k_is)
    (case a22 => k_is)
    (case l22 => k_is)
    (case c22 => k_is)
    (case k22 => k_is)
    (case a23 => k_is)
    (case l23 => k_is)
    (case c23 => k_is)
    (case k23 => k_is)
    (case a24 => k_is)
    (case l24 => k_is)
    (case c24 => k_is)
    (case k24 => k_is)
    (case a25 => k_is)
    (case l25 => k_is)
    (case c25 => k_is)
    (case k25 => k_is)
    (case a26 => k_is)
    (case l26 => k_is)
    (case c26 => k_is)
    (case k26 => k_is)
    (case a27 => k_is)
    (case l27 => k_is)
    (case c27 => k_is)
    (case k27 => k_is)
    (case a28 => k_is)
    (case l28 => k_is)
    (case c28 => k_is)
    (case k28 => k_is)
    (case a29 => k_is)
    (case l29 => k_is)
    (case c29 => k_is)
    (case k29 => k_is)
    (case a30 => k_is)
    (case l30 => k_is)
    (case c30 => k_is)
    (case k30 => k_is)
    (case a31 => k_is)
    (case l31 => k_is)
    (case c31 => k_is)
    (case k31 => k_is)
    (case a32 => k_is)
    (case l32 => k_is)
    (case c32 => k_is)
    (case k32 => k_is)
    (case a33 => k_is)
    (case l33 => k_is)
    (case c33 => k_is)
    (case k33 => k_is)
    (case a34 => k_is)
    (case l34 => k_is)
    (case c34 => k_is)
    (case k34 => k_is)
    (case a35 => k_is)
    (case l35 => k_is)
    (case c35 => k_is)
    (case k35 => k_is)
    (case a36 => k_is)
    (case l36 => k_is)
    (case c36 => k_is)
    (case k36 => k_is)
    (case a37 => k_is)
    (case l37 => k_is)
    (case c37 => k_is)
    (case k37 => k_is)
    (case a38 => k_is)
    (case l38 => k_is)
    (case c38 => k_is)
    (case k38 => k_is)
    (case a39 => k_is)
    (case l39 => k_is)
    (case c39 => k_is)
    (case k39 => k_is)
    (case a40 => k_is)
    (case l40 => k_is)
    (case c40 => k_is)
    (case k40 => k_is)
    (case a41 => k_is)
    (case l41 => k_is)
    (case c41 => k_is)
    (case k41 => k_is)
    (case a42 => k_is)
    (case l42 => k_is)
    (case c42 => k_is)
    (case k42 => k_is)
    (case a43 => k_is)
    (case l43 => k_is)
    (case c43 => k_is)
    (case k43 => k_is)
    (case a44 => k_is)
    (case l44 => k_is)
    (case c44 => k_is)
    (case k44 => k_is)
    (case a45 => k_is)
    (case l45 => k_is)
    (case c45 => k_is)
    (case k45 => k_is)
    (case a46 => k_is)
    (case l46 => k_is)
    (case c46 => k_is)
    (case k46 => k_is)
