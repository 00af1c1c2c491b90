import PyProof.Rows.All
import Wide.All
import OpenK.AllK
import Wide.FinOn
import KE.KStateDown
import HandS.ForMost
import HandS.More
import HandS.Defaults
import HandS.Zip
import HandS.Wide
import HandS.WideBits
import HandS.SortInts
import HandS.SortRule
import HandS.DictComp
import HandS.ListItems
import HandS.DictTup
import HandS.IsInst
import HandS.Evl
import HandS.Flow
import HandS.Head0
import HandS.Head1
import HandS.Head2
import HandS.HeadEnd
import HandS.HeadHook1
import HandS.HeadHook2
import PyProof.ReprRoads
import HandS.Keys
import KE.KDictPairs
import HandS.Style
import HandS.NoneIn
import HandS.Conv
import HandS.Steps
import PyProof.ReprLen
import HandS.Replace
import HandS.Text
import HandS.Deep
import HandS.Star
import PySem.Challenge.RW_modeltrials_k03_whole_numbers_between_tw
set_option Elab.async false
set_option linter.all false
set_option maxRecDepth 100000
set_option maxHeartbeats 0
namespace My
open PySem PySem.Spec PyProof.Rows L2 Evl

/-! ### data: what a value stands for; all tuples are plain -/
def PlT (K : PySem.W.Frag) (H : Hp) (a : Addr) (xs : List V) : Prop := (∃ o, H a = some (.frz o (.tup xs)) ∧ o.dict = none) ∨
  ∃ (o : Obj) (its : Array Value) (n : Nat), K.lookup a = some o ∧ o.cls = .type "tuple" ∧ o.data = .seq its n ∧ its.size ≤ sizeLine ∧ Vals xs its.toList ∧ o.dict = none
theorem PlT.sq {K : PySem.W.Frag} {H : Hp} {a : Addr} {xs : List V} (h : PlT K H a xs) : SqT K H a xs := by
  rcases h with ⟨o, h, _⟩ | ⟨o, its, n, h1, h2, h3, h4, h5, _⟩
  · exact .inl (.inr ⟨o, h⟩)
  · exact .inr ⟨o, its, n, h1, h2, h3, h4, h5⟩
theorem PlT.ex {K : PySem.W.Frag} {H H' : Hp} {a : Addr} {xs : List V} (h : PlT K H a xs) (e : Ex H H') : PlT K H' a xs := by
  rcases h with ⟨o, h, d⟩ | h
  · exact .inl ⟨o, e _ _ h, d⟩
  · exact .inr h
theorem plt_new {K : PySem.W.Frag} {H : Hp} {p : Addr} {o : Obj} {xs : List V} (h : o.dict = none) : PlT K (upd H p (.frz o (.tup xs))) p xs := .inl ⟨o, upd_same, h⟩
/-- lists that are locked for good -/
def FqL (K : PySem.W.Frag) (H : Hp) (a : Addr) (xs : List V) : Prop := (∃ o, H a = some (.frz o (.lst xs))) ∨
  ∃ (its : Array Value) (n : Nat), K.lookup a = some { cls := .type "list", data := .seq its n } ∧ its.size ≤ sizeLine ∧ Vals xs its.toList
theorem FqL.sq {K : PySem.W.Frag} {H : Hp} {a : Addr} {xs : List V} (h : FqL K H a xs) : SqL K H a xs := by
  rcases h with ⟨o, h⟩ | ⟨its, n, h1, h2, h3⟩
  · exact .inl (.inr ⟨o, h⟩)
  · exact .inr ⟨_, its, n, h1, rfl, rfl, rfl, h2, h3⟩
/-- locked or not -/
def ML (K : PySem.W.Frag) (H : Hp) (a : Addr) (xs : List V) : Prop := H a = some (.lst xs) ∨ FqL K H a xs
theorem ML.sq {K : PySem.W.Frag} {H : Hp} {a : Addr} {xs : List V} (h : ML K H a xs) : SqL K H a xs := by
  rcases h with h | h
  · exact sq_of h
  · exact h.sq
theorem ML.isL {X : Cx} {pins : List (Addr × Obj)} {σ : L2.St} {H : Hp} {s : Shared} (I : Inv X pins σ H s) {a : Addr} {xs : List V} (h : ML X.K H a xs) : ∃ (its : List Value) (n : Nat), Vals xs its ∧ IsL s.heap a its.toArray n ∧ xs.length ≤ sizeLine := by
  rcases h with h | ⟨o, h⟩ | ⟨its, n, h1, h2, h3⟩
  · obtain ⟨z, its, n, r, e⟩ := I.hok a _ h
    exact ⟨its, n, r, e, z⟩
  · obtain ⟨ho, z, its, n, r, e⟩ := I.hok a _ h
    exact ⟨its, n, r, e, z⟩
  · refine ⟨its.toList, n, h3, ?_, ?_⟩
    · have := I.kIn a _ h1
      simpa using this
    · have e := h3.length
      simp only [Array.length_toList] at e
      omega
theorem FqL.ex {K : PySem.W.Frag} {H H' : Hp} {a : Addr} {xs : List V} (h : FqL K H a xs) (e : Ex H H') : FqL K H' a xs := by
  rcases h with ⟨o, h⟩ | h
  · exact .inl ⟨o, e _ _ h⟩
  · exact .inr h
theorem ML.ex {K : PySem.W.Frag} {H H' : Hp} {a : Addr} {xs : List V} (h : ML K H a xs) (e : Ex H H') : ML K H' a xs := by
  rcases h with h | h
  · exact .inl (e _ _ h)
  · exact .inr (h.ex e)
mutual
inductive Dq (K : PySem.W.Frag) (H : Hp) : V → PyData → Prop
  | non : Dq K H .non .none
  | bl (b : Bool) : Dq K H (.bl b) (.bool b)
  | int (i : Int) : Dq K H (.int i) (.int i)
  | str (x : Str) : Dq K H (.str x) (.str x)
  | lst {a : Addr} {xs : List V} {ds : List PyData} : FqL K H a xs → DqAll K H xs ds → Dq K H (.ref a) (.list ds)
  | tup {a : Addr} {xs : List V} {ds : List PyData} : PlT K H a xs → DqAll K H xs ds → Dq K H (.ref a) (.tuple ds)
inductive DqAll (K : PySem.W.Frag) (H : Hp) : List V → List PyData → Prop
  | nil : DqAll K H [] []
  | cons {v : V} {vs : List V} {d : PyData} {ds : List PyData} : Dq K H v d → DqAll K H vs ds → DqAll K H (v :: vs) (d :: ds)
end
mutual
theorem dq_dp {K : PySem.W.Frag} {H : Hp} : ∀ (d : PyData) (v : V), Dq K H v d → Dp K H v d
  | .none, _, h => by cases h; exact .non
  | .bool b, _, h => by cases h; exact .bl b
  | .int i, _, h => by cases h; exact .int i
  | .str x, _, h => by cases h; exact .str x
  | .list ds, _, h => by
    cases h with
    | lst hs ha => exact .lst hs.sq (dqa_dp ds _ ha)
  | .tuple ds, _, h => by
    cases h with
    | tup hs ha => exact .tup hs.sq (dqa_dp ds _ ha)
  | .dict _, _, h => by cases h
theorem dqa_dp {K : PySem.W.Frag} {H : Hp} : ∀ (ds : List PyData) (vs : List V), DqAll K H vs ds → DpAll K H vs ds
  | [], _, h => by cases h; exact .nil
  | d :: ds, _, h => by
    cases h with
    | cons h1 h2 => exact .cons (dq_dp d _ h1) (dqa_dp ds _ h2)
end
theorem Dq.dp {K : PySem.W.Frag} {H : Hp} {v : V} {d : PyData} (h : Dq K H v d) : Dp K H v d := dq_dp d v h
theorem DqAll.dp {K : PySem.W.Frag} {H : Hp} {vs : List V} {ds : List PyData} (h : DqAll K H vs ds) : DpAll K H vs ds := dqa_dp ds vs h
/-! ### tuples that are made here -/
def tTupF (t : TA) : TE := fun σ H Q => t σ H fun xs H1 => xs.length ≤ sizeLine ∧ ∀ p o, H1 p = none → o.dict = none → Q (.ref p) (upd H1 p (.frz o (.tup xs)))
section
variable {X : Cx} {es : List Expr} {t : TA} {pos : Pos} {K : PySem.W.Frag}
theorem pe_tupF {x1} (h : PA X es t) : PE X (.Tuple es x1 pos) (tTupF t) := by
  refine ⟨fun pins s σ H Q I hq => ?_⟩
  refine wpAny_Tuple_spliced (thn (h.run pos pins s σ H _ I hq) fun us s1 ⟨xs, H1, I1, r, zl, q⟩ => ⟨by rw [← r.length]; exact zl, ?_⟩)
  have hf : H1 s1.heap.objs.size = none := I1.hok.fresh (Nat.le_refl _)
  let ob : Obj := { cls := .type "tuple", data := .seq us.toArray }
  have at1 : (s1.heap.push ob).get? s1.heap.objs.size = some ob := Heap.get?_push_size _ rfl
  exact ⟨.ref s1.heap.objs.size, upd H1 s1.heap.objs.size (.frz ob (.tup xs)),
    I1.laid (t' := s1.toks) (fun b u e => Heap.get?_push_of_some _ e) (Nat.le_refl _) ⟨at1, zl, us, r, ⟨ob, at1, rfl, _, rfl⟩⟩, rfl, q _ ob hf rfl⟩
def rTupF (K : PySem.W.Frag) : List V → Hp → VK → Prop := fun xs H Q => ∃ a ys, xs = [.ref a] ∧ SqL K H a ys ∧ ∀ p o, H p = none → o.dict = none → Q (.ref p) (upd H p (.frz o (.tup ys)))
theorem call_tupleF (hK : X.K = K) : CallR X (.type "tuple") (rTupF K) := by
  subst hK
  intro pins s σ H xs us Q I r q
  obtain ⟨a, ys, rfl, hs, q⟩ := q
  obtain ⟨u, rfl, rx⟩ := vals1 r
  cases rx
  obtain ⟨its, rv, pl, hz⟩ := I.list hs
  have hlen := rv.length
  refine call_tuple_list pl.isList (fun h' kp => ?_) (by simp only [List.size_toArray] <;> omega)
  let ob : Obj := { cls := .type "tuple", data := .seq its.toArray }
  have at1 : (h'.push ob).get? h'.objs.size = some ob := Heap.get?_push_size _ rfl
  have J : Inv X pins σ H { s with heap := h' } := I.kept (t' := s.toks) kp
  exact ⟨.ref h'.objs.size, upd H h'.objs.size (.frz ob (.tup ys)),
    J.laid (t' := s.toks) (fun b o e => Heap.get?_push_of_some _ e) (Nat.le_refl _) ⟨at1, hz, its, rv, ⟨ob, at1, rfl, _, rfl⟩⟩, rfl, q _ ob (J.hok.fresh (Nat.le_refl _)) rfl⟩
end
/-! ### data: what a value stands for -/
variable {K : PySem.W.Frag}
mutual
theorem dp_ex {H H' : Hp} (e : Ex H H') : ∀ (d : PyData) (v : V), Dq K H v d → Dq K H' v d
  | .none, _, h => by cases h; exact .non
  | .bool b, _, h => by cases h; exact .bl b
  | .int i, _, h => by cases h; exact .int i
  | .str x, _, h => by cases h; exact .str x
  | .list ds, _, h => by
    cases h with
    | lst hs ha => exact .lst (hs.ex e) (dpa_ex e ds _ ha)
  | .tuple ds, _, h => by
    cases h with
    | tup hs ha => exact .tup (hs.ex e) (dpa_ex e ds _ ha)
  | .dict _, _, h => by cases h
theorem dpa_ex {H H' : Hp} (e : Ex H H') : ∀ (ds : List PyData) (vs : List V), DqAll K H vs ds → DqAll K H' vs ds
  | [], _, h => by cases h; exact .nil
  | d :: ds, _, h => by
    cases h with
    | cons h1 h2 => exact .cons (dp_ex e d _ h1) (dpa_ex e ds _ h2)
end
theorem Dq_ex {H H' : Hp} {v : V} {d : PyData} (h : Dq K H v d) (e : Ex H H') : Dq K H' v d := dp_ex e d v h
theorem DqAll_ex {H H' : Hp} {vs : List V} {ds : List PyData} (h : DqAll K H vs ds) (e : Ex H H') : DqAll K H' vs ds := dpa_ex e ds vs h
/-! all data stands whatever else changes -/
def imm (_ : PyData) : Bool := true
def immAll (_ : List PyData) : Bool := true
/-- what is locked stays: data does -/
def Un (H H' : Hp) : Prop := ∀ a o u, H a = some (.frz o u) → H' a = some (.frz o u)
mutual
theorem dp_un {H H' : Hp} (g : Un H H') : ∀ (d : PyData) (v : V), Dq K H v d → Dq K H' v d
  | .none, _, h => by cases h; exact .non
  | .bool b, _, h => by cases h; exact .bl b
  | .int i, _, h => by cases h; exact .int i
  | .str x, _, h => by cases h; exact .str x
  | .list ds, _, h => by
    cases h with
    | lst hs ha =>
      refine .lst ?_ (dpa_un g ds _ ha)
      rcases hs with ⟨o, h⟩ | h
      · exact .inl ⟨o, g _ _ _ h⟩
      · exact .inr h
  | .tuple ds, _, h => by
    cases h with
    | tup hs ha =>
      refine .tup ?_ (dpa_un g ds _ ha)
      rcases hs with ⟨o, h, d⟩ | h
      · exact .inl ⟨o, g _ _ _ h, d⟩
      · exact .inr h
  | .dict _, _, h => by cases h
theorem dpa_un {H H' : Hp} (g : Un H H') : ∀ (ds : List PyData) (vs : List V), DqAll K H vs ds → DqAll K H' vs ds
  | [], _, h => by cases h; exact .nil
  | d :: ds, _, h => by
    cases h with
    | cons h1 h2 => exact .cons (dp_un g d _ h1) (dpa_un g ds _ h2)
end
theorem Dq_un {H H' : Hp} {v : V} {d : PyData} (g : Un H H') (h : Dq K H v d) : Dq K H' v d := dp_un g d v h
/-- all but what stands at p is as it was -/
def Go (p : Addr) (H H' : Hp) : Prop := ∀ a o, a ≠ p → H a = some o → H' a = some o
theorem Go.refl {p : Addr} (H : Hp) : Go p H H := fun _ _ _ h => h
theorem Go.trans {p : Addr} {H H1 H2 : Hp} (a : Go p H H1) (b : Go p H1 H2) : Go p H H2 := fun x o n h => b x o n (a x o n h)
theorem Ex.go {p : Addr} {H H' : Hp} (e : Ex H H') : Go p H H' := fun a o _ h => e a o h
theorem go_t {p a : Addr} {H H' : Hp} {xs ys : List V} (g : Go p H H') (hp : H p = some (.lst ys)) (h : PlT K H a xs) : PlT K H' a xs := by
  rcases h with ⟨o, h, d⟩ | h
  · exact .inl ⟨o, g a _ (fun z => by rw [z, hp] at h; cases h) h, d⟩
  · exact .inr h
theorem go_l {p a : Addr} {H H' : Hp} {xs ys : List V} (g : Go p H H') (hp : H p = some (.lst ys)) (h : FqL K H a xs) : FqL K H' a xs := by
  rcases h with ⟨o, h⟩ | h
  · exact .inl ⟨o, g a _ (fun z => by rw [z, hp] at h; cases h) h⟩
  · exact .inr h
mutual
theorem dp_go {p : Addr} {H H' : Hp} {ys : List V} (g : Go p H H') (hp : H p = some (.lst ys)) : ∀ (d : PyData) (v : V), imm d = true → Dq K H v d → Dq K H' v d
  | .none, _, _, h => by cases h; exact .non
  | .bool b, _, _, h => by cases h; exact .bl b
  | .int i, _, _, h => by cases h; exact .int i
  | .str x, _, _, h => by cases h; exact .str x
  | .list ds, _, _, h => by
    cases h with
    | lst hs ha => exact .lst (go_l g hp hs) (dpa_go g hp ds _ rfl ha)
  | .tuple ds, _, _, h => by
    cases h with
    | tup hs ha => exact .tup (go_t g hp hs) (dpa_go g hp ds _ rfl ha)
  | .dict _, _, _, h => by cases h
theorem dpa_go {p : Addr} {H H' : Hp} {ys : List V} (g : Go p H H') (hp : H p = some (.lst ys)) : ∀ (ds : List PyData) (vs : List V), immAll ds = true → DqAll K H vs ds → DqAll K H' vs ds
  | [], _, _, h => by cases h; exact .nil
  | d :: ds, _, _, h => by
    cases h with
    | cons h1 h2 => exact .cons (dp_go g hp d _ rfl h1) (dpa_go g hp ds _ rfl h2)
end
theorem Dq_go {p : Addr} {H H' : Hp} {ys : List V} {v : V} {d : PyData} (h : Dq K H v d) (g : Go p H H') (hp : H p = some (.lst ys)) (m : imm d = true) : Dq K H' v d := dp_go g hp d v m h
/-- places of a list of data -/
theorem dpa_get {H : Hp} : ∀ {vs : List V} {ds : List PyData}, DqAll K H vs ds → ∀ {i : Nat} {v : V}, vs[i]? = some v → ∃ d, ds[i]? = some d ∧ Dq K H v d
  | _, _, .nil, _, _, h => by simp at h
  | _, _, .cons h1 _, 0, _, h => by
    have e := Option.some.inj h
    subst e
    exact ⟨_, rfl, h1⟩
  | _, _, .cons _ h2, i + 1, v, h => dpa_get h2 (i := i) (v := v) h
theorem dpa_put {H : Hp} : ∀ {vs : List V} {ds : List PyData}, DqAll K H vs ds → ∀ {i : Nat} {d : PyData}, ds[i]? = some d → ∃ v, vs[i]? = some v ∧ Dq K H v d
  | _, _, .nil, _, _, h => by simp at h
  | _, _, .cons h1 _, 0, _, h => by
    have e := Option.some.inj h
    subst e
    exact ⟨_, rfl, h1⟩
  | _, _, .cons _ h2, i + 1, v, h => dpa_put h2 (i := i) (d := v) h
theorem dpa_len {H : Hp} : ∀ {vs : List V} {ds : List PyData}, DqAll K H vs ds → vs.length = ds.length
  | _, _, .nil => rfl
  | _, _, .cons _ h2 => congrArg Nat.succ (dpa_len h2)
theorem dpa_app {H : Hp} : ∀ {vs us : List V} {ds es : List PyData}, DqAll K H vs ds → DqAll K H us es → DqAll K H (vs ++ us) (ds ++ es)
  | _, _, _, _, .nil, h => h
  | _, _, _, _, .cons h1 h2, h => .cons h1 (dpa_app h2 h)
theorem dpa_ints {H : Hp} : ∀ {vs : List V} {ns : List Int}, DqAll K H vs (ns.map PyData.int) → vs = ns.map V.int
  | _, [], h => by cases h; rfl
  | _, n :: ns, h => by
    cases h with
    | cons h1 h2 =>
      cases h1
      rw [List.map_cons, dpa_ints h2]
theorem dpa_bools {H : Hp} : ∀ {vs : List V} {ns : List Bool}, DqAll K H vs (ns.map PyData.bool) → vs = ns.map V.bl
  | _, [], h => by cases h; rfl
  | _, n :: ns, h => by
    cases h with
    | cons h1 h2 =>
      cases h1
      rw [List.map_cons, dpa_bools h2]
theorem dpa_strs {H : Hp} : ∀ {vs : List V} {ns : List Str}, DqAll K H vs (ns.map PyData.str) → vs = ns.map V.str
  | _, [], h => by cases h; rfl
  | _, n :: ns, h => by
    cases h with
    | cons h1 h2 =>
      cases h1
      rw [List.map_cons, dpa_strs h2]
theorem ints_dpa {H : Hp} : ∀ (ns : List Int), DqAll K H (ns.map V.int) (ns.map PyData.int)
  | [] => .nil
  | n :: ns => .cons (.int n) (ints_dpa ns)

theorem none_of_ex {H H' : Hp} {p : Addr} (e : Ex H H') (h : H' p = none) : H p = none := by
  cases q : H p with
  | none => rfl
  | some o => rw [e p o q] at h; cases h
/-! ### a thing is locked for good -/
def frzQ (Q : VK) : VK := fun v H1 => ∃ d u, v = .ref d ∧ H1 d = some u ∧ Mut (some u) ∧ ∀ od, Q v (upd H1 d (.frz od u))
def tFrz (t : TE) : TE := fun σ H Q => t σ H (frzQ Q)
theorem pe_frz {X : Cx} {e : Expr} {t : TE} (h : PE X e t) : PE X e (tFrz t) := ⟨fun pins s σ H Q I hw =>
  thn (h.run pins s σ H _ I hw) fun u s1 ⟨v, H1, I1, r, d, o, ev, hd, mu, q⟩ => by
    obtain ⟨od, I2⟩ := I1.lock hd mu
    exact ⟨v, _, I2, r, q od⟩⟩
/-- .. or not -/
def tFrzO (t : TE) : TE := fun σ H Q => t σ H fun v H1 => frzQ Q v H1 ∨ Q v H1
theorem pe_frzO {X : Cx} {e : Expr} {t : TE} (h : PE X e t) : PE X e (tFrzO t) := ⟨fun pins s σ H Q I hw =>
  thn (h.run pins s σ H _ I hw) fun u s1 ⟨v, H1, I1, r, q⟩ => by
    rcases q with ⟨d, o, ev, hd, mu, q⟩ | q
    · obtain ⟨od, I2⟩ := I1.lock hd mu
      exact ⟨v, _, I2, r, q od⟩
    · exact ⟨v, _, I1, r, q⟩⟩
theorem ps_frz {X : Cx} {st : Stmt} {te : TE} {i : Nat} {y : Str} (hy : X.N[i]? = some y) (h : PS X st (tAsg te (gName i))) : PS X st (tAsg (tFrz te) (gName i)) := ⟨fun pins s σ H D I hw => by
  have hl : i < σ.length := by rw [I.len]; exact (List.getElem?_eq_some_iff.mp hy).1
  have inj : ∀ {x y : V}, σ.set i (some x) = σ.set i (some y) → x = y := fun {x y} e => by
    have := congrArg (fun l : L2.St => l[i]?) e
    simp only [List.getElem?_set_self hl] at this
    exact Option.some.inj (Option.some.inj this)
  let D2 : Ends := { D with nx := fun σ1 H1 => ∃ x, σ1 = σ.set i (some x) ∧ frzQ (fun y H2 => D.nx (σ.set i (some y)) H2) x H1 }
  have e : (fun x H1 => D2.nx (σ.set i (some x)) H1) = frzQ (fun y H2 => D.nx (σ.set i (some y)) H2) := by
    funext x H1
    exact propext ⟨fun ⟨y, e, q⟩ => inj e ▸ q, fun q => ⟨x, rfl, q⟩⟩
  have hw2 : tAsg te (gName i) D2 σ H := by
    show te σ H (fun x H1 => D2.nx (σ.set i (some x)) H1)
    rw [e]
    exact hw
  refine thn (h.run pins s σ H D2 I hw2) fun f s1 q => ?_
  cases f with
  | next =>
    obtain ⟨σ', H', I', x, rfl, d, u, rfl, hd, mu, q⟩ := q
    obtain ⟨od, I2⟩ := I'.lock hd mu
    exact ⟨_, _, I2, q od⟩
  | brk => exact q
  | cont => exact q
  | ret u => exact q⟩
theorem frz_done {H0 H1 H' : Hp} {p : Addr} {acc : List V} {ds : List PyData} {Q : VK} (e : Ex H0 H1) (h0 : H1 p = none) (e2 : Ex H1 H') (h : H' p = some (.lst acc)) (hd : DqAll K H' acc ds) (q : ∀ v H2, Ex H0 H2 → Dq K H2 v (.list ds) → Q v H2) : frzQ Q (.ref p) H' :=
  ⟨p, _, rfl, h, trivial, fun od => q _ _ (e.trans (Ex.mut e2 h0)) (.lst (.inl ⟨od, upd_same⟩) (dpa_go (p := p) (fun a o n x => by rw [upd_ne n]; exact x) h ds acc rfl hd))⟩
/-! ### expressions that tell data and leave all as it was -/
variable {σ : L2.St} {H : Hp} {ta tb te tc : TE} {t u : TT} {d e z : PyData} {ds : List PyData} {r : R2}
def ED (K : PySem.W.Frag) (te : TE) (σ : L2.St) (H : Hp) (d : PyData) : Prop := ∀ H1, Ex H H1 → ∀ Q : VK, (∀ v H2, Ex H1 H2 → Dq K H2 v d → Q v H2) → te σ H1 Q
def EA (K : PySem.W.Frag) (ta : TA) (σ : L2.St) (H : Hp) (ds : List PyData) : Prop := ∀ H1, Ex H H1 → ∀ Q : List V → Hp → Prop, (∀ vs H2, Ex H1 H2 → DqAll K H2 vs ds → Q vs H2) → ta σ H1 Q
theorem ED.mono {H' : Hp} (e : Ex H H') (h : ED K te σ H d) : ED K te σ H' d := fun H1 a Q q => h H1 (e.trans a) Q q
theorem ed_var {i : Nat} {v : V} (h : σ[i]? = some (some v)) (hd : Dq K H v d) : ED K (tVar i) σ H d := fun H1 e Q q => ⟨v, h, q v H1 (Ex.refl H1) (Dq_ex hd e)⟩
theorem ed_i {i : Int} : ED K (tC (.int i)) σ H (.int i) := fun H1 _ Q q => q _ H1 (Ex.refl H1) (.int i)
theorem ed_n : ED K (tC .non) σ H .none := fun H1 _ Q q => q _ H1 (Ex.refl H1) .non
theorem ed_b {b : Bool} : ED K (tC (.bl b)) σ H (.bool b) := fun H1 _ Q q => q _ H1 (Ex.refl H1) (.bl b)
theorem ed_s {x : Str} : ED K (tC (.str x)) σ H (.str x) := fun H1 _ Q q => q _ H1 (Ex.refl H1) (.str x)
theorem ed_is {d' : PyData} (h : ED K te σ H d) (e : d = d') : ED K te σ H d' := e ▸ h
theorem ea_nil : EA K tNil σ H [] := fun H1 _ Q q => q [] H1 (Ex.refl H1) .nil
theorem ea_cons {tr : TA} (h : ED K te σ H d) (hr : EA K tr σ H ds) : EA K (tCons te tr) σ H (d :: ds) := fun H1 e Q q =>
  h H1 e _ fun v H2 e2 hv => hr H2 (e.trans e2) _ fun vs H3 e3 hvs => q (v :: vs) H3 (e2.trans e3) (.cons (Dq_ex hv e3) hvs)
theorem ed_tup {ta : TA} (h : EA K ta σ H ds) (hl : ds.length ≤ 100000) : ED K (tTupF ta) σ H (.tuple ds) := fun H1 e Q q =>
  h H1 e _ fun vs H2 e2 hv => ⟨sz_of (by rw [dpa_len hv]; exact hl), fun p o hp ho => q _ _ (e2.trans (Ex.new hp)) (.tup (plt_new ho) (DqAll_ex hv (Ex.new hp)))⟩
/-- a new list -/
def NL (K : PySem.W.Frag) (te : TE) (σ : L2.St) (H : Hp) (ds : List PyData) : Prop := ∀ H1, Ex H H1 → ∀ Q : VK, (∀ l acc H2, H1 l = none → Ex H1 H2 → H2 l = some (.lst acc) → DqAll K H2 acc ds → Q (.ref l) H2) → te σ H1 Q
theorem ed_frz (h : NL K te σ H ds) : ED K (tFrz te) σ H (.list ds) := fun H1 e1 Q q => h H1 e1 _ fun l acc H2 a b c d => frz_done (Ex.refl H1) a b c d q
theorem ed_frzO (h : NL K te σ H ds) : ED K (tFrzO te) σ H (.list ds) := fun H1 e1 Q q => h H1 e1 _ fun l acc H2 a b c d => .inl (frz_done (Ex.refl H1) a b c d q)
theorem ed_notFrz (h : ED K te σ H d) : ED K (tFrzO te) σ H d := fun H1 e1 Q q => h H1 e1 _ fun v H2 e2 hv => .inr (q v H2 e2 hv)
theorem nl_is {ds' : List PyData} (h : NL K te σ H ds) (e : ds = ds') : NL K te σ H ds' := e ▸ h
theorem nl_lst {ta : TA} (h : EA K ta σ H ds) (hl : ds.length ≤ 100000) : NL K (tLst ta) σ H ds := fun H1 e Q q =>
  h H1 e _ fun vs H2 e2 hv => ⟨sz_of (by rw [dpa_len hv]; exact hl), fun p hp => q p _ _ (none_of_ex e2 hp) (e2.trans (Ex.new hp)) upd_same (DqAll_ex hv (Ex.new hp))⟩
/-- a list as it stands, locked or not -/
def EM (K : PySem.W.Frag) (te : TE) (σ : L2.St) (H : Hp) (ds : List PyData) : Prop := ∀ H1, Ex H H1 → ∀ Q : VK, (∀ a xs H2, Ex H1 H2 → ML K H2 a xs → DqAll K H2 xs ds → Q (.ref a) H2) → te σ H1 Q
theorem ED.em (h : ED K te σ H (.list ds)) : EM K te σ H ds := fun H1 e1 Q q => h H1 e1 _ fun v H2 e2 hv => by
  cases hv with
  | lst hs ha => exact q _ _ H2 e2 (.inr hs) ha
theorem em_var {i : Nat} {l : Addr} {acc : List V} (h : σ[i]? = some (some (.ref l))) (hl : H l = some (.lst acc)) (hd : DqAll K H acc ds) : EM K (tVar i) σ H ds := fun H1 e Q q => ⟨_, h, q l acc H1 (Ex.refl H1) (.inl (e _ _ hl)) (DqAll_ex hd e)⟩
theorem ed_lst {ta : TA} (h : EA K ta σ H ds) (hl : ds.length ≤ 100000) : ED K (tFrz (tLst ta)) σ H (.list ds) := fun H1 e Q q =>
  h H1 e _ fun vs H2 e2 hv => ⟨sz_of (by rw [dpa_len hv]; exact hl), fun p hp => frz_done e2 hp (Ex.new hp) upd_same (DqAll_ex hv (Ex.new hp)) q⟩
/-- what an operator tells of data -/
def RD (K : PySem.W.Frag) (r : R2) (d e z : PyData) : Prop := ∀ (H : Hp) (x y : V), Dq K H x d → Dq K H y e → ∀ Q : VK, (∀ v H', Ex H H' → Dq K H' v z → Q v H') → r x y H Q
theorem ed_op (ha : ED K ta σ H d) (hb : ED K tb σ H e) (hr : RD K r d e z) : ED K (tOp r ta tb) σ H z := fun H1 e1 Q q =>
  ha H1 e1 _ fun x H2 e2 hx => hb H2 (e1.trans e2) _ fun y H3 e3 hy => hr H3 x y (Dq_ex hx e3) hy Q fun v H4 e4 hv => q v H4 ((e2.trans e3).trans e4) hv
theorem rd_I {C : Int → Int → Prop} {g : Int → Int → V} {i j : Int} (hc : C i j) (hz : ∀ H, Dq K H (g i j) z) : RD K (rI C g) (.int i) (.int j) z := fun H x y hx hy Q q => by
  cases hx
  cases hy
  exact ⟨i, j, rfl, rfl, hc, q _ H (Ex.refl H) (hz H)⟩
theorem rd_I0 {g : Int → Int → V} {i j : Int} (hz : ∀ H, Dq K H (g i j) z) : RD K (rI0 g) (.int i) (.int j) z := fun H x y hx hy Q q => by
  cases hx
  cases hy
  exact ⟨i, j, rfl, rfl, q _ H (Ex.refl H) (hz H)⟩
theorem rd_ixT {n : Nat} (h : ds[n]? = some z) : RD K (rIxT K) (.tuple ds) (.int (n : Int)) z := fun H x y hx hy Q q => by
  cases hy
  cases hx with
  | tup hs ha =>
    obtain ⟨v, hv, hd⟩ := dpa_put ha h
    exact ⟨_, _, _, v, rfl, rfl, hs.sq, atI_nat hv, q v H (Ex.refl H) hd⟩
theorem rd_ixL {n : Nat} (h : ds[n]? = some z) : RD K (rIxL K) (.list ds) (.int (n : Int)) z := fun H x y hx hy Q q => by
  cases hy
  cases hx with
  | lst hs ha =>
    obtain ⟨v, hv, hd⟩ := dpa_put ha h
    exact ⟨_, _, _, v, rfl, rfl, hs.sq, atI_nat hv, q v H (Ex.refl H) hd⟩
theorem em_ix {n : Nat} (ha : EM K ta σ H ds) (h : ds[n]? = some z) : ED K (tOp (rIxL K) ta (tC (.int (n : Int)))) σ H z := fun H1 e1 Q q =>
  ha H1 e1 _ fun a xs H2 e2 hs hd => by
    obtain ⟨v, hv, hz⟩ := dpa_put hd h
    exact ⟨_, _, _, v, rfl, rfl, hs.sq, atI_nat hv, q v H2 e2 hz⟩
theorem ed_neM (ha : EM K ta σ H ds) (hb : ED K tb σ H e) (h1 : SeqAt.shaped (.list ds) = true) (h2 : SeqAt.shaped e = true) : ED K (tOp (rNeD K) ta tb) σ H (.bool (!PyData.eqv (.list ds) e)) := fun H1 e1 Q q =>
  ha H1 e1 _ fun a xs H2 e2 hs hd => hb H2 (e1.trans e2) _ fun y H3 e3 hy =>
    ⟨.list ds, e, .lst (ex_l e3 hs.sq) (DqAll_ex hd e3).dp, hy.dp, h1, h2, q _ H3 (e2.trans e3) (.bl _)⟩
theorem rd_eqD (h1 : SeqAt.shaped d = true) (h2 : SeqAt.shaped e = true) : RD K (rEqD K) d e (.bool (PyData.eqv d e)) := fun H x y hx hy Q q =>
  ⟨d, e, hx.dp, hy.dp, h1, h2, q _ H (Ex.refl H) (.bl _)⟩
theorem rd_neD (h1 : SeqAt.shaped d = true) (h2 : SeqAt.shaped e = true) : RD K (rNeD K) d e (.bool (!PyData.eqv d e)) := fun H x y hx hy Q q =>
  ⟨d, e, hx.dp, hy.dp, h1, h2, q _ H (Ex.refl H) (.bl _)⟩
theorem dp_scal_int {v : V} {i : Int} (h : Dq K H v (.int i)) : v = .int i := by cases h; rfl
theorem ed_un {r : V → Hp → VK → Prop} (ha : ED K ta σ H d) (hr : ∀ (H : Hp) (x : V), Dq K H x d → ∀ Q : VK, (∀ v H', Ex H H' → Dq K H' v z → Q v H') → r x H Q) : ED K (tUn r ta) σ H z := fun H1 e1 Q q =>
  ha H1 e1 _ fun x H2 e2 hx => hr H2 x hx Q fun v H3 e3 hv => q v H3 (e2.trans e3) hv
theorem ed_neg {i : Int} (ha : ED K ta σ H (.int i)) : ED K (tUn (rU fun i => .int (-i)) ta) σ H (.int (-i)) := ed_un ha fun H x hx Q q => by
  cases hx
  exact ⟨i, rfl, q _ H (Ex.refl H) (.int _)⟩
/-- calls of built-ins -/
def RB (K : PySem.W.Frag) (r : List V → Hp → VK → Prop) (ds : List PyData) (z : PyData) : Prop := ∀ (H : Hp) (vs : List V), DqAll K H vs ds → ∀ Q : VK, (∀ v H', Ex H H' → Dq K H' v z → Q v H') → r vs H Q
theorem ed_cb {r : List V → Hp → VK → Prop} {ta : TA} (h : EA K ta σ H ds) (hr : RB K r ds z) : ED K (tCB r ta) σ H z := fun H1 e1 Q q =>
  h H1 e1 _ fun vs H2 e2 hv => hr H2 vs hv Q fun v H3 e3 hv3 => q v H3 (e2.trans e3) hv3
/-- a def that tells data of data -/
def spR (K : PySem.W.Frag) (n : Nat) (R : List PyData → PyData → Prop) : Sp := fun vs H Q _ => ∃ ds d, ds.length = n ∧ DqAll K H vs ds ∧ R ds d ∧ ∀ v H', Ex H H' → Dq K H' v d → Q v H'
theorem len_spR {n : Nat} {R : List PyData → PyData → Prop} {vs : List V} {Q : VK} {E : XK} (h : spR K n R vs H Q E) : vs.length = n := by
  obtain ⟨ds, d, hl, hv, _⟩ := h
  exact (dpa_len hv).trans hl
def rFrz (r : List V → Hp → VK → Prop) : List V → Hp → VK → Prop := fun vs H Q => r vs H (frzQ Q)
theorem ed_cbF {r : List V → Hp → VK → Prop} {ta : TA} (h : EA K ta σ H ds) (hr : RB K (rFrz r) ds z) : ED K (tFrz (tCB r ta)) σ H z := fun H1 e1 Q q =>
  h H1 e1 _ fun vs H2 e2 hv => hr H2 vs hv Q fun v H3 e3 hv3 => q v H3 (e2.trans e3) hv3
theorem ed_call {n : Nat} {R : List PyData → PyData → Prop} {E : XK} {ta : TA} (h : EA K ta σ H ds) (hr : R ds z) (hl : ds.length = n := by rfl) : ED K (tCall (spR K n R) [] E ta) σ H z := fun H1 e1 Q q =>
  h H1 e1 _ fun vs H2 e2 hv => ⟨ds, z, hl, by rw [List.append_nil]; exact hv, hr, fun v H3 e3 hv3 => q v H3 (e2.trans e3) hv3⟩
/-- tests -/
theorem et_D {b : Bool} (h : ED K te σ H (.bool b)) : EvT (tTest te) σ H b := fun H1 e1 Q q => h H1 e1 _ fun v H2 e2 hv => by
  cases hv
  exact ⟨b, rfl, q H2 e2⟩
theorem et_DB {b : Bool} (h : ED K te σ H (.bool b)) : EvT (tB te) σ H b := fun H1 e1 Q q => h H1 e1 _ fun v H2 e2 hv => by
  cases hv
  exact ⟨b, rfl, q H2 e2⟩
theorem ed_if {b : Bool} (h : EvT t σ H b) (h1 : b = true → ED K ta σ H d) (h2 : b = false → ED K tb σ H d) : ED K (tIf t ta tb) σ H d := fun H1 e1 Q q => h H1 e1 _ fun H2 e2 => by
  cases b with
  | true => exact h1 rfl H2 (e1.trans e2) Q fun v H3 e3 hv => q v H3 (e2.trans e3) hv
  | false => exact h2 rfl H2 (e1.trans e2) Q fun v H3 e3 hv => q v H3 (e2.trans e3) hv
theorem ed_and {a b : Bool} (h1 : ED K ta σ H (.bool a)) (h2 : a = true → ED K tb σ H (.bool b)) : ED K (tAndV ta tb) σ H (.bool (a && b)) := fun H1 e1 Q q => h1 H1 e1 _ fun v H2 e2 hv => by
  cases hv
  refine ⟨a, rfl, ?_⟩
  cases a with
  | true => exact h2 rfl H2 (e1.trans e2) Q fun v H3 e3 hv => q v H3 (e2.trans e3) hv
  | false => exact q _ H2 e2 (.bl _)
theorem ed_or {a b : Bool} (h1 : ED K ta σ H (.bool a)) (h2 : a = false → ED K tb σ H (.bool b)) : ED K (tOrV ta tb) σ H (.bool (a || b)) := fun H1 e1 Q q => h1 H1 e1 _ fun v H2 e2 hv => by
  cases hv
  refine ⟨a, rfl, ?_⟩
  cases a with
  | false => exact h2 rfl H2 (e1.trans e2) Q fun v H3 e3 hv => q v H3 (e2.trans e3) hv
  | true => exact q _ H2 e2 (.bl _)
theorem ed_not {a : Bool} (h1 : ED K ta σ H (.bool a)) : ED K (tNotV ta) σ H (.bool (!a)) := fun H1 e1 Q q => h1 H1 e1 _ fun v H2 e2 hv => by
  cases hv
  exact ⟨a, rfl, q _ H2 e2 (.bl _)⟩
theorem ed_chain {r r' : R2} {a b : Bool} {x y w : PyData} (ha : ED K ta σ H x) (hb : ED K tb σ H y) (hc : ED K tc σ H w) (h1 : RD K r x y (.bool a)) (h2 : a = true → RD K r' y w (.bool b)) : ED K (tChain r r' ta tb tc) σ H (.bool (a && b)) := fun H1 e1 Q q =>
  ha H1 e1 _ fun v1 H2 e2 hv1 => hb H2 (e1.trans e2) _ fun v2 H3 e3 hv2 => h1 H3 v1 v2 (Dq_ex hv1 e3) hv2 _ fun v3 H4 e4 hv3 => by
    cases hv3
    refine ⟨a, rfl, ?_⟩
    cases a with
    | false => exact q _ H4 ((e2.trans e3).trans e4) (.bl _)
    | true =>
      refine hc H4 (((e1.trans e2).trans e3).trans e4) _ fun v5 H5 e5 hv5 => ?_
      exact h2 rfl H5 v2 v5 (Dq_ex (Dq_ex hv2 e4) e5) hv5 Q fun v6 H6 e6 hv6 => q v6 H6 ((((e2.trans e3).trans e4).trans e5).trans e6) hv6

/-! ### statements -/
variable {D : Ends} {tu tw tz : TS} {g : TG}
theorem q_asgD {i : Nat} (h : ED K te σ H d) (k : ∀ v H1, Ex H H1 → Dq K H1 v d → tz D (σ.set i (some v)) H1) : tSeq (tAsg te (gName i)) tz D σ H := h H (Ex.refl H) _ fun v H1 e1 hv => k v H1 e1 hv
theorem s_asgD {i : Nat} (h : ED K te σ H d) (k : ∀ v H1, Ex H H1 → Dq K H1 v d → D.nx (σ.set i (some v)) H1) : tAsg te (gName i) D σ H := h H (Ex.refl H) _ fun v H1 e1 hv => k v H1 e1 hv
theorem s_retD (h : ED K te σ H d) (k : ∀ v H1, Ex H H1 → Dq K H1 v d → D.rt v H1) : tRet te D σ H := h H (Ex.refl H) _ k
theorem s_dropD (h : ED K te σ H d) (k : ∀ H1, Ex H H1 → D.nx σ H1) : tDrop te D σ H := h H (Ex.refl H) _ fun _ H1 e1 _ => k H1 e1
/-- x, y = a, b: a tuple is made, or not -/
theorem par_D {i j : Nat} {ta : TA} {x y : PyData} (h : EA K ta σ H [x, y]) (k : ∀ v w H1, Ex H H1 → Dq K H1 v x → Dq K H1 w y → D.nx ((σ.set i (some v)).set j (some w)) H1) : tPar i j ta D σ H := h H (Ex.refl H) _ fun vs H1 e1 hv => by
  cases hv with
  | cons h1 h2 =>
    cases h2 with
    | cons h3 h4 =>
      cases h4
      exact ⟨_, _, rfl, k _ _ H1 e1 h1 h3⟩
/-- targets that are tuples -/
theorem g_two {i j : Nat} {v : V} {x y : PyData} {Q : L2.St → Hp → Prop} (h : Dq K H v (.tuple [x, y])) (k : ∀ a b, Dq K H a x → Dq K H b y → Q ((σ.set i (some a)).set j (some b)) H) : gTup K 2 (gCons (gName i) (gCons (gName j) gNil)) v σ H Q := by
  cases h with
  | tup hs ha =>
    cases ha with
    | cons h1 h2 =>
      cases h2 with
      | cons h3 h4 =>
        cases h4
        exact ⟨_, _, rfl, hs.sq, rfl, _, _, rfl, _, _, rfl, rfl, k _ _ h1 h3⟩
theorem g_three {i j l : Nat} {v : V} {x y w : PyData} {Q : L2.St → Hp → Prop} (h : Dq K H v (.tuple [x, y, w])) (k : ∀ a b c, Dq K H a x → Dq K H b y → Dq K H c w → Q (((σ.set i (some a)).set j (some b)).set l (some c)) H) :
    gTup K 3 (gCons (gName i) (gCons (gName j) (gCons (gName l) gNil))) v σ H Q := by
  cases h with
  | tup hs ha =>
    cases ha with
    | cons h1 h2 =>
      cases h2 with
      | cons h3 h4 =>
        cases h4 with
        | cons h5 h6 =>
          cases h6
          exact ⟨_, _, rfl, hs.sq, rfl, _, _, rfl, _, _, rfl, _, _, rfl, rfl, k _ _ _ h1 h3 h5⟩
theorem q_asg2D {i j : Nat} {x y : PyData} (h : ED K te σ H (.tuple [x, y])) (k : ∀ a b H1, Ex H H1 → Dq K H1 a x → Dq K H1 b y → tz D ((σ.set i (some a)).set j (some b)) H1) : tSeq (tAsg te (gTup K 2 (gCons (gName i) (gCons (gName j) gNil)))) tz D σ H :=
  h H (Ex.refl H) _ fun v H1 e1 hv => g_two hv fun a b ha hb => k a b H1 e1 ha hb
theorem q_asg3D {i j l : Nat} {x y w : PyData} (h : ED K te σ H (.tuple [x, y, w])) (k : ∀ a b c H1, Ex H H1 → Dq K H1 a x → Dq K H1 b y → Dq K H1 c w → tz D (((σ.set i (some a)).set j (some b)).set l (some c)) H1) :
    tSeq (tAsg te (gTup K 3 (gCons (gName i) (gCons (gName j) (gCons (gName l) gNil))))) tz D σ H :=
  h H (Ex.refl H) _ fun v H1 e1 hv => g_three hv fun a b c ha hb hc => k a b c H1 e1 ha hb hc
/-! tuples that are not known to be plain: taken apart at once -/
def ES (K : PySem.W.Frag) (te : TE) (σ : L2.St) (H : Hp) (ds : List PyData) : Prop := ∀ H1, Ex H H1 → ∀ Q : VK, (∀ a xs H2, Ex H1 H2 → SqT K H2 a xs → DqAll K H2 xs ds → Q (.ref a) H2) → te σ H1 Q
theorem q_asg2S {i j : Nat} {x y : PyData} (h : ES K te σ H [x, y]) (k : ∀ a b H1, Ex H H1 → Dq K H1 a x → Dq K H1 b y → tz D ((σ.set i (some a)).set j (some b)) H1) : tSeq (tAsg te (gTup K 2 (gCons (gName i) (gCons (gName j) gNil)))) tz D σ H :=
  h H (Ex.refl H) _ fun p xs H1 e1 hs ha => by
    cases ha with
    | cons h1 h2 =>
    cases h2 with
    | cons h3 h4 =>
    cases h4
    exact ⟨_, _, rfl, hs, rfl, _, _, rfl, _, _, rfl, rfl, k _ _ H1 e1 h1 h3⟩
theorem q_asg3S {i j l : Nat} {x y w : PyData} (h : ES K te σ H [x, y, w]) (k : ∀ a b c H1, Ex H H1 → Dq K H1 a x → Dq K H1 b y → Dq K H1 c w → tz D (((σ.set i (some a)).set j (some b)).set l (some c)) H1) :
    tSeq (tAsg te (gTup K 3 (gCons (gName i) (gCons (gName j) (gCons (gName l) gNil))))) tz D σ H :=
  h H (Ex.refl H) _ fun p xs H1 e1 hs ha => by
    cases ha with
    | cons h1 h2 =>
    cases h2 with
    | cons h3 h4 =>
    cases h4 with
    | cons h5 h6 =>
    cases h6
    exact ⟨_, _, rfl, hs, rfl, _, _, rfl, _, _, rfl, _, _, rfl, rfl, k _ _ _ H1 e1 h1 h3 h5⟩
theorem es_ix {n : Nat} (ha : ES K ta σ H ds) (h : ds[n]? = some z) : ED K (tOp (rIxT K) ta (tC (.int (n : Int)))) σ H z := fun H1 e1 Q q =>
  ha H1 e1 _ fun a xs H2 e2 hs hd => by
    obtain ⟨v, hv, hz⟩ := dpa_put hd h
    exact ⟨_, _, _, v, rfl, rfl, hs, atI_nat hv, q v H2 e2 hz⟩
/-! ### list + list -/
def rCatK (K : PySem.W.Frag) : R2 := fun x y H Q => ∃ l b xs zs, x = .ref l ∧ y = .ref b ∧ ML K H l xs ∧ ML K H b zs ∧ xs.length + zs.length ≤ sizeLine ∧ ∀ p, H p = none → Q (.ref p) (upd H p (.lst (xs ++ zs)))
theorem op_catK {X : Cx} (hK : X.K = K) : OpR X (binaryOp .Add) (rCatK K) := by
  subst hK
  intro pins s σ H x y v u Q I rx ry h
  obtain ⟨l, b, xs, zs, rfl, rfl, hH, hB, hz, q⟩ := h
  cases rx
  cases ry
  obtain ⟨its, n, r, e, z1⟩ := hH.isL I
  obtain ⟨its2, n2, r2, e2, z2⟩ := hB.isL I
  have l1 := r.length
  have l2 := r2.length
  refine PySem.P.add_list e e2 ?_ (by rw [List.size_toArray, List.size_toArray]; omega)
  have ea : its.toArray ++ its2.toArray = (its ++ its2).toArray := by simp
  rw [ea]
  exact ⟨.ref _, _, I.lnew (t' := s.toks) (r.append r2) (by rw [List.length_append]; omega), rfl, q _ I.fresh⟩
theorem nl_cat {es : List PyData} (ha : EM K ta σ H ds) (hb : EM K tb σ H es) (hz : ds.length + es.length ≤ 100000) : NL K (tOp (rCatK K) ta tb) σ H (ds ++ es) := fun H1 e1 Q q =>
  ha H1 e1 _ fun a xs H2 e2 hs hd => hb H2 (e1.trans e2) _ fun b zs H3 e3 hs3 hd3 =>
    ⟨a, b, xs, zs, rfl, rfl, hs.ex e3, hs3, sz_of (by rw [dpa_len hd, dpa_len hd3]; exact hz), fun p hp => q p _ _ (none_of_ex (e2.trans e3) hp) ((e2.trans e3).trans (Ex.new hp)) upd_same (dpa_app (DqAll_ex hd (e3.trans (Ex.new hp))) (DqAll_ex hd3 (Ex.new hp)))⟩
theorem ed_catL {es : List PyData} (ha : EM K ta σ H ds) (hb : EM K tb σ H es) (hz : ds.length + es.length ≤ 100000) : ED K (tFrz (tOp (rCatK K) ta tb)) σ H (.list (ds ++ es)) := ed_frz (nl_cat ha hb hz)
end My

namespace My
open PySem PySem.Spec PyProof.Rows L2 Evl
/-! ### a def of the text by its name -/
def Ok (P : Program) (w : World) (K : PySem.W.Frag) (mg : Str → Option Value) (base : Heap) (k : Nat) (x : Str) (ps : List Str) (sp : Sp) : Prop :=
  ∃ fd, FnOk P w K mg base CX0 k (He.ga K x) fd ps sp ∧ Binds K fd ps [] ∧ PySem.W.keepIn K (.ref (He.ga K x)) = true ∧ mg x = some (.ref (He.ga K x))
theorem Ok.mk {P : Program} {w : World} {K : PySem.W.Frag} {mg : Str → Option Value} {base : Heap} {k : Nat} {x : Str} {st : Stmt} {N ps : List Str} {sp : Sp}
    (hF : ∃ fd, FunD K x x (defArgs st) (defBody st) (defScope st) [] [] (He.ga K x) fd) (S : FnScope N ps (defScope st)) (gm : mg x = some (.ref (He.ga K x)))
    (hb : ∀ (kV doc pm : Value) (an : Option Addr) (cdv ct : Value) (us : List Value), us.length = ps.length → bindArgs (PySem.W.fnOf x x (defArgs st) (defBody st) (defScope st) .none kV doc pm an cdv ct) ⟨us, []⟩ = pure (ps.zip us))
    (len : ∀ vs H Q E, sp vs H Q E → vs.length = ps.length)
    (body : ∀ (cdv : Value) (A : Around) (outer : List Env) (s : Shared) (H : Hp) (vs : List V) (Q : VK) (E : XK), Room k (A.deeper (envOfC x (defScope st) s.heap.objs.size (He.ga K x) cdv)) → sp vs H Q E →
      ∃ t, PSs (cxOf CX0 P w K mg base N x (defScope st) (He.ga K x) cdv A outer s H E) (defBody st) t ∧ t { nx := fun _ H' => Q .non H', rt := Q } (start N vs) H) :
    Ok P w K mg base (k + 1) x ps sp := by
  obtain ⟨fd, F⟩ := hF
  exact ⟨fd, F.ok S len body, F.bindsN hb, F.kp, gm⟩
theorem pcall {X : Cx} {k : Nat} {x : Str} {ps : List Str} {sp : Sp} {p pos : Pos} {e : Expr} {es : List Expr} {t : TA} (O : Ok X.prog X.w X.K X.mg X.base k x ps sp) (hr : Room k X.A) (hg : Gl X x) (ha : PA X (e :: es) t)
    (hdb : (x == ("__debug__" : Str)) = false := by decide) (he : starEach (e :: es) X.env = (false, eval e X.env) :: starEach es X.env := by rfl) (hpl : (backTo pos (starEach es X.env)).any (·.1) = false := by rfl) :
    PE X (.Call (.Name x p) (e :: es) [] pos) (tCall sp [] E0 t) := by
  obtain ⟨fd, G, b, kp, gm⟩ := O
  exact pe_call G hr hg gm kp b .nil pass0 ha hdb he hpl
/-! ### the same context, a unit deeper -/
theorem inv_in1 {X : Cx} {pins : List (Addr × Obj)} {σ : L2.St} {H : Hp} {s : Shared} (I : Inv X pins σ H s) : Inv { X with A := X.A.in1 } pins σ H s :=
  { ok := { mod := I.ok.mod, kind := I.ok.kind, glob := I.ok.glob, blt := I.ok.blt, above := I.ok.above, inj := I.ok.inj, has := I.ok.has, cab := I.ok.cab, hd := I.ok.hd, frames := I.ok.frames, stk := I.ok.stk, exf := I.ok.exf, bs := I.ok.bs, bsz := I.ok.bsz, noex := I.ok.noex, exfs := I.ok.exfs, funs := I.ok.funs, frf := I.ok.frf }
    os := I.os, bare := I.bare, base := I.base, loc := I.loc, cell := I.cell, free := I.free, freeC := I.freeC, pin := I.pin, hok := I.hok, len := I.len }
theorem inv_out1 {X : Cx} {pins : List (Addr × Obj)} {σ : L2.St} {H : Hp} {s : Shared} (ok : X.Ok) (I : Inv { X with A := X.A.in1 } pins σ H s) : Inv X pins σ H s :=
  { ok := ok, os := I.os, bare := I.bare, base := I.base, loc := I.loc, cell := I.cell, free := I.free, freeC := I.freeC, pin := I.pin, hok := I.hok, len := I.len }
/-! ### repr of data -/
section
variable {X : Cx}
theorem call_reprD (hg : X.A.guards = some []) (hu : X.A.units + 64 < cLine) : CallR X (.builtin "repr") (fun xs H Q => ∃ v d, xs = [v] ∧ Dq X.K H v d ∧ d.showable = true ∧ d.hasDict = false ∧ d.depth < 60 ∧ d.shown.length ≤ sizeLine ∧ (match d with | .tuple _ => True | _ => False) ∧ Q (.str d.shown) H) := by
  intro pins s σ H xs us Q I r h
  obtain ⟨v, d, rfl, hd, h1, h2, h3, h4, h5, q⟩ := h
  obtain ⟨u, rfl, ru⟩ := vals1 r
  obtain ⟨as, hr⟩ := Dp.reads I d v u hd.dp ru
  cases d with
  | tuple ds =>
    cases hd with
    | tup hs ha =>
      cases ru
      refine repr_of_reads' hr h1 (fun z => by rw [h2] at z; cases z) hg (by omega) (fun _ _ e => e) (fun h' u tk hk => ?_) h4
      exact ⟨.str _, H, I.kept hk, ⟨_, rfl⟩, q⟩
  | _ => cases h5
end
/-! ### rules whose reading names the written part by a letter of one's own -/
section
variable {X : Cx} {K : PySem.W.Frag} {tg : Expr}
theorem ix_tupK (h : X.K = K) : IxR X (rIxT K) := h ▸ ix_tup
theorem ix_listK (h : X.K = K) : IxR X (rIxL K) := h ▸ ix_list
theorem op_eqDK (h : X.K = K) (hu : X.A.units + 64 < cLine) : OpR X (compareOp .Eq) (rEqD K) := h ▸ op_eqD hu
theorem op_neDK (h : X.K = K) (hu : X.A.units + 64 < cLine) : OpR X (compareOp .NotEq) (rNeD K) := h ▸ op_neD hu
theorem cr_allK (h : X.K = K) (hc : X.calm = true) : CallR X (.builtin "all") (rAll K) := h ▸ cr_all hc
theorem cr_anyK (h : X.K = K) (hc : X.calm = true) : CallR X (.builtin "any") (rAny K) := h ▸ cr_any hc
theorem cr_sumK (h : X.K = K) (hc : X.calm = true) : CallR X (.builtin "sum") (rSum K) := h ▸ cr_sum hc
theorem call_isiK1 (h : X.K = K) : CallR X (.builtin "isinstance") (rIsi K) := h ▸ call_isi
def rLenD (K : PySem.W.Frag) : List V → Hp → VK → Prop := fun xs H Q => ∃ x n, xs = [x] ∧ LenV K x H n ∧ Q (.int n) H
theorem call_lenK (h : X.K = K) : CallR X (.builtin "len") (rLenD K) := h ▸ call_len
abbrev rTupOf (K : PySem.W.Frag) : List V → Hp → VK → Prop := rTupF K
def rLstOf (K : PySem.W.Frag) : List V → Hp → VK → Prop := fun xs H Q => ∃ a ys, xs = [.ref a] ∧ (SqL K H a ys ∨ SqT K H a ys) ∧ ∀ p, H p = none → Q (.ref p) (upd H p (.lst ys))
theorem call_tupleK (h : X.K = K) : CallR X (.type "tuple") (rTupOf K) := call_tupleF h
theorem call_listK (h : X.K = K) : CallR X (.type "list") (rLstOf K) := by
  subst h
  intro pins s σ H xs us Q I r q
  obtain ⟨a, ys, e, hs, q⟩ := q
  exact call_list_of pins s σ H xs us Q I r ⟨a, ys, e, hs, q⟩
theorem sl_listK (h : X.K = K) : SlR X (rSlL K) := h ▸ sl_list
theorem sl_tupK (h : X.K = K) : SlR X (rSlT K) := h ▸ sl_tup
theorem pi_listK (h : X.K = K) {l : Expr} {tl : TE} (hl : PE X l tl) : PI X tg l (iList K tl) := by
  subst h
  exact pi_list hl
theorem pi_tupK (h : X.K = K) {l : Expr} {tl : TE} (hl : PE X l tl) : PI X tg l (iTup K tl) := by
  subst h
  exact pi_tup hl
theorem pg_tupK (h : X.K = K) {es : List Expr} {k : Nat} {t : TGs} {pos : Pos} {n : Nat} (hc : X.calm = true) (h2 : PGs X es t)
    (hn : (assignEach es X.env).length = n := by rfl) (hst : (assignEach es X.env).findIdx? (·.1) = none := by rfl) : PG X (.Tuple es k pos) (gTup K n t) := by
  subst h
  exact pg_tup hc h2 hn hst
theorem pi_zipK (h : X.K = K) {e e2 : Expr} {ta : TA} {p pos tpos : Pos} {elts : List Expr} {kk : Nat} (hg : Gl X "zip") (hm : X.mg "zip" = none) (ha : PA X [e, e2] ta)
    (hs : starEach [e, e2] X.env = (false, eval e X.env) :: starEach [e2] X.env := by rfl) (hpl : (backTo pos (starEach [e2] X.env)).any (·.1) = false := by rfl) :
    PI X (.Tuple elts kk tpos) (.Call (.Name "zip" p) [e, e2] [] pos) (iZip K ta) := by
  subst h
  exact pi_zip hg hm ha hs hpl
end
end My

namespace My
open PySem PySem.Spec PyProof.Rows L2 Evl
/-! ### fractions are the core's Rat -/
/-- the pair that tells a fraction -/
def eF (q : Rat) : PyData := .tuple [.int q.num, .int q.den]
theorem imm_eF (q : Rat) : imm (eF q) = true := rfl
theorem norm_num (t : Int) (l : Nat) (h : l ≠ 0) : (mkRat t l).num = t / ((Int.gcd t l : Nat) : Int) := by
  unfold mkRat
  rw [dif_neg h, Rat.normalize_eq]
  rfl
theorem norm_den (t : Int) (l : Nat) (h : l ≠ 0) : (((mkRat t l).den : Nat) : Int) = (l : Int) / ((Int.gcd t l : Nat) : Int) := by
  unfold mkRat
  rw [dif_neg h, Rat.normalize_eq]
  simp [Int.gcd]
theorem add_mk (a b : Rat) : a + b = mkRat (a.num * b.den + b.num * a.den) (a.den * b.den) := by
  rw [Rat.add_def]
  unfold mkRat
  rw [dif_neg]
theorem sub_mk (a b : Rat) : a - b = mkRat (a.num * b.den - b.num * a.den) (a.den * b.den) := by
  rw [Rat.sub_def]
  unfold mkRat
  rw [dif_neg]
theorem mul_mk (a b : Rat) : a * b = mkRat (a.num * b.num) (a.den * b.den) := by
  rw [Rat.mul_def]
  unfold mkRat
  rw [dif_neg]
/-- bounds by powers of two -/
def Sm (k : Nat) (q : Rat) : Prop := q.num.natAbs < 2 ^ k ∧ q.den < 2 ^ k
theorem mk_sm {k : Nat} {t : Int} {l : Nat} (h1 : t.natAbs < 2 ^ k) (h2 : l < 2 ^ k) (h : l ≠ 0) : Sm k (mkRat t l) := by
  unfold mkRat
  rw [dif_neg h, Rat.normalize_eq]
  refine ⟨Nat.lt_of_le_of_lt ?_ h1, Nat.lt_of_le_of_lt (Nat.div_le_self _ _) h2⟩
  show (t / ((t.natAbs.gcd l : Nat) : Int)).natAbs ≤ _
  exact Int.natAbs_ediv_le_natAbs _ _
theorem Sm.mono {k m : Nat} {q : Rat} (h : Sm k q) (hk : k ≤ m) : Sm m q := ⟨Nat.lt_of_lt_of_le h.1 (Nat.pow_le_pow_right (by decide) hk), Nat.lt_of_lt_of_le h.2 (Nat.pow_le_pow_right (by decide) hk)⟩
theorem natAbs_mul_lt {a b : Int} {k m : Nat} (h1 : a.natAbs < 2 ^ k) (h2 : b.natAbs < 2 ^ m) : (a * b).natAbs < 2 ^ (k + m) := by
  rw [Int.natAbs_mul, Nat.pow_add]
  exact Nat.mul_lt_mul'' h1 h2
theorem den_lt {q : Rat} {k : Nat} (h : q.den < 2 ^ k) : ((q.den : Nat) : Int).natAbs < 2 ^ k := h
theorem cross_lt {a b : Rat} {k m : Nat} (ha : Sm k a) (hb : Sm m b) : (a.num * b.den).natAbs < 2 ^ (k + m) := natAbs_mul_lt ha.1 (den_lt hb.2)
theorem dens_lt {a b : Rat} {k m : Nat} (ha : Sm k a) (hb : Sm m b) : a.den * b.den < 2 ^ (k + m) := by
  rw [Nat.pow_add]
  exact Nat.mul_lt_mul'' ha.2 hb.2
theorem sum_lt {x y : Int} {k : Nat} (h1 : x.natAbs < 2 ^ k) (h2 : y.natAbs < 2 ^ k) : (x + y).natAbs < 2 ^ (k + 1) := by
  rw [Nat.pow_succ]
  omega
theorem dif_lt {x y : Int} {k : Nat} (h1 : x.natAbs < 2 ^ k) (h2 : y.natAbs < 2 ^ k) : (x - y).natAbs < 2 ^ (k + 1) := by
  rw [Nat.pow_succ]
  omega
theorem den_pos (q : Rat) : 0 < q.den := Nat.pos_of_ne_zero q.den_nz
theorem dens_ne (a b : Rat) : a.den * b.den ≠ 0 := Nat.mul_ne_zero a.den_nz b.den_nz
theorem add_sm {a b : Rat} {k m : Nat} (ha : Sm k a) (hb : Sm m b) : Sm (k + m + 1) (a + b) := by
  rw [add_mk]
  refine mk_sm (sum_lt (cross_lt ha hb) ?_) (Nat.lt_of_lt_of_le (dens_lt ha hb) (Nat.pow_le_pow_right (by decide) (by omega))) (dens_ne a b)
  rw [Nat.add_comm k m]
  exact cross_lt hb ha
theorem sub_sm {a b : Rat} {k m : Nat} (ha : Sm k a) (hb : Sm m b) : Sm (k + m + 1) (a - b) := by
  rw [sub_mk]
  refine mk_sm (dif_lt (cross_lt ha hb) ?_) (Nat.lt_of_lt_of_le (dens_lt ha hb) (Nat.pow_le_pow_right (by decide) (by omega))) (dens_ne a b)
  rw [Nat.add_comm k m]
  exact cross_lt hb ha
theorem mul_sm {a b : Rat} {k m : Nat} (ha : Sm k a) (hb : Sm m b) : Sm (k + m) (a * b) := by
  rw [mul_mk]
  exact mk_sm (natAbs_mul_lt ha.1 hb.1) (dens_lt ha hb) (dens_ne a b)
/-! ### what the small defs tell -/
def rDivisor (ds : List PyData) (d : PyData) : Prop := ∃ a b : Int, ds = [.int a, .int b] ∧ d = .int (Int.gcd a b : Nat)
def rLowest (ds : List PyData) (d : PyData) : Prop := ∃ (t : Int) (l : Nat), ds = [.int t, .int l] ∧ l ≠ 0 ∧ t.natAbs < 2 ^ 8000 ∧ l < 2 ^ 8000 ∧ d = eF (mkRat t l)
def rFrac2 (f : Rat → Rat → Rat) (ds : List PyData) (d : PyData) : Prop := ∃ a b : Rat, ds = [eF a, eF b] ∧ Sm 3900 a ∧ Sm 3900 b ∧ d = eF (f a b)
abbrev spDivisor (K : PySem.W.Frag) : Sp := spR K 2 rDivisor
abbrev spLowest (K : PySem.W.Frag) : Sp := spR K 2 rLowest
abbrev spAdded (K : PySem.W.Frag) : Sp := spR K 2 (rFrac2 (· + ·))
abbrev spTaken (K : PySem.W.Frag) : Sp := spR K 2 (rFrac2 (· - ·))
abbrev spTimesOf (K : PySem.W.Frag) : Sp := spR K 2 (rFrac2 (· * ·))
theorem le1 : 1 ≤ 100000 := by decide
theorem le2 : 2 ≤ 100000 := by decide
theorem le3 : 3 ≤ 100000 := by decide
theorem le0 : 0 ≤ 100000 := by decide
/-! ### operators on ints, as data -/
variable {K : PySem.W.Frag}
theorem rd_add {i j : Int} : RD K (rI0 fun i j => .int (i + j)) (.int i) (.int j) (.int (i + j)) := rd_I0 fun _ => .int _
theorem rd_sub {i j : Int} : RD K (rI0 fun i j => .int (i - j)) (.int i) (.int j) (.int (i - j)) := rd_I0 fun _ => .int _
theorem rd_mul {i j : Int} (h : CMulX i j) : RD K (rI CMulX fun i j => .int (i * j)) (.int i) (.int j) (.int (i * j)) := rd_I h fun _ => .int _
theorem rd_div {i j : Int} (h : CDivW i j) : RD K (rI CDivW fun i j => .int (i / j)) (.int i) (.int j) (.int (i / j)) := rd_I h fun _ => .int _
theorem rd_mod {i j : Int} (h : 0 < j) : RD K (rI (fun _ j => 0 < j) fun i j => .int (i % j)) (.int i) (.int j) (.int (i % j)) := rd_I h fun _ => .int _
theorem rd_lt {i j : Int} : RD K (rI0 fun i j => .bl (decide (i < j))) (.int i) (.int j) (.bool (decide (i < j))) := rd_I0 fun _ => .bl _
theorem rd_le {i j : Int} : RD K (rI0 fun i j => .bl (decide (i ≤ j))) (.int i) (.int j) (.bool (decide (i ≤ j))) := rd_I0 fun _ => .bl _
theorem rd_gt {i j : Int} : RD K (rI0 fun i j => .bl (decide (j < i))) (.int i) (.int j) (.bool (decide (j < i))) := rd_I0 fun _ => .bl _
theorem rd_ge {i j : Int} : RD K (rI0 fun i j => .bl (decide (j ≤ i))) (.int i) (.int j) (.bool (decide (j ≤ i))) := rd_I0 fun _ => .bl _
theorem eqv_int (i j : Int) : PyData.eqv (.int i) (.int j) = decide (i = j) := by
  show (i == j) = _
  exact Bool.beq_eq_decide_eq i j
theorem rd_eqI {i j : Int} : RD K (rEqD K) (.int i) (.int j) (.bool (decide (i = j))) := by
  rw [← eqv_int]
  exact rd_eqD rfl rfl
theorem rd_neI {i j : Int} : RD K (rNeD K) (.int i) (.int j) (.bool (!decide (i = j))) := by
  rw [← eqv_int]
  exact rd_neD rfl rfl
/-- built-ins on ints -/
def rAbs : List V → Hp → VK → Prop := fun xs H Q => ∃ i, xs = [.int i] ∧ Q (.int (if i < 0 then -i else i)) H
theorem rb_abs {i : Int} : RB K (fun xs H Q => ∃ i, xs = [.int i] ∧ Q (.int (if i < 0 then -i else i)) H) [.int i] (.int (i.natAbs : Nat)) := fun H vs hv Q q => by
  cases hv with
  | cons h1 h2 =>
    cases h2
    cases h1
    refine ⟨i, rfl, ?_⟩
    have e : (if i < 0 then -i else i) = ((i.natAbs : Nat) : Int) := by split <;> omega
    rw [e]
    exact q _ H (Ex.refl H) (.int _)
theorem rb_int {i : Int} : RB K (fun xs H Q => (∃ i, xs = [.int i] ∧ Q (.int i) H) ∨ ∃ k, xs = [.bl k] ∧ Q (.int (if k then 1 else 0)) H) [.int i] (.int i) := fun H vs hv Q q => by
  cases hv with
  | cons h1 h2 =>
    cases h2
    cases h1
    exact .inl ⟨i, rfl, q _ H (Ex.refl H) (.int _)⟩
theorem rb_intb {b : Bool} : RB K (fun xs H Q => (∃ i, xs = [.int i] ∧ Q (.int i) H) ∨ ∃ k, xs = [.bl k] ∧ Q (.int (if k then 1 else 0)) H) [.bool b] (.int (if b then 1 else 0)) := fun H vs hv Q q => by
  cases hv with
  | cons h1 h2 =>
    cases h2
    cases h1
    exact .inr ⟨b, rfl, q _ H (Ex.refl H) (.int _)⟩
end My

namespace My
open PySem PySem.Spec PyProof.Rows L2 Evl
variable {K : PySem.W.Frag}
theorem immAll_app {ds es : List PyData} : immAll (ds ++ es) = (immAll ds && immAll es) := rfl
theorem immAll_map {α : Type} {g : α → PyData} {xs : List α} (_ : ∀ x ∈ xs, imm (g x) = true) : immAll (xs.map g) = true := rfl
/-- what a comprehension has made so far stands at D -/
def Cq (K : PySem.W.Frag) (H1 : Hp) (D : Addr) (outs : List PyData) (H' : Hp) : Prop := H1 D = none ∧ Ex H1 H' ∧ immAll outs = true ∧ ∃ acc, H' D = some (.lst acc) ∧ DqAll K H' acc outs
theorem cq_nil {H1 : Hp} {D : Addr} (hD : H1 D = none) : Cq K H1 D [] (upd H1 D (.lst [])) := ⟨hD, Ex.new hD, rfl, [], upd_same, .nil⟩
theorem cq_turn {H1 H' : Hp} {D : Addr} {outs : List PyData} {σ2 : L2.St} {tt : TT} {te : TE} {b : Bool} {z : PyData} {H0 : Hp} (e0 : Ex H0 H1) (p : Cq K H1 D outs H') (hl : outs.length < 50000) (ht : EvT tt σ2 H' b) (he : b = true → ED K te σ2 H' z) (him : b = true → imm z = true) :
    tt σ2 H' fun b' H3 => if b' = true then te σ2 H3 fun y H4 => ∃ acc, H4 D = some (.lst acc) ∧ acc.length < sizeLine ∧ Cq K H1 D (if b = true then outs ++ [z] else outs) (upd H4 D (.lst (acc ++ [y]))) else Cq K H1 D (if b = true then outs ++ [z] else outs) H3 := by
  obtain ⟨p1, p2, p3, acc, p4, p5⟩ := p
  refine ht H' (Ex.refl H') _ fun H3 e3 => ?_
  cases b with
  | true =>
    simp only [if_true]
    refine he rfl H3 e3 _ fun y H4 e4 hy => ⟨acc, e4 D _ (e3 D _ p4), sz_lt (by rw [dpa_len p5]; omega), p1, Ex.mut ((p2.trans e3).trans e4) p1, ?_, acc ++ [y], upd_same, ?_⟩
    · rfl
    · have g : Go D H4 (upd H4 D (.lst (acc ++ [y]))) := fun a o n h => by rw [upd_ne n]; exact h
      have h4 : H4 D = some (.lst acc) := e4 D _ (e3 D _ p4)
      exact dpa_app (dpa_go g h4 outs acc p3 (DqAll_ex (DqAll_ex p5 e3) e4)) (.cons (Dq_go hy g h4 (him rfl)) .nil)
  | false =>
    simp only [Bool.false_eq_true, if_false]
    exact ⟨p1, p2.trans e3, p3, acc, e3 D _ p4, DqAll_ex p5 e3⟩
def outsOf {α : Type} (f : α → Bool) (g : α → PyData) (xs : List α) : List PyData := (xs.filter f).map g
theorem outs_more {α : Type} {f : α → Bool} {g : α → PyData} {xs : List α} {i : Nat} {x : α} (h : xs[i]? = some x) : outsOf f g (xs.take (i + 1)) = if f x = true then outsOf f g (xs.take i) ++ [g x] else outsOf f g (xs.take i) := by
  unfold outsOf
  rw [List.take_succ, h]
  show ((xs.take i ++ [x]).filter f).map g = _
  rw [List.filter_append]
  cases hf : f x <;> simp [hf]
theorem outs_len {α : Type} (f : α → Bool) (g : α → PyData) (xs : List α) : (outsOf f g xs).length ≤ xs.length := by
  unfold outsOf
  rw [List.length_map]
  exact List.length_filter_le _ _
variable {σ : L2.St} {H : Hp} {ta tb te tc tl : TE} {tt : TT} {d e z : PyData} {vs : List Nat} {tg : TG}
/-- what a turn shows: the target binds, the test tells f x, the element g x -/
def Turns {α : Type} (K : PySem.W.Frag) (tg : TG) (tt : TT) (te : TE) (vs : List Nat) (σ : L2.St) (H : Hp) (enc : α → PyData) (f : α → Bool) (g : α → PyData) (x : α) : Prop :=
  ∀ v H1, Ex H H1 → Dq K H1 v (enc x) → ∃ σ2, (∀ Q : L2.St → Hp → Prop, Q σ2 H1 → tg v (wipe σ vs) H1 Q) ∧ wipe σ2 vs = wipe σ vs ∧ EvT tt σ2 H1 (f x) ∧ (f x = true → ED K te σ2 H1 (g x))
theorem nl_tup {α : Type} (enc : α → PyData) (xs : List α) (f : α → Bool) (g : α → PyData) (h : ED K tl σ H (.tuple (xs.map enc))) (hz : xs.length ≤ 40000) (him : ∀ x ∈ xs, imm (g x) = true)
    (turn : ∀ x ∈ xs, Turns K tg tt te vs σ H enc f g x) : NL K (tLc (iTup K tl) tg tt te vs) σ H ((outsOf f g xs)) := fun H0 e0 Q q => h H0 e0 _ fun v H1 e1 hv => by
  cases hv with
  | tup hs ha =>
    rename_i a vals
    refine ⟨a, rfl, ⟨vals, hs.sq⟩, fun Dl hD => ?_⟩
    have hlen : vals.length = xs.length := by rw [dpa_len ha, List.length_map]
    refine lc_tup (K := K) (a := a) (xs := vals) (fun i H' => Cq K H1 Dl (outsOf f g (xs.take i)) H') (cq_nil hD) (fun i H' _ p => ex_t p.2.1 hs.sq) (fun i v H' hi p => ?_) (fun H' p => ?_)
    · obtain ⟨dd, hd, hdv⟩ := dpa_get ha hi
      rw [List.getElem?_map] at hd
      cases hx : xs[i]? with
      | none => rw [hx] at hd; cases hd
      | some x =>
        rw [hx] at hd
        cases hd
        have hm : x ∈ xs := List.mem_of_getElem? hx
        obtain ⟨σ2, b1, b2, b3, b4⟩ := turn x hm v H' ((e0.trans e1).trans p.2.1) (Dq_ex hdv p.2.1)
        refine b1 _ ⟨b2, ?_⟩
        have := cq_turn (K := K) (z := g x) (e0.trans e1) p (by have := outs_len f g (xs.take i); rw [List.length_take] at this; omega) b3 b4 (fun _ => him x hm)
        rw [← outs_more hx] at this
        exact this
    · obtain ⟨p1, p2, p3, acc, p4, p5⟩ := p
      rw [hlen, List.take_length] at p5
      exact q _ acc H' (none_of_ex e1 p1) (e1.trans p2) p4 p5
theorem el_tup {α : Type} (enc : α → PyData) (xs : List α) (f : α → Bool) (g : α → PyData) (h : ED K tl σ H (.tuple (xs.map enc))) (hz : xs.length ≤ 40000) (him : ∀ x ∈ xs, imm (g x) = true)
    (turn : ∀ x ∈ xs, Turns K tg tt te vs σ H enc f g x) : ED K (tFrz (tLc (iTup K tl) tg tt te vs)) σ H (.list (outsOf f g xs)) := ed_frz (nl_tup enc xs f g h hz him turn)
theorem nl_list {α : Type} (enc : α → PyData) (xs : List α) (f : α → Bool) (g : α → PyData) (h : ED K tl σ H (.list (xs.map enc))) (hz : xs.length ≤ 40000) (him : ∀ x ∈ xs, imm (g x) = true)
    (turn : ∀ x ∈ xs, Turns K tg tt te vs σ H enc f g x) : NL K (tLc (iList K tl) tg tt te vs) σ H ((outsOf f g xs)) := fun H0 e0 Q q => h H0 e0 _ fun v H1 e1 hv => by
  cases hv with
  | lst hs ha =>
    rename_i a vals
    refine ⟨a, rfl, ⟨vals, hs.sq⟩, fun Dl hD => ?_⟩
    have hlen : vals.length = xs.length := by rw [dpa_len ha, List.length_map]
    refine lc_list (K := K) (a := a) (xs := vals) (fun i H' => Cq K H1 Dl (outsOf f g (xs.take i)) H') (cq_nil hD) (fun i H' _ p => ex_l p.2.1 hs.sq) (fun i v H' hi p => ?_) (fun H' p => ?_)
    · obtain ⟨dd, hd, hdv⟩ := dpa_get ha hi
      rw [List.getElem?_map] at hd
      cases hx : xs[i]? with
      | none => rw [hx] at hd; cases hd
      | some x =>
        rw [hx] at hd
        cases hd
        have hm : x ∈ xs := List.mem_of_getElem? hx
        obtain ⟨σ2, b1, b2, b3, b4⟩ := turn x hm v H' ((e0.trans e1).trans p.2.1) (Dq_ex hdv p.2.1)
        refine b1 _ ⟨b2, ?_⟩
        have := cq_turn (K := K) (z := g x) (e0.trans e1) p (by have := outs_len f g (xs.take i); rw [List.length_take] at this; omega) b3 b4 (fun _ => him x hm)
        rw [← outs_more hx] at this
        exact this
    · obtain ⟨p1, p2, p3, acc, p4, p5⟩ := p
      rw [hlen, List.take_length] at p5
      exact q _ acc H' (none_of_ex e1 p1) (e1.trans p2) p4 p5
theorem el_list {α : Type} (enc : α → PyData) (xs : List α) (f : α → Bool) (g : α → PyData) (h : ED K tl σ H (.list (xs.map enc))) (hz : xs.length ≤ 40000) (him : ∀ x ∈ xs, imm (g x) = true)
    (turn : ∀ x ∈ xs, Turns K tg tt te vs σ H enc f g x) : ED K (tFrz (tLc (iList K tl) tg tt te vs)) σ H (.list (outsOf f g xs)) := ed_frz (nl_list enc xs f g h hz him turn)
/-- over zip(xs, ys) of two lists -/
theorem nl_zip {α : Type} (enc : α → PyData) (xs ys : List α) (g : α → α → PyData) {ta : TA} {i j : Nat} (h : EA K ta σ H [.list (xs.map enc), .list (ys.map enc)]) (hz : xs.length ≤ 40000) (him : ∀ x y, imm (g x y) = true)
    (hw : ∀ a b, wipe (((wipe σ vs).set i (some a)).set j (some b)) vs = wipe σ vs)
    (turn : ∀ x y, x ∈ xs → y ∈ ys → ∀ a b H1, Ex H H1 → Dq K H1 a (enc x) → Dq K H1 b (enc y) → ED K te (((wipe σ vs).set i (some a)).set j (some b)) H1 (g x y)) :
    NL K (tLc (iZip K ta) (gTup K 2 (gCons (gName i) (gCons (gName j) gNil))) tYes te vs) σ H ((List.zipWith g xs ys)) := fun H0 e0 Q q => h H0 e0 _ fun vv H1 e1 hv => by
  cases hv with
  | cons h1 h2 =>
  cases h2 with
  | cons h3 h4 =>
  cases h4
  cases h1 with
  | lst hs ha =>
  cases h3 with
  | lst hs' hb =>
    rename_i a va b vb
    refine ⟨a, b, va, vb, rfl, hs.sq, hs'.sq, fun Dl hD => ?_⟩
    have la : va.length = xs.length := by rw [dpa_len ha, List.length_map]
    have lb : vb.length = ys.length := by rw [dpa_len hb, List.length_map]
    refine ⟨fun n m H' => m = xs.length - n ∧ n ≤ min xs.length ys.length ∧ Cq K H1 Dl ((List.zipWith g xs ys).take n) H', ⟨xs.length, by simp, Nat.zero_le _, cq_nil hD⟩, ?_⟩
    rintro n m H' ⟨rfl, hn, p⟩
    by_cases hlt : n < min xs.length ys.length
    · have hx : xs[n]? = some (xs[n]'(by omega)) := by simp
      have hy : ys[n]? = some (ys[n]'(by omega)) := by simp
      generalize xs[n]'(by omega) = x at hx
      generalize ys[n]'(by omega) = y at hy
      obtain ⟨x', hx', hdx⟩ := dpa_put ha (i := n) (d := enc x) (by rw [List.getElem?_map, hx]; rfl)
      obtain ⟨y', hy', hdy⟩ := dpa_put hb (i := n) (d := enc y) (by rw [List.getElem?_map, hy]; rfl)
      refine .inr ⟨⟨va, vb, x', y', ex_l p.2.1 hs.sq, ex_l p.2.1 hs'.sq, hx', hy'⟩, fun H2 => Cq K H1 Dl ((List.zipWith g xs ys).take (n + 1)) H2, fun H2 p2 => ⟨_, by omega, rfl, by omega, p2⟩, ?_⟩
      rintro v H2 ⟨T, x2, y2, rfl, hT, rfl, qx, qy⟩
      have ex2 := qx va (ex_l p.2.1 hs.sq)
      have ey2 := qy vb (ex_l p.2.1 hs'.sq)
      rw [hx'] at ex2
      rw [hy'] at ey2
      cases ex2
      cases ey2
      refine ⟨T, [x', y'], rfl, st_of upd_same, rfl, _, _, rfl, _, _, rfl, rfl, hw x' y', ?_⟩
      have eT : Ex H' (upd H' T (.tup [x', y'])) := Ex.new hT
      have p' : Cq K H1 Dl ((List.zipWith g xs ys).take n) (upd H' T (.tup [x', y'])) := by
        obtain ⟨p1, p2, p3, acc, p4, p5⟩ := p
        exact ⟨p1, p2.trans eT, p3, acc, eT _ _ p4, DqAll_ex p5 eT⟩
      have hz2 : (List.zipWith g xs ys)[n]? = some (g x y) := by rw [List.getElem?_zipWith, hx, hy]
      have key := cq_turn (K := K) (tt := tYes) (b := true) (z := g x y) (te := te) (e0.trans e1) p' (by rw [List.length_take]; omega) (fun H3 _ Q3 q3 => q3 H3 (Ex.refl H3))
        (fun _ => turn x y (List.mem_of_getElem? hx) (List.mem_of_getElem? hy) x' y' _ ((e0.trans e1).trans p'.2.1) (Dq_ex hdx p'.2.1) (Dq_ex hdy p'.2.1)) (fun _ => him x y)
      rw [if_pos rfl] at key
      rw [List.take_succ, hz2]
      exact key
    · refine .inl ⟨⟨va, vb, ex_l p.2.1 hs.sq, ex_l p.2.1 hs'.sq, by omega⟩, ?_⟩
      obtain ⟨p1, p2, p3, acc, p4, p5⟩ := p
      rw [List.take_of_length_le (by rw [List.length_zipWith]; omega)] at p5
      exact q _ acc H' (none_of_ex e1 p1) (e1.trans p2) p4 p5
theorem el_zip {α : Type} (enc : α → PyData) (xs ys : List α) (g : α → α → PyData) {ta : TA} {i j : Nat} (h : EA K ta σ H [.list (xs.map enc), .list (ys.map enc)]) (hz : xs.length ≤ 40000) (him : ∀ x y, imm (g x y) = true)
    (hw : ∀ a b, wipe (((wipe σ vs).set i (some a)).set j (some b)) vs = wipe σ vs)
    (turn : ∀ x y, x ∈ xs → y ∈ ys → ∀ a b H1, Ex H H1 → Dq K H1 a (enc x) → Dq K H1 b (enc y) → ED K te (((wipe σ vs).set i (some a)).set j (some b)) H1 (g x y)) :
    ED K (tFrz (tLc (iZip K ta) (gTup K 2 (gCons (gName i) (gCons (gName j) gNil))) tYes te vs)) σ H (.list (List.zipWith g xs ys)) := ed_frz (nl_zip enc xs ys g h hz him hw turn)
/-- over range(n) -/
theorem nl_rng {ta : TA} (n : Nat) (g : Nat → PyData) {i : Nat} (h : EA K ta σ H [.int n]) (hz : n ≤ 40000) (him : ∀ x, imm (g x) = true) (hw : ∀ a, wipe ((wipe σ vs).set i (some a)) vs = wipe σ vs)
    (turn : ∀ x : Nat, x < n → ∀ H1, Ex H H1 → ED K te ((wipe σ vs).set i (some (.int x))) H1 (g x)) : NL K (tLc (iRng1 ta) (gName i) tYes te vs) σ H (((List.range n).map g)) := fun H0 e0 Q q => h H0 e0 _ fun vv H1 e1 hv => by
  cases hv with
  | cons h1 h2 =>
  cases h2
  cases h1
  refine ⟨n, rfl, by omega, by omega, fun Dl hD => ?_⟩
  have en : ((n : Nat) : Int).toNat = n := by omega
  rw [en]
  refine lc_range (lo := 0) (n := n) (fun j H' => Cq K H1 Dl ((List.range j).map g) H') (cq_nil hD) (fun j H' hj p => ?_) (fun H' p => ?_)
  · have ej : (0 : Int) + (j : Int) = (j : Int) := Int.zero_add _
    rw [ej]
    refine ⟨hw _, ?_⟩
    have key := cq_turn (K := K) (tt := tYes) (b := true) (z := g j) (te := te) (e0.trans e1) p (by rw [List.length_map, List.length_range]; omega) (fun H3 _ Q3 q3 => q3 H3 (Ex.refl H3))
      (fun _ => turn j hj H' ((e0.trans e1).trans p.2.1)) (fun _ => him j)
    rw [if_pos rfl] at key
    rw [List.range_succ, List.map_append]
    exact key
  · obtain ⟨p1, p2, p3, acc, p4, p5⟩ := p
    exact q _ acc H' (none_of_ex e1 p1) (e1.trans p2) p4 p5
theorem el_rng {ta : TA} (n : Nat) (g : Nat → PyData) {i : Nat} (h : EA K ta σ H [.int n]) (hz : n ≤ 40000) (him : ∀ x, imm (g x) = true) (hw : ∀ a, wipe ((wipe σ vs).set i (some a)) vs = wipe σ vs)
    (turn : ∀ x : Nat, x < n → ∀ H1, Ex H H1 → ED K te ((wipe σ vs).set i (some (.int x))) H1 (g x)) : ED K (tFrz (tLc (iRng1 ta) (gName i) tYes te vs)) σ H (.list ((List.range n).map g)) := ed_frz (nl_rng n g h hz him hw turn)
/-- targets in a turn -/
theorem turn_one {α : Type} {enc : α → PyData} {f : α → Bool} {g : α → PyData} {x : α} {i : Nat} (hw : ∀ a, wipe ((wipe σ vs).set i (some a)) vs = wipe σ vs)
    (ht : ∀ v H1, Ex H H1 → Dq K H1 v (enc x) → EvT tt ((wipe σ vs).set i (some v)) H1 (f x)) (he : f x = true → ∀ v H1, Ex H H1 → Dq K H1 v (enc x) → ED K te ((wipe σ vs).set i (some v)) H1 (g x)) : Turns K (gName i) tt te vs σ H enc f g x :=
  fun v H1 e1 hv => ⟨_, fun Q q => q, hw v, ht v H1 e1 hv, fun hf => he hf v H1 e1 hv⟩
theorem turn_two {α : Type} {enc : α → PyData} {f : α → Bool} {g : α → PyData} {x : α} {i j : Nat} {x1 x2 : PyData} (hx : enc x = .tuple [x1, x2]) (hw : ∀ a b, wipe (((wipe σ vs).set i (some a)).set j (some b)) vs = wipe σ vs)
    (ht : ∀ a b H1, Ex H H1 → Dq K H1 a x1 → Dq K H1 b x2 → EvT tt (((wipe σ vs).set i (some a)).set j (some b)) H1 (f x))
    (he : f x = true → ∀ a b H1, Ex H H1 → Dq K H1 a x1 → Dq K H1 b x2 → ED K te (((wipe σ vs).set i (some a)).set j (some b)) H1 (g x)) : Turns K (gTup K 2 (gCons (gName i) (gCons (gName j) gNil))) tt te vs σ H enc f g x := fun v H1 e1 hv => by
  rw [hx] at hv
  cases hv with
  | tup hs ha =>
  cases ha with
  | cons h1 h2 =>
  cases h2 with
  | cons h3 h4 =>
  cases h4
  exact ⟨_, fun Q q => ⟨_, _, rfl, hs.sq, rfl, _, _, rfl, _, _, rfl, rfl, q⟩, hw _ _, ht _ _ H1 e1 h1 h3, fun hf => he hf _ _ H1 e1 h1 h3⟩
theorem et_yes : EvT tYes σ H true := fun H1 _ Q q => q H1 (Ex.refl H1)
/-- all of a list of bools, sums of ints -/
theorem rb_all {bs : List Bool} : RB K (rAll K) [.list (bs.map PyData.bool)] (.bool (bs.all id)) := fun H vs hv Q q => by
  cases hv with
  | cons h1 h2 =>
  cases h2
  cases h1 with
  | lst hs ha =>
    rw [dpa_bools ha] at hs
    exact ⟨_, bs, rfl, hs.sq, q _ H (Ex.refl H) (.bl _)⟩
theorem rb_sum {ns : List Int} : RB K (rSum K) [.list (ns.map PyData.int)] (.int ns.sum) := fun H vs hv Q q => by
  cases hv with
  | cons h1 h2 =>
  cases h2
  cases h1 with
  | lst hs ha =>
    rw [dpa_ints ha] at hs
    exact ⟨_, ns, rfl, hs.sq, q _ H (Ex.refl H) (.int _)⟩
theorem rb_max {i j : Int} : RB K (fun xs H Q => ∃ i j, xs = [.int i, .int j] ∧ Q (.int (if j > i then j else i)) H) [.int i, .int j] (.int (max i j)) := fun H vs hv Q q => by
  cases hv with
  | cons h1 h2 =>
  cases h2 with
  | cons h3 h4 =>
  cases h4; cases h1; cases h3
  refine ⟨i, j, rfl, ?_⟩
  have e : (if j > i then j else i) = max i j := by split <;> omega
  rw [e]
  exact q _ H (Ex.refl H) (.int _)
theorem rb_min {i j : Int} : RB K (fun xs H Q => ∃ i j, xs = [.int i, .int j] ∧ Q (.int (if j < i then j else i)) H) [.int i, .int j] (.int (min i j)) := fun H vs hv Q q => by
  cases hv with
  | cons h1 h2 =>
  cases h2 with
  | cons h3 h4 =>
  cases h4; cases h1; cases h3
  refine ⟨i, j, rfl, ?_⟩
  have e : (if j < i then j else i) = min i j := by split <;> omega
  rw [e]
  exact q _ H (Ex.refl H) (.int _)
theorem rb_len {ds : List PyData} (hl : ds.length ≤ 100000) : RB K (rLenD K) [.tuple ds] (.int ds.length) := fun H vs hv Q q => by
  cases hv with
  | cons h1 h2 =>
  cases h2
  cases h1 with
  | tup hs ha => exact ⟨_, ds.length, rfl, .inr ⟨_, hs.sq, (dpa_len ha).symm⟩, q _ H (Ex.refl H) (.int _)⟩
/-- the class of data -/
def tyN : PyData → String
  | .none => "NoneType"
  | .bool _ => "bool"
  | .int _ => "int"
  | .str _ => "str"
  | .list _ => "list"
  | .tuple _ => "tuple"
  | .dict _ => "dict"
theorem tyx_of {H : Hp} {v : V} {d : PyData} (h : Dq K H v d) : TyX K H v (.type (tyN d)) := by
  cases h with
  | non => exact .base .non
  | bl b => exact .base (.bl b)
  | int i => exact .base (.int i)
  | str x => exact .base (.str x)
  | lst hs _ =>
    rcases hs.sq with (h | ⟨o, h⟩) | ⟨o, its, n, h, hc, _⟩
    · exact .base (.lst h)
    · exact .base (.frz h)
    · exact .kList h hc
  | tup hs _ =>
    rcases hs.sq with (h | ⟨o, h⟩) | ⟨o, its, n, h, hc, _⟩
    · exact .base (.tup h)
    · exact .fTuple h
    · exact .kTuple h hc
def isC (c : String) (d : PyData) : Bool := (kitB (tyN d) c).getD false
/-- isinstance(x, c), c a built-in class -/
theorem ed_isi {c : String} {b : Bool} (h : ED K ta σ H d) (hb : kitB (tyN d) c = some b) : ED K (tCB (rIsi K) (tCons ta (tCons (tC (.ty c)) tNil))) σ H (.bool b) := fun H1 e1 Q q =>
  h H1 e1 _ fun v H2 e2 hv => ⟨v, .ty c, _, _, b, rfl, .ty c, tyx_of hv, kit_ty hb, q _ H2 e2 (.bl b)⟩
theorem kit_int_int : kitB "int" "int" = some true := by decide +kernel
theorem kit_int_bool : kitB "int" "bool" = some false := by decide +kernel
theorem kit_tuple_tuple : kitB "tuple" "tuple" = some true := by decide +kernel
theorem kit_str_str : kitB "str" "str" = some true := by decide +kernel
end My

namespace My
open PySem PySem.Spec PyProof.Rows L2 Evl
/-! ### looks at values -/
def isIntD (lo hi : Int) : PyData → Bool
  | .int v => decide (lo ≤ v) && decide (v ≤ hi)
  | _ => false
def isWholeD : PyData → Bool
  | .int _ => true
  | _ => false
def isTupD (lo hi : Int) : PyData → Bool
  | .tuple ds => decide (lo ≤ (ds.length : Int)) && decide ((ds.length : Int) ≤ hi)
  | _ => false
def isFracD : PyData → Bool
  | .tuple [.int a, .int b] => decide (1 ≤ b) && decide (Int.gcd a b = 1)
  | _ => false
def tupShort (d : PyData) : Prop := ∀ ds, d = .tuple ds → ds.length ≤ 30000
def ascB (ns : List Int) : Bool := (List.zipWith (fun a b => decide (a < b)) ns ns.tail).all id
def rIsInteger (ds : List PyData) (d : PyData) : Prop := ∃ x lo hi, ds = [x, .int lo, .int hi] ∧ d = .bool (isIntD lo hi x)
def rIsWhole (ds : List PyData) (d : PyData) : Prop := ∃ x, ds = [x] ∧ d = .bool (isWholeD x)
def rIsTuple (ds : List PyData) (d : PyData) : Prop := ∃ x lo hi, ds = [x, .int lo, .int hi] ∧ tupShort x ∧ d = .bool (isTupD lo hi x)
def rIsFraction (ds : List PyData) (d : PyData) : Prop := ∃ x, ds = [x] ∧ tupShort x ∧ d = .bool (isFracD x)
def rIsAscending (ds : List PyData) (d : PyData) : Prop := ∃ ns : List Int, ds = [.list (ns.map PyData.int)] ∧ ns.length ≤ 30000 ∧ d = .bool (ascB ns)
def rCommon (ds : List PyData) (d : PyData) : Prop := ∃ ns : List Int, ds = [.list (ns.map PyData.int)] ∧ ns.length ≤ 30000 ∧ d = .int (ns.foldl (fun g n => ((Int.gcd g n : Nat) : Int)) 0)
abbrev spIsInteger (K : PySem.W.Frag) : Sp := spR K 3 rIsInteger
abbrev spIsWhole (K : PySem.W.Frag) : Sp := spR K 1 rIsWhole
abbrev spIsTuple (K : PySem.W.Frag) : Sp := spR K 3 rIsTuple
abbrev spIsFraction (K : PySem.W.Frag) : Sp := spR K 1 rIsFraction
abbrev spIsAscending (K : PySem.W.Frag) : Sp := spR K 1 rIsAscending
abbrev spCommon (K : PySem.W.Frag) : Sp := spR K 1 rCommon
/-- what class is asked -/
theorem kB_all : ∀ n ∈ ["NoneType", "bool", "int", "str", "list", "tuple", "dict"], ∀ c ∈ ["int", "bool", "tuple", "str"], kitB n c = some ((kitB n c).getD false) := by decide +kernel
theorem tyN_in (d : PyData) : tyN d ∈ ["NoneType", "bool", "int", "str", "list", "tuple", "dict"] := by
  cases d <;> simp [tyN]
theorem kB (d : PyData) (c : String) (hc : c ∈ ["int", "bool", "tuple", "str"] := by simp) : kitB (tyN d) c = some (isC c d) := kB_all _ (tyN_in d) c hc
theorem isC_int_int (i : Int) : isC "int" (.int i) = true := by show (kitB "int" "int").getD false = true; decide +kernel
theorem isC_bool_int (i : Int) : isC "bool" (.int i) = false := by show (kitB "int" "bool").getD false = false; decide +kernel
theorem isC_tup_tup (ds : List PyData) : isC "tuple" (.tuple ds) = true := by show (kitB "tuple" "tuple").getD false = true; decide +kernel
theorem int_of_isC {d : PyData} (h1 : isC "int" d = true) (h2 : isC "bool" d = false) : ∃ i, d = .int i := by
  cases d with
  | int i => exact ⟨i, rfl⟩
  | none => exact absurd h1 (by show ¬ (kitB "NoneType" "int").getD false = true; decide +kernel)
  | bool b => exact absurd h2 (by show ¬ (kitB "bool" "bool").getD false = false; decide +kernel)
  | str x => exact absurd h1 (by show ¬ (kitB "str" "int").getD false = true; decide +kernel)
  | list x => exact absurd h1 (by show ¬ (kitB "list" "int").getD false = true; decide +kernel)
  | tuple x => exact absurd h1 (by show ¬ (kitB "tuple" "int").getD false = true; decide +kernel)
  | dict x => exact absurd h1 (by show ¬ (kitB "dict" "int").getD false = true; decide +kernel)
theorem tup_of_isC {d : PyData} (h1 : isC "tuple" d = true) : ∃ ds, d = .tuple ds := by
  cases d with
  | tuple ds => exact ⟨ds, rfl⟩
  | none => exact absurd h1 (by show ¬ (kitB "NoneType" "tuple").getD false = true; decide +kernel)
  | bool b => exact absurd h1 (by show ¬ (kitB "bool" "tuple").getD false = true; decide +kernel)
  | str x => exact absurd h1 (by show ¬ (kitB "str" "tuple").getD false = true; decide +kernel)
  | list x => exact absurd h1 (by show ¬ (kitB "list" "tuple").getD false = true; decide +kernel)
  | int x => exact absurd h1 (by show ¬ (kitB "int" "tuple").getD false = true; decide +kernel)
  | dict x => exact absurd h1 (by show ¬ (kitB "dict" "tuple").getD false = true; decide +kernel)
theorem isInt_no {d : PyData} (lo hi : Int) (h : ¬ ∃ i, d = .int i) : isIntD lo hi d = false := by
  cases d <;> first | rfl | exact absurd ⟨_, rfl⟩ h
theorem isWhole_no {d : PyData} (h : ¬ ∃ i, d = .int i) : isWholeD d = false := by
  cases d <;> first | rfl | exact absurd ⟨_, rfl⟩ h
theorem isTup_no {d : PyData} (lo hi : Int) (h : ¬ ∃ ds, d = .tuple ds) : isTupD lo hi d = false := by
  cases d <;> first | rfl | exact absurd ⟨_, rfl⟩ h
end My

namespace My
open PySem PySem.Spec PyProof.Rows L2 Evl
variable {K : PySem.W.Frag} {σ : L2.St} {H : Hp} {ta tb te tc tl : TE}
theorem et_tru {i : Int} (h : ED K te σ H (.int i)) : EvT (fun σ H Q => te σ H fun x H' => ∃ k, TruV K x H' k ∧ Q k H') σ H (i != 0) := fun H1 e1 Q q => h H1 e1 _ fun v H2 e2 hv => by
  cases hv
  exact ⟨i != 0, rfl, q H2 e2⟩
theorem rd_odd {n : Nat} : RD K (fun x y H Q => ∃ n : Nat, x = .int (n : Int) ∧ y = .int 1 ∧ Q (.int ((n % 2 : Nat) : Int)) H) (.int n) (.int 1) (.int (n % 2 : Nat)) := fun H x y hx hy Q q => by
  cases hx; cases hy
  exact ⟨n, rfl, rfl, q _ H (Ex.refl H) (.int _)⟩
theorem rd_half {n : Nat} : RD K (fun x y H Q => ∃ n : Nat, x = .int (n : Int) ∧ y = .int 1 ∧ Q (.int ((n / 2 : Nat) : Int)) H) (.int n) (.int 1) (.int (n / 2 : Nat)) := fun H x y hx hy Q q => by
  cases hx; cases hy
  exact ⟨n, rfl, rfl, q _ H (Ex.refl H) (.int _)⟩
/-! ### powers -/
def rPowered (ds : List PyData) (d : PyData) : Prop := ∃ (b : Int) (m k : Nat), ds = [.int b, .int m] ∧ b.natAbs < 2 ^ k ∧ 0 < k ∧ k * (m + 1) ≤ 60000000 ∧ d = .int (b ^ m)
abbrev spPowered (K : PySem.W.Frag) : Sp := spR K 2 rPowered
theorem pow_lt2 {b : Int} {k n : Nat} (h : b.natAbs < 2 ^ k) : (b ^ n).natAbs < 2 ^ (k * n + 1) := by
  rw [Int.natAbs_pow]
  have h1 : b.natAbs ^ n ≤ (2 ^ k) ^ n := Nat.pow_le_pow_left (Nat.le_of_lt h) n
  rw [← Nat.pow_mul] at h1
  exact Nat.lt_of_le_of_lt h1 (Nat.pow_lt_pow_right (by decide) (Nat.lt_succ_self _))
/-! ### primes by trial -/
def isP (n : Nat) : Bool := (List.range n).all fun k => decide (k < 2) || decide (n < k * k) || decide (n % k ≠ 0)
theorem isP_iff {n : Nat} : isP n = true ↔ ∀ k, 2 ≤ k → k * k ≤ n → n % k ≠ 0 := by
  unfold isP
  rw [List.all_eq_true]
  constructor
  · intro h k h2 hk
    by_cases hn : k < n
    · have := h k (List.mem_range.mpr hn)
      simp at this
      omega
    · have : k * 2 ≤ k * k := Nat.mul_le_mul_left k h2
      omega
  · intro h k hk
    by_cases h2 : k < 2
    · simp [h2]
    · by_cases h3 : n < k * k
      · simp [h3]
      · have := h k (by omega) (by omega)
        simp [this]
def rIsPrime (ds : List PyData) (d : PyData) : Prop := ∃ n : Nat, ds = [.int n] ∧ n ≤ 100000 ∧ d = .bool (isP n)
abbrev spIsPrime (K : PySem.W.Frag) : Sp := spR K 1 rIsPrime
end My
namespace My
open PySem PySem.Spec PyProof.Rows L2 Evl
theorem cut_tail (ns : List Int) : cutV (ns.map V.int) (some 1) none = ns.tail.map V.int := by
  unfold cutV
  have e1 : HT.sIx (ns.map V.int).length 0 (some ((1 : Nat) : Int)) = min 1 (ns.map V.int).length := HT.sIx_nat _ _ 1
  have e2 : HT.sIx (ns.map V.int).length (ns.map V.int).length none = (ns.map V.int).length := HT.sIx_none _ _
  show List.take _ (List.drop (HT.sIx (ns.map V.int).length 0 (some ((1 : Nat) : Int))) _) = _
  rw [e2, e1]
  cases ns with
  | nil => rfl
  | cons n ns =>
    have e3 : min 1 ((n :: ns).map V.int).length = 1 := by simp
    have e4 : HT.sIx ((n :: ns).map V.int).length 0 (some 1) = 1 := by rw [← e3]; exact e1
    rw [e3, e4]
    simp
    rw [List.take_of_length_le (by simp)]
theorem zip_bools (xs ys : List Int) : List.zipWith (fun a b => PyData.bool (decide (a < b))) xs ys = (List.zipWith (fun a b => decide (a < b)) xs ys).map PyData.bool := by
  rw [List.map_zipWith]
theorem isTup2_no {x : PyData} (h : ¬ ∃ a b, x = .tuple [a, b]) : isTupD 2 2 x = false := by
  cases x with
  | tuple ds =>
    match ds, h with
    | [], _ => rfl
    | [a], _ => rfl
    | [a, b], h => exact absurd ⟨a, b, rfl⟩ h
    | a :: b :: c :: r, _ =>
      unfold isTupD
      have : ¬ ((a :: b :: c :: r).length : Int) ≤ 2 := by simp; omega
      simp
      omega
  | _ => rfl
theorem isFrac_no {x : PyData} (h : ¬ ∃ a b, x = .tuple [a, b]) : isFracD x = false := by
  unfold isFracD
  split
  · exact absurd ⟨_, _, rfl⟩ h
  · rfl
theorem mod_up_odd {m n i : Nat} (hn : n = m / 2 ^ i) (h : n % 2 = 1) : m % 2 ^ (i + 1) = m % 2 ^ i + 2 ^ i := by
  rw [Nat.pow_succ, Nat.mod_mul, ← hn, h, Nat.mul_one]
theorem mod_up_even {m n i : Nat} (hn : n = m / 2 ^ i) (h : n % 2 = 0) : m % 2 ^ (i + 1) = m % 2 ^ i := by
  rw [Nat.pow_succ, Nat.mod_mul, ← hn, h, Nat.mul_zero, Nat.add_zero]
theorem pow_end {b : Int} {m n i : Nat} (hn : n = m / 2 ^ i) (h : n = 0) : b ^ (m % 2 ^ i) = b ^ m := by
  have : m < 2 ^ i := by
    rcases Nat.div_eq_zero_iff.mp (hn.symm.trans h) with h | h
    · exact absurd h (Nat.ne_of_gt (Nat.pow_pos (by decide)))
    · exact h
  rw [Nat.mod_eq_of_lt this]
end My

namespace My
open PySem PySem.Spec PyProof.Rows L2 Evl
section
variable {X : Cx}
/-- the ints that a dict's keys tell, as they were collected -/
theorem ints_at : ∀ {us : List Value} {ks : List Int}, us.length = ks.length → (∀ (j : Nat) (u : Value), us[j]? = some u → ∃ y t, ks[j]? = some y ∧ u = Value.int y t) → Vals (ks.map V.int) us
  | [], [], _, _ => .nil
  | [], _ :: _, h, _ => by cases h
  | _ :: _, [], h, _ => by cases h
  | u :: us, k :: ks, hl, h => by
    obtain ⟨y, t, e1, e2⟩ := h 0 u rfl
    have e3 : k = y := Option.some.inj e1
    subst e3
    exact .cons ⟨t, e2⟩ (ints_at (Nat.succ.inj hl) fun j v e => h (j + 1) v e)
/-- sorted(d), the keys ints, however many -/
def rSortedK : List V → Hp → VK → Prop := fun xs H Q => ∃ (a : Addr) (kvs : List (Key × V)) (ks : List Int), xs = [.ref a] ∧ Rd H a (.dK kvs) ∧ kvs.map (·.1) = ks.map Sum.inl ∧
  ∀ (ys : List Int) (p : Addr), ys.Perm ks → ys.Pairwise (· ≤ ·) → H p = none → Q (.ref p) (upd H p (.lst (ys.map V.int)))
theorem call_sortedK (hc : X.calm = true) : CallR X (.builtin "sorted") rSortedK := by
  intro pins s σ H xs us Q I r q
  obtain ⟨a, kvs, ks, rfl, hd, hks, q⟩ := q
  obtain ⟨u, rfl, rx⟩ := vals1 r
  cases rx
  obtain ⟨zz, ll, vs, rel, dd⟩ := dk_rd I.hok hd
  obtain ⟨ep, hat⟩ := dd.dictAt
  have hkeys : vs.map (·.1) = ks.map Sum.inl := rel.keys.symm.trans hks
  have hl : vs.length = ks.length := by simpa using congrArg List.length hkeys
  have hz : vs.length ≤ sizeLine := by rw [← rel.length]; exact zz
  refine Calls.call_function_entry kind_sorted plain_sorted entry_sorted (args_sorted1 _) ?_
  unfold Builtin.«sorted»
  refine wpAny_bind (m := checkCount "sorted" 1 1 _) (wpAny_pure ?_)
  have src := PySem.W.kdl_dict (prog := X.prog) (w := X.w) (knd := mixKind X.prog X.w) (kvs := vs) (ep := ep) ll
  refine wpAny_bind (PySem.W.kdu_collect (A := X.A.in1) src (I.ok.hd hc) hat hz fun h' tk acc hk hacc => ?_)
  have hal : acc.toList.length = ks.length := by rw [Array.length_toList, hacc.1, hl]
  have hv : Vals (ks.map V.int) acc.toList := ints_at hal fun j v e => by
    obtain ⟨k, x, e1, e2⟩ := hacc.2 j v (by rw [← Array.getElem?_toList]; exact e)
    have e3 : (ks.map Sum.inl)[j]? = some k := by rw [← hkeys, List.getElem?_map, e1]; rfl
    rw [List.getElem?_map] at e3
    cases e4 : ks[j]? with
    | none => rw [e4] at e3; cases e3
    | some y =>
      rw [e4] at e3
      cases e3
      rcases keyIs_shape (show keyIs (Sum.inl y) v = true from e2) with ⟨i, t, ek, ev⟩ | ⟨z, t, ek, ev⟩
      · cases ek
        exact ⟨_, t, rfl, ev⟩
      · cases ek
  refine wpAny_bind (wpAny_newList ?_ (by rw [hal, ← hl]; exact hz))
  have hn : H h'.objs.size = none := (I.kept (t' := tk) hk).hok.fresh (Nat.le_refl _)
  have I2 : Inv X pins σ (upd H h'.objs.size (.lst (ks.map V.int))) { s with heap := h'.push { cls := .type "list", data := .seq acc.toList.toArray }, toks := tk } := by
    refine (I.kept (t' := tk) hk).laid (t' := tk) (fun b o e => Heap.get?_push_of_some _ e) (Nat.le_refl _) ⟨by rw [List.length_map, ← hl]; exact hz, acc.toList, 0, hv, ?_⟩
    exact Heap.get?_push_size _ rfl
  have srt := mt_sortI (X := { X with A := X.A.in1 }) pins _ σ _ (V.ref h'.objs.size) [] (Value.ref h'.objs.size) [] (fun _ H3 => ∃ ys : List Int, ys.Perm ks ∧ ys.Pairwise (· ≤ ·) ∧ H3 = upd H h'.objs.size (.lst (ys.map V.int))) (inv_in1 I2) rfl .nil
    ⟨_, ks, rfl, rfl, upd_same, fun ys h1 h2 => ⟨ys, h1, h2, by rw [upd_upd]⟩⟩
  refine wpAny_bind (wpAny_holding (wpAny_mono srt (fun v s' hx => ?_) fun _ _ h => h))
  obtain ⟨v', H3, I3, -, ys, h1, h2, rfl⟩ := hx
  exact wpAny_pure ⟨_, rfl, .ref h'.objs.size, _, inv_out1 I.ok I3, rfl, q ys _ h1 h2 hn⟩
/-- the pairs of a dict of ints by ints -/
def entI (L : List (Int × Int)) : List (Key × V) := L.map fun x => (Sum.inl x.1, V.int x.2)
def ePair (x : Int × Int) : PyData := .tuple [.int x.1, .int x.2]
theorem lookup_zip {α β : Type} [BEq α] [LawfulBEq α] : ∀ {as : List α} {bs : List β}, as.Nodup → ∀ {j : Nat} {a : α} {b : β}, as[j]? = some a → bs[j]? = some b → (as.zip bs).lookup a = some b
  | [], _, _, _, _, _, h, _ => by simp at h
  | _ :: _, [], _, _, _, _, _, h => by simp at h
  | x :: as, y :: bs, hn, 0, a, b, h1, h2 => by
    cases h1; cases h2
    show (((x, y) :: as.zip bs).lookup x) = some y
    simp [List.lookup]
  | x :: as, y :: bs, hn, j + 1, a, b, h1, h2 => by
    have hn' := List.nodup_cons.mp hn
    have hm : a ∈ as := List.mem_of_getElem? (show as[j]? = some a from h1)
    have hne : (a == x) = false := by
      rw [beq_eq_false_iff_ne]
      intro e
      exact hn'.1 (e ▸ hm)
    show (((x, y) :: as.zip bs).lookup a) = some b
    rw [List.lookup, hne]
    exact lookup_zip hn'.2 (j := j) h1 h2
/-- a list of pairs of ints; their tuples are not known to be plain -/
def PrL (K : PySem.W.Frag) (H : Hp) (v : V) (L : List (Int × Int)) : Prop := ∃ a acc, v = .ref a ∧ SqL K H a acc ∧ acc.length = L.length ∧ ∀ (j : Nat) y x, acc[j]? = some y → L[j]? = some x → ∃ b, y = .ref b ∧ SqT K H b [V.int x.1, V.int x.2]
/-- sorted(e.items()), the keys ascend already -/
def tSortIt (K : PySem.W.Frag) (te : TE) : TE := fun σ H Q => te σ H fun x H1 => ∃ (d : Addr) (L : List (Int × Int)), x = .ref d ∧ Rd H1 d (.dK (entI L)) ∧ L.Pairwise (fun a b => a.1 < b.1) ∧ ∀ v H2, Ex H1 H2 → PrL K H2 v L → Q v H2
theorem pairs_at {κ : Type} {prog : Program} {w : World} {κd : DecidableEq κ} {knd : KeyKind prog w κ} : ∀ {es : List DictEntry} {vs : List (κ × Value)}, Pairs knd es vs → ∀ {j : Nat} {e : DictEntry}, es[j]? = some e → ∃ kv, vs[j]? = some kv ∧ knd.is kv.1 e.key = true ∧ e.val = kv.2
  | _, _, .nil, _, _, h => by simp at h
  | _, _, .cons h1 h2 _, 0, _, h => by
    cases h
    exact ⟨_, rfl, h1, h2⟩
  | _, _, .cons _ _ t, j + 1, e, h => pairs_at t (j := j) h
theorem kvs_at : ∀ {kvs : List (Key × V)} {vs : List (Key × Value)}, KV kvs vs → ∀ {j : Nat} {q : Key × Value}, vs[j]? = some q → ∃ p, kvs[j]? = some p ∧ p.1 = q.1 ∧ RelV p.2 q.2
  | _, _, .nil, _, _, h => by simp at h
  | _, _, .cons r _, 0, _, h => by
    cases h
    exact ⟨_, rfl, r⟩
  | _, _, .cons _ t, j + 1, q, h => kvs_at t (j := j) h
theorem pe_sortedItems {K : PySem.W.Frag} (hK : X.K = K) {e : Expr} {te : TE} {p apos cpos pos : Pos} (hc : X.calm = true) (he : PE X e te) (hg : Gl X "sorted") (hm : X.mg "sorted" = none) (hv : bootBuiltins "sorted" = some (.builtin "sorted"))
    (hbase : attributeBase e "items" X.env (eval e X.env) = eval e X.env := by rfl) (hline : (apos.endLine == cpos.line) = true := by rfl)
    (hs : starEach [.Call (.Attribute e "items" apos) [] [] cpos] X.env = (false, eval (.Call (.Attribute e "items" apos) [] [] cpos) X.env) :: starEach [] X.env := by rfl) :
    PE X (.Call (.Name "sorted" p) [.Call (.Attribute e "items" apos) [] [] cpos] [] pos) (tSortIt K te) := by
  subst hK
  refine ⟨fun pins s σ H Q I hq => ?_⟩
  refine wpAny_Call_Name_kw (ld_blt I hg hm hv ?_)
  refine PyProof.Rows.callWith_builtin1 ?_ hs rfl
  rw [hs]
  refine Calls.spliced_cons ?_
  refine wpAny_Call_method (T := "dict") (id := "dict.items") hbase rfl hline F.plainAttrs_dict F.slot_dict_items F.type_dict_items (thn (he.run pins s σ H _ I hq) fun u s1 ⟨x, H1, I1, rx, d, L, ex, hd, hasc, q⟩ => ?_)
  subst ex
  cases rx
  obtain ⟨hz, hs0, vs, kv, hdo⟩ := dk_rd I1.hok hd
  obtain ⟨o, es, ep, ho, hx, hdat, hkeys, hprs, hnd⟩ := id hdo
  have lk : (entI L).length = vs.length := Paired.length kv
  have le : es.toList.length = vs.length := hprs.length
  have lL : L.length = (entI L).length := by rw [entI, List.length_map]
  have I2 : Inv X pins σ H1 { s1 with heap := s1.heap.push { cls := .type "dict_items", data := .fields #[.ref d] } } := I1.kept (t' := s1.toks) fun b ob q => Heap.get?_push_of_some _ q
  refine ⟨hdo.typeIs, hdo.mapOf.noDict, ?_⟩
  show wpAny _ _ (callWith cpos (.builtin "dict.items") [.ref d] [] []) _ X.xe s1
  refine method_meetsIn F.slot_dict_items F.entry_dict_items rfl (PySem.evalArgs_none ⟨rfl, hdo.typeIs, F.args_dict_items_1 _, _, meets_dict_items (mixKind X.prog X.w) d hs0, ⟨vs, hdo⟩, ?_⟩)
  refine Calls.spliced_nil ?_
  have hes : es.size ≤ sizeLine := by rw [← Array.length_toList, le, ← lk]; exact hz
  refine DT.sortedI (es := es) (ep := ep) (I1.ok.hd hc) ⟨_, Heap.get?_push_size _ rfl, rfl, rfl⟩ (DT.Raw.push ⟨o, ho, hx, hdat⟩ _) hes fun h' tk as hk hlt hl hG => ?_
  have nd : as.Nodup := List.Pairwise.imp (fun {a b} (h : a < b) => Nat.ne_of_lt h) hG.rise
  have las : as.length = L.length := by rw [hl, ← Array.length_toList, le, ← lk, ← lL]
  -- what stands at each
  have each : ∀ (j : Nat) (a : Addr), as[j]? = some a → ∃ x u1 u2, L[j]? = some x ∧ RelV (V.int x.1) u1 ∧ RelV (V.int x.2) u2 ∧ h'.get? a = some { cls := .type "tuple", data := .seq #[u1, u2] } := fun j a hj => by
    obtain ⟨en, e1, e2⟩ := hG.pairs j a hj
    obtain ⟨q1, f1, f2, f3⟩ := pairs_at hprs (j := j) (e := en) (by rw [Array.getElem?_toList]; exact e1)
    obtain ⟨p1, g1, g2, g3⟩ := kvs_at kv f1
    rw [entI, List.getElem?_map] at g1
    cases hLj : L[j]? with
    | none => rw [hLj] at g1; cases g1
    | some x =>
      rw [hLj] at g1
      cases g1
      refine ⟨x, en.key, en.val, rfl, ?_, by rw [f3]; exact g3, e2⟩
      rw [← g2] at f2
      exact relV_key (k := Sum.inl x.1) f2
  have I3 : Inv X pins σ H1 { s1 with heap := h', toks := tk } := I2.kept (t' := tk) hk
  obtain ⟨H2, I4, g1, g2⟩ := L2.DX.takeT (P := fun a vs => ∃ (j : Nat) (x : Int × Int), as[j]? = some a ∧ L[j]? = some x ∧ vs = [V.int x.1, V.int x.2]) I2 as H1 I3 nd fun a ha => by
    obtain ⟨j, hj⟩ := List.mem_iff_getElem?.mp ha
    obtain ⟨x, u1, u2, h1, h2, h3, h4⟩ := each j a hj
    refine ⟨Nat.le_of_lt (hG.above a ha), I2.hok.fresh (Nat.le_of_lt (hG.above a ha)), _, ⟨j, x, hj, h1, rfl⟩, fun H2 => ?_⟩
    exact ⟨by show 2 ≤ sizeLine; decide, [u1, u2], .cons h2 (.cons h3 .nil), ⟨_, h4, rfl, _, rfl⟩⟩
  have at2 : ∀ (j : Nat) (a : Addr), as[j]? = some a → ∃ x, L[j]? = some x ∧ H2 a = some (.tup [V.int x.1, V.int x.2]) := fun j a hj => by
    obtain ⟨vs2, ⟨j2, x, h1, h2, rfl⟩, h3⟩ := g2 a (List.mem_of_getElem? hj)
    have ej : j = j2 := by
      obtain ⟨b1, b2⟩ := List.getElem?_eq_some_iff.mp hj
      obtain ⟨b3, b4⟩ := List.getElem?_eq_some_iff.mp h1
      exact (List.getElem_inj nd).mp (b2.trans b4.symm)
    exact ⟨x, ej ▸ h2, h3⟩
  have hn : H2 h'.objs.size = none := I4.hok.fresh (Nat.le_refl _)
  have I5 : Inv X pins σ (upd H2 h'.objs.size (.lst (as.map V.ref))) { s1 with heap := h'.push { cls := .type "list", data := .seq (as.map Value.ref).toArray }, toks := tk } := by
    refine I4.laid (t' := tk) (fun b ob e => Heap.get?_push_of_some _ e) (Nat.le_refl _) ⟨by rw [List.length_map, las, lL]; exact hz, as.map Value.ref, 0, ?_, Heap.get?_push_size _ rfl⟩
    exact LiI.vals_refs as
  let kf : V → Int × Int := fun v => match v with
    | .ref a => ((as.zip L).lookup a).getD (0, 0)
    | _ => (0, 0)
  have kfe : ∀ (j : Nat) (a : Addr) (x : Int × Int), as[j]? = some a → L[j]? = some x → kf (.ref a) = x := fun j a x h1 h2 => by
    show ((as.zip L).lookup a).getD (0, 0) = x
    rw [lookup_zip nd h1 h2]
    rfl
  have srtd : SrtO.Srtd (ltP kf) (as.map V.ref) := by
    refine List.pairwise_iff_getElem.mpr fun i j hi hj hij => ?_
    rw [List.length_map] at hi hj
    have ei : as[i]? = some as[i] := List.getElem?_eq_getElem hi
    have ej : as[j]? = some as[j] := List.getElem?_eq_getElem hj
    have xi : L[i]? = some (L[i]'(by omega)) := List.getElem?_eq_getElem _
    have xj : L[j]? = some (L[j]'(by omega)) := List.getElem?_eq_getElem _
    have lt := List.pairwise_iff_getElem.mp hasc i j (by omega) (by omega) hij
    rw [List.getElem_map, List.getElem_map]
    show SrtO.lexB (kf (.ref as[j])) (kf (.ref as[i])) = false
    rw [kfe i _ _ ei xi, kfe j _ _ ej xj]
    refine SrtO.lexB_no.mpr ?_
    omega
  have srt := mt_sortPO (X := { X with A := X.A.in1 }) pins _ σ _ (V.ref h'.objs.size) [] (Value.ref h'.objs.size) [] (fun _ H3 => H3 = upd H2 h'.objs.size (.lst (as.map V.ref))) (inv_in1 I5) rfl .nil
    ⟨_, as.map V.ref, kf, rfl, rfl, upd_same, fun y hy => by
      obtain ⟨a, ha, rfl⟩ := List.mem_map.mp hy
      obtain ⟨j, hj⟩ := List.mem_iff_getElem?.mp ha
      obtain ⟨x, h1, h2⟩ := at2 j a hj
      refine ⟨a, rfl, ?_⟩
      rw [kfe j a x hj h1, upd_ne (ne_of_none h2 hn)]
      exact h2, fun zs h1 h2 => by rw [upd_upd, SrtO.stb_uniq (ltP_swo kf) h1 srtd h2]⟩
  refine wpAny_mono srt (fun v s' hx => ?_) fun _ _ h => h
  obtain ⟨v', H3, I6, -, rfl⟩ := hx
  refine ⟨.ref h'.objs.size, _, inv_out1 I.ok I6, rfl, q _ _ ?_ ?_⟩
  · exact Evl.Ex.trans (fun a ob h => g1 a ob h) (Ex.new hn)
  · refine ⟨_, _, rfl, sq_of upd_same, by rw [List.length_map, las], fun j y x hy hx => ?_⟩
    rw [List.getElem?_map] at hy
    cases hj : as[j]? with
    | none => rw [hj] at hy; cases hy
    | some b =>
      rw [hj] at hy
      cases hy
      obtain ⟨x', h1, h2⟩ := at2 j b hj
      rw [hx] at h1
      cases h1
      refine ⟨b, rfl, st_of ?_⟩
      rw [upd_ne (ne_of_none h2 hn)]
      exact h2
end
end My

namespace My
/-! ### primes and what whole numbers are made of: plain Lean -/
def Pr (p : Nat) : Prop := 2 ≤ p ∧ isP p = true
theorem pr_dvd {p d : Nat} (h : Pr p) (hd : d ∣ p) : d = 1 ∨ d = p := by
  obtain ⟨e, he⟩ := hd
  have t := isP_iff.mp h.2
  have h2 := h.1
  by_cases d1 : d = 1
  · exact .inl d1
  · by_cases e1 : e = 1
    · rw [e1, Nat.mul_one] at he
      exact .inr he.symm
    · exfalso
      have d0 : d ≠ 0 := by rintro rfl; rw [Nat.zero_mul] at he; omega
      have e0 : e ≠ 0 := by rintro rfl; rw [Nat.mul_zero] at he; omega
      by_cases hle : d ≤ e
      · refine t d (by omega) ?_ ?_
        · rw [he]; exact Nat.mul_le_mul_left d hle
        · rw [he]; exact Nat.mul_mod_right d e
      · refine t e (by omega) ?_ ?_
        · rw [he]; exact Nat.mul_le_mul_right e (by omega)
        · rw [he]; exact Nat.mul_mod_left d e
theorem pr_cop {p a : Nat} (h : Pr p) (ha : ¬ p ∣ a) : Nat.Coprime p a := by
  rcases pr_dvd h (Nat.gcd_dvd_left p a) with e | e
  · exact e
  · exact absurd (e ▸ Nat.gcd_dvd_right p a) ha
theorem pr_euclid {p a b : Nat} (h : Pr p) (hd : p ∣ a * b) : p ∣ a ∨ p ∣ b := by
  by_cases ha : p ∣ a
  · exact .inl ha
  · exact .inr ((pr_cop h ha).dvd_of_dvd_mul_left hd)
theorem pr_pow {p a m : Nat} (h : Pr p) (hd : p ∣ a ^ m) : p ∣ a := by
  induction m with
  | zero =>
    rw [Nat.pow_zero] at hd
    have := Nat.le_of_dvd (by decide) hd
    have := h.1
    omega
  | succ m ih =>
    rw [Nat.pow_succ] at hd
    rcases pr_euclid h hd with h1 | h1
    · exact ih h1
    · exact h1
theorem pr_eq {p q : Nat} (hp : Pr p) (hq : Pr q) (h : p ∣ q) : p = q := by
  rcases pr_dvd hq h with e | e
  · have := hp.1; omega
  · exact e
/-- the least divisor is a prime -/
theorem least_pr {n k : Nat} (hk : 2 ≤ k) (hd : k ∣ n) (hl : ∀ j, 2 ≤ j → j < k → ¬ j ∣ n) : Pr k := by
  refine ⟨hk, isP_iff.mpr fun j h1 h2 h3 => ?_⟩
  have hj : j ∣ k := Nat.dvd_of_mod_eq_zero h3
  have h4 : j < k := by
    have := Nat.mul_le_mul_left j h1
    omega
  exact hl j h1 h4 (Nat.dvd_trans hj hd)
theorem ex_least {n : Nat} (h : 2 ≤ n) : ∃ p, Pr p ∧ p ∣ n := by
  have : ∀ f k, 2 ≤ k → k ≤ n → n - k ≤ f → (∀ j, 2 ≤ j → j < k → ¬ j ∣ n) → ∃ p, Pr p ∧ p ∣ n := by
    intro f
    induction f with
    | zero =>
      intro k h1 h2 h3 h4
      have e : k = n := by omega
      subst e
      exact ⟨k, least_pr h1 (Nat.dvd_refl _) h4, Nat.dvd_refl _⟩
    | succ f ih =>
      intro k h1 h2 h3 h4
      by_cases hd : k ∣ n
      · exact ⟨k, least_pr h1 hd h4, hd⟩
      · have hkn : k ≠ n := fun e => hd (e ▸ Nat.dvd_refl _)
        refine ih (k + 1) (by omega) (by omega) (by omega) fun j a b => ?_
        by_cases ej : j = k
        · rw [ej]; exact hd
        · exact h4 j a (by omega)
  exact this n 2 (by decide) h (by omega) (by omega)
/-! ### the product of powers -/
def prodL : List (Nat × Nat) → Nat
  | [] => 1
  | x :: r => x.1 ^ x.2 * prodL r
theorem prodL_app : ∀ (a b : List (Nat × Nat)), prodL (a ++ b) = prodL a * prodL b
  | [], b => by rw [List.nil_append]; show _ = 1 * _; rw [Nat.one_mul]
  | x :: r, b => by
    show x.1 ^ x.2 * prodL (r ++ b) = x.1 ^ x.2 * prodL r * prodL b
    rw [prodL_app r b, Nat.mul_assoc]
theorem prodL_pos : ∀ {L : List (Nat × Nat)}, (∀ x ∈ L, 1 ≤ x.1) → 1 ≤ prodL L
  | [], _ => Nat.le_refl _
  | x :: r, h => Nat.mul_pos (Nat.pow_pos (h x List.mem_cons_self)) (prodL_pos fun y hy => h y (List.mem_cons_of_mem _ hy))
theorem dvd_prodL {p : Nat} (hp : Pr p) : ∀ {L : List (Nat × Nat)}, (∀ x ∈ L, Pr x.1) → p ∣ prodL L → ∃ m, (p, m) ∈ L
  | [], _, h => by
    have := Nat.le_of_dvd (by decide) (show p ∣ 1 from h)
    have := hp.1
    omega
  | x :: r, hL, h => by
    rcases pr_euclid hp (show p ∣ x.1 ^ x.2 * prodL r from h) with h1 | h1
    · have e := pr_eq hp (hL x List.mem_cons_self) (pr_pow hp h1)
      exact ⟨x.2, by rw [e]; exact List.mem_cons_self⟩
    · obtain ⟨m, hm⟩ := dvd_prodL hp (fun y hy => hL y (List.mem_cons_of_mem _ hy)) h1
      exact ⟨m, List.mem_cons_of_mem _ hm⟩
theorem dvd_pow1 {k m : Nat} (h : ¬ m = 0) : k ∣ k ^ m := by
  have := Nat.pow_dvd_pow k (show 1 ≤ m by omega)
  rw [Nat.pow_one] at this
  exact this
structure Fac (n : Nat) (L : List (Nat × Nat)) : Prop where
  asc : L.Pairwise fun a b => a.1 < b.1
  pr : ∀ x ∈ L, Pr x.1 ∧ 1 ≤ x.2
  prod : prodL L = n
theorem head_dvd {x : Nat × Nat} {r : List (Nat × Nat)} (h : 1 ≤ x.2) : x.1 ∣ prodL (x :: r) := by
  refine Nat.dvd_trans ?_ (Nat.dvd_mul_right _ _)
  exact Nat.dvd_trans (show x.1 ∣ x.1 ^ 1 by rw [Nat.pow_one]; exact Nat.dvd_refl _) (Nat.pow_dvd_pow _ h)
theorem split_pow {p a b : Nat} (hp : 2 ≤ p) : ∀ {m k : Nat}, p ^ m * a = p ^ k * b → ¬ p ∣ a → ¬ p ∣ b → m = k ∧ a = b
  | 0, 0, h, _, _ => by simpa using h
  | m + 1, 0, h, _, hb => by
    rw [Nat.pow_zero, Nat.one_mul] at h
    exact absurd ⟨p ^ m * a, by rw [← h, Nat.pow_succ, Nat.mul_comm (p ^ m) p, Nat.mul_assoc]⟩ hb
  | 0, k + 1, h, ha, _ => by
    rw [Nat.pow_zero, Nat.one_mul] at h
    exact absurd ⟨p ^ k * b, by rw [h, Nat.pow_succ, Nat.mul_comm (p ^ k) p, Nat.mul_assoc]⟩ ha
  | m + 1, k + 1, h, ha, hb => by
    have h2 : p * (p ^ m * a) = p * (p ^ k * b) := by
      rw [← Nat.mul_assoc, ← Nat.mul_assoc, Nat.mul_comm p, Nat.mul_comm p, ← Nat.pow_succ, ← Nat.pow_succ]
      exact h
    obtain ⟨e1, e2⟩ := split_pow hp (Nat.eq_of_mul_eq_mul_left (by omega) h2) ha hb
    exact ⟨by rw [e1], e2⟩
theorem not_tail {x : Nat × Nat} {r : List (Nat × Nat)} (asc : (x :: r).Pairwise fun a b => a.1 < b.1) (pr : ∀ y ∈ x :: r, Pr y.1 ∧ 1 ≤ y.2) : ¬ x.1 ∣ prodL r := fun h => by
  obtain ⟨m, hm⟩ := dvd_prodL (pr x List.mem_cons_self).1 (fun y hy => (pr y (List.mem_cons_of_mem _ hy)).1) h
  have := (List.pairwise_cons.mp asc).1 _ hm
  exact Nat.lt_irrefl _ this
theorem fac_uniq : ∀ {L M : List (Nat × Nat)} {n : Nat}, Fac n L → Fac n M → L = M
  | [], [], _, _, _ => rfl
  | [], y :: s, n, h1, h2 => by
    exfalso
    have e : n = 1 := h1.prod.symm
    have d := head_dvd (r := s) (h2.pr y List.mem_cons_self).2
    rw [h2.prod, e] at d
    have := Nat.le_of_dvd (by decide) d
    have := (h2.pr y List.mem_cons_self).1.1
    omega
  | x :: r, [], n, h1, h2 => by
    exfalso
    have e : n = 1 := h2.prod.symm
    have d := head_dvd (r := r) (h1.pr x List.mem_cons_self).2
    rw [h1.prod, e] at d
    have := Nat.le_of_dvd (by decide) d
    have := (h1.pr x List.mem_cons_self).1.1
    omega
  | x :: r, y :: s, n, h1, h2 => by
    have px := h1.pr x List.mem_cons_self
    have py := h2.pr y List.mem_cons_self
    have dx := head_dvd (r := r) px.2
    rw [h1.prod, ← h2.prod] at dx
    have dy := head_dvd (r := s) py.2
    rw [h2.prod, ← h1.prod] at dy
    obtain ⟨m1, e1⟩ := dvd_prodL px.1 (fun z hz => (h2.pr z hz).1) dx
    obtain ⟨m2, e2⟩ := dvd_prodL py.1 (fun z hz => (h1.pr z hz).1) dy
    have le1 : y.1 ≤ x.1 := by
      rcases List.mem_cons.mp e1 with e | e
      · rw [← e]; exact Nat.le_refl _
      · exact Nat.le_of_lt ((List.pairwise_cons.mp h2.asc).1 (x.1, m1) e)
    have le2 : x.1 ≤ y.1 := by
      rcases List.mem_cons.mp e2 with e | e
      · rw [← e]; exact Nat.le_refl _
      · exact Nat.le_of_lt ((List.pairwise_cons.mp h1.asc).1 (y.1, m2) e)
    have ep : x.1 = y.1 := Nat.le_antisymm le2 le1
    have nx := not_tail h1.asc h1.pr
    have ny := not_tail h2.asc h2.pr
    have eq : x.1 ^ x.2 * prodL r = x.1 ^ y.2 * prodL s := by
      have a : x.1 ^ x.2 * prodL r = n := h1.prod
      have b : y.1 ^ y.2 * prodL s = n := h2.prod
      rw [a, ep, b]
    obtain ⟨em, er⟩ := split_pow px.1.1 eq nx (by rw [ep]; exact ny)
    have t1 : Fac (prodL r) r := ⟨(List.pairwise_cons.mp h1.asc).2, fun z hz => h1.pr z (List.mem_cons_of_mem _ hz), rfl⟩
    have t2 : Fac (prodL r) s := ⟨(List.pairwise_cons.mp h2.asc).2, fun z hz => h2.pr z (List.mem_cons_of_mem _ hz), er.symm⟩
    rw [fac_uniq t1 t2, Prod.ext ep em]
/-! ### trial division, as the loops do it -/
/-- so far: the powers of all primes below k, and what is left -/
structure PInv (n k w : Nat) (L : List (Nat × Nat)) : Prop where
  k2 : 2 ≤ k
  w1 : 1 ≤ w
  asc : L.Pairwise fun a b => a.1 < b.1
  pr : ∀ x ∈ L, Pr x.1 ∧ 1 ≤ x.2 ∧ x.1 < k
  prod : prodL L * w = n
  none : ∀ j, 2 ≤ j → j < k → ¬ j ∣ w
/-- k's power so far -/
def Lm (L : List (Nat × Nat)) (k m : Nat) : List (Nat × Nat) := if m = 0 then L else L ++ [(k, m)]
structure QInv (n k w m : Nat) (L : List (Nat × Nat)) : Prop where
  base : PInv n k (k ^ m * w) L
  w1 : 1 ≤ w
theorem PInv.start {n : Nat} (h : 1 ≤ n) : PInv n 2 n [] := ⟨Nat.le_refl _, h, .nil, fun _ h => (by cases h), Nat.one_mul _, fun j h1 h2 => by omega⟩
theorem PInv.q {n k w : Nat} {L : List (Nat × Nat)} (h : PInv n k w L) : QInv n k w 0 L := ⟨by rw [Nat.pow_zero, Nat.one_mul]; exact h, h.w1⟩
theorem QInv.step {n k w m : Nat} {L : List (Nat × Nat)} (h : QInv n k w m L) (hd : w % k = 0) : QInv n k (w / k) (m + 1) L := by
  have e : k * (w / k) = w := Nat.mul_div_cancel' (Nat.dvd_of_mod_eq_zero hd)
  refine ⟨?_, ?_⟩
  · rw [Nat.pow_succ, Nat.mul_assoc, e]
    exact h.base
  · rcases Nat.eq_zero_or_pos (w / k) with z | z
    · rw [z, Nat.mul_zero] at e
      have := h.w1
      omega
    · exact z
theorem prodL_one (k m : Nat) : prodL [(k, m)] = k ^ m := Nat.mul_one _
theorem QInv.next {n k w m : Nat} {L : List (Nat × Nat)} (h : QInv n k w m L) (hd : ¬ w % k = 0) : PInv n (k + 1) w (Lm L k m) := by
  have b := h.base
  have nd : ¬ k ∣ w := fun z => hd (Nat.mod_eq_zero_of_dvd z)
  have nw : ∀ j, 2 ≤ j → j < k + 1 → ¬ j ∣ w := fun j h1 h2 => by
    by_cases e : j = k
    · rw [e]; exact nd
    · exact fun z => b.none j h1 (by omega) (Nat.dvd_trans z (Nat.dvd_mul_left _ _))
  unfold Lm
  by_cases m0 : m = 0
  · rw [if_pos m0]
    subst m0
    refine ⟨by have := b.k2; omega, h.w1, b.asc, fun x hx => ?_, by rw [← b.prod, Nat.pow_zero, Nat.one_mul], nw⟩
    have := b.pr x hx
    exact ⟨this.1, this.2.1, by omega⟩
  · rw [if_neg m0]
    have pk : Pr k := least_pr (n := k ^ m * w) b.k2 (Nat.dvd_trans (dvd_pow1 m0) (Nat.dvd_mul_right _ _)) b.none
    refine ⟨by have := b.k2; omega, h.w1, List.pairwise_append.mpr ⟨b.asc, List.pairwise_singleton _ _, fun x hx y hy => ?_⟩, fun x hx => ?_, ?_, nw⟩
    · rw [List.mem_singleton.mp hy]
      exact (b.pr x hx).2.2
    · rcases List.mem_append.mp hx with q | q
      · have := b.pr x q
        exact ⟨this.1, this.2.1, by omega⟩
      · rw [List.mem_singleton.mp q]
        exact ⟨pk, by show 1 ≤ m; omega, by show k < k + 1; omega⟩
    · rw [prodL_app, prodL_one, Nat.mul_assoc]
      exact b.prod
theorem PInv.big {n k w : Nat} {L : List (Nat × Nat)} (h : PInv n k w L) (hw : 1 < w) : k ≤ w := by
  by_cases q : w < k
  · exact absurd (Nat.dvd_refl w) (h.none w hw q)
  · omega
/-- the loop is through: what is left is one, or a prime -/
theorem PInv.done {n k w : Nat} {L : List (Nat × Nat)} (h : PInv n k w L) (hk : ¬ k * k ≤ w) : Fac n (if 1 < w then L ++ [(w, 1)] else L) := by
  by_cases hw : 1 < w
  · rw [if_pos hw]
    have kw := h.big hw
    have pw : Pr w := least_pr (n := w) hw (Nat.dvd_refl _) fun j h1 h2 h3 => by
      by_cases q : j < k
      · exact h.none j h1 q h3
      · obtain ⟨c, hc⟩ := h3
        have c2 : 2 ≤ c := by
          rcases Nat.lt_or_ge c 2 with z | z
          · have : c = 0 ∨ c = 1 := by omega
            rcases this with z | z
            · rw [z, Nat.mul_zero] at hc; omega
            · rw [z, Nat.mul_one] at hc; omega
          · exact z
        by_cases q2 : c < k
        · exact h.none c c2 q2 ⟨j, by rw [Nat.mul_comm]; exact hc⟩
        · have : k * k ≤ j * c := Nat.mul_le_mul (by omega) (by omega)
          omega
    refine ⟨List.pairwise_append.mpr ⟨h.asc, List.pairwise_singleton _ _, fun x hx y hy => ?_⟩, fun x hx => ?_, ?_⟩
    · rw [List.mem_singleton.mp hy]
      exact Nat.lt_of_lt_of_le (h.pr x hx).2.2 kw
    · rcases List.mem_append.mp hx with q | q
      · exact ⟨(h.pr x q).1, (h.pr x q).2.1⟩
      · rw [List.mem_singleton.mp q]
        exact ⟨pw, Nat.le_refl _⟩
    · rw [prodL_app, prodL_one, Nat.pow_one]
      exact h.prod
  · rw [if_neg hw]
    have e : w = 1 := by have := h.w1; omega
    refine ⟨h.asc, fun x hx => ⟨(h.pr x hx).1, (h.pr x hx).2.1⟩, ?_⟩
    have := h.prod
    rw [e, Nat.mul_one] at this
    exact this
theorem fac_ex {n : Nat} (h : 1 ≤ n) : ∃ L, Fac n L := by
  have inner : ∀ f k w m L, w ≤ f → QInv n k w m L → ∃ w' L', PInv n (k + 1) w' L' := by
    intro f
    induction f with
    | zero => intro k w m L hf hq; have := hq.w1; omega
    | succ f ih =>
      intro k w m L hf hq
      by_cases hd : w % k = 0
      · have k2 := hq.base.k2
        have : w / k < w := Nat.div_lt_self hq.w1 k2
        exact ih k (w / k) (m + 1) L (by omega) (hq.step hd)
      · exact ⟨w, _, hq.next hd⟩
  have outer : ∀ f k w L, n + 1 - k ≤ f → PInv n k w L → ∃ L, Fac n L := by
    intro f
    induction f with
    | zero =>
      intro k w L hf hp
      refine ⟨_, hp.done fun q => ?_⟩
      have wn : w ≤ n := by
        rw [← hp.prod]
        exact Nat.le_mul_of_pos_left _ (prodL_pos fun x hx => by have := (hp.pr x hx).1.1; omega)
      have : k * 1 ≤ k * k := Nat.mul_le_mul_left k (by have := hp.k2; omega)
      omega
    | succ f ih =>
      intro k w L hf hp
      by_cases hk : k * k ≤ w
      · obtain ⟨w', L', h'⟩ := inner w k w 0 L (Nat.le_refl _) hp.q
        exact ih (k + 1) w' L' (by omega) h'
      · exact ⟨_, hp.done hk⟩
  exact outer (n + 1) 2 n [] (by omega) (PInv.start h)
theorem PInv.le {n k w : Nat} {L : List (Nat × Nat)} (hp : PInv n k w L) : w ≤ n := by
  rw [← hp.prod]
  exact Nat.le_mul_of_pos_left _ (prodL_pos fun x hx => by have := (hp.pr x hx).1.1; omega)
/-- what a whole number is made of -/
noncomputable def fac (n : Nat) : List (Nat × Nat) := if h : 1 ≤ n then (fac_ex h).choose else []
theorem fac_is {n : Nat} (h : 1 ≤ n) : Fac n (fac n) := by
  unfold fac
  rw [dif_pos h]
  exact (fac_ex h).choose_spec
theorem fac_eq {n : Nat} {L : List (Nat × Nat)} (h : 1 ≤ n) (hL : Fac n L) : L = fac n := fac_uniq hL (fac_is h)
end My

namespace My
open PySem PySem.Spec PyProof.Rows L2 Evl
variable {K : PySem.W.Frag} {σ : L2.St} {H : Hp} {ta tb te tc tl td tk tv : TE} {tt : TT} {d e z : PyData} {vs : List Nat} {tg : TG}
/-! ### dicts of ints by data -/
inductive DkE (K : PySem.W.Frag) (H : Hp) : List (Key × V) → List (Int × PyData) → Prop
  | nil : DkE K H [] []
  | cons {k : Int} {v : V} {d : PyData} {es : List (Key × V)} {L : List (Int × PyData)} : Dq K H v d → DkE K H es L → DkE K H ((Sum.inl k, v) :: es) ((k, d) :: L)
def lookD (L : List (Int × PyData)) (k : Int) : Option PyData := (L.find? fun x => decide (x.1 = k)).map (·.2)
def putD (L : List (Int × PyData)) (k : Int) (d : PyData) : List (Int × PyData) :=
  if (L.any fun x => decide (x.1 = k)) = true then L.map (fun x => if x.1 = k then (x.1, d) else x) else L ++ [(k, d)]
def immD (L : List (Int × PyData)) : Prop := ∀ x ∈ L, imm x.2 = true
theorem DkE.len {es : List (Key × V)} {L : List (Int × PyData)} (h : DkE K H es L) : es.length = L.length := by
  induction h with
  | nil => rfl
  | cons _ _ ih => rw [List.length_cons, List.length_cons, ih]
theorem DkE.keys {es : List (Key × V)} {L : List (Int × PyData)} (h : DkE K H es L) : es.map (·.1) = (L.map (·.1)).map Sum.inl := by
  induction h with
  | nil => rfl
  | cons _ _ ih => rw [List.map_cons, List.map_cons, List.map_cons, ih]
theorem DkE.ex {H' : Hp} {es : List (Key × V)} {L : List (Int × PyData)} (h : DkE K H es L) (e : Ex H H') : DkE K H' es L := by
  induction h with
  | nil => exact .nil
  | cons a _ ih => exact .cons (Dq_ex a e) ih
/-- what stands at p alone has changed, and p is not locked -/
def Gd (p : Addr) (H H' : Hp) : Prop := Go p H H' ∧ ∀ o u, H p ≠ some (.frz o u)
theorem dp_gd {p : Addr} {H H' : Hp} (g : Gd p H H') (d : PyData) (v : V) (_ : imm d = true) (h : Dq K H v d) : Dq K H' v d := Dq_un (fun a o u ha => g.1 a _ (fun z => g.2 o u (z ▸ ha)) ha) h
theorem DkE.gd {p : Addr} {H' : Hp} {es : List (Key × V)} {L : List (Int × PyData)} (h : DkE K H es L) (g : Gd p H H') (hI : immD L) : DkE K H' es L := by
  induction h with
  | nil => exact .nil
  | cons a _ ih => exact .cons (dp_gd g _ _ (hI _ List.mem_cons_self) a) (ih fun x hx => hI x (List.mem_cons_of_mem _ hx))
theorem DkE.look {es : List (Key × V)} {L : List (Int × PyData)} (h : DkE K H es L) (k : Int) : match lookD L k with
    | none => valV es (Sum.inl k) = none
    | some d => ∃ v, valV es (Sum.inl k) = some v ∧ Dq K H v d := by
  induction h with
  | nil => rfl
  | @cons k' v d' es L a t ih =>
    by_cases e : k' = k
    · have e1 : lookD ((k', d') :: L) k = some d' := by simp [lookD, List.find?_cons, e]
      rw [e1]
      exact ⟨v, valV_pos (congrArg Sum.inl e), a⟩
    · have e1 : lookD ((k', d') :: L) k = lookD L k := by simp [lookD, List.find?_cons, e]
      rw [e1, valV_neg (p := (Sum.inl k', v)) (fun z => e (Sum.inl.inj z))]
      exact ih
theorem DkE.any {es : List (Key × V)} {L : List (Int × PyData)} (h : DkE K H es L) (k : Int) : (es.any fun kv => decide (kv.1 = Sum.inl k)) = L.any fun x => decide (x.1 = k) := by
  induction h with
  | nil => rfl
  | @cons k' v d' es L a t ih =>
    rw [List.any_cons, List.any_cons, ih]
    congr 1
    exact decide_eq_decide.mpr ⟨fun z => Sum.inl.inj z, fun z => congrArg Sum.inl z⟩
theorem DkE.repl {es : List (Key × V)} {L : List (Int × PyData)} {v : V} {d : PyData} (h : DkE K H es L) (hv : Dq K H v d) (k : Int) : DkE K H (es.map fun kv => if kv.1 = Sum.inl k then (kv.1, v) else kv) (L.map fun x => if x.1 = k then (x.1, d) else x) := by
  induction h with
  | nil => exact .nil
  | @cons k' v' d' es L a t ih =>
    rw [List.map_cons, List.map_cons]
    by_cases e : k' = k
    · rw [if_pos (congrArg Sum.inl e), if_pos e]
      exact .cons hv ih
    · rw [if_neg (fun z => e (Sum.inl.inj z)), if_neg e]
      exact .cons a ih
theorem DkE.snoc {es : List (Key × V)} {L : List (Int × PyData)} {v : V} {d : PyData} {k : Int} (h : DkE K H es L) (hv : Dq K H v d) : DkE K H (es ++ [(Sum.inl k, v)]) (L ++ [(k, d)]) := by
  induction h with
  | nil => exact .cons hv .nil
  | cons a _ ih => exact .cons a ih
theorem DkE.put {es : List (Key × V)} {L : List (Int × PyData)} {v : V} {d : PyData} (h : DkE K H es L) (hv : Dq K H v d) (k : Int) : DkE K H (putK es (Sum.inl k) v) (putD L k d) := by
  unfold putK putD
  rw [h.any k]
  by_cases e : (L.any fun x => decide (x.1 = k)) = true
  · rw [if_pos e, if_pos e]
    exact h.repl hv k
  · rw [if_neg e, if_neg e]
    exact h.snoc hv
theorem look_put (L : List (Int × PyData)) (k j : Int) (d : PyData) : lookD (putD L k d) j = if j = k then some d else lookD L j := by
  unfold putD
  by_cases e : (L.any fun x => decide (x.1 = k)) = true
  · rw [if_pos e]
    induction L with
    | nil => cases e
    | cons x L ih =>
      rw [List.map_cons]
      by_cases hx : x.1 = k
      · rw [if_pos hx]
        by_cases hj : j = k
        · rw [if_pos hj]
          simp [lookD, List.find?_cons, hx, hj]
        · rw [if_neg hj]
          have hx2 : ¬ x.1 = j := by omega
          by_cases e2 : (L.any fun x => decide (x.1 = k)) = true
          · have := ih e2
            rw [if_neg hj] at this
            simp only [lookD, List.find?_cons, hx2, decide_false] at this ⊢
            exact this
          · have el : (L.map fun x => if x.1 = k then (x.1, d) else x) = L := by
              have h3 : ∀ y ∈ L, ¬ y.1 = k := fun y hy q => e2 (List.any_eq_true.mpr ⟨y, hy, decide_eq_true q⟩)
              clear ih e e2
              induction L with
              | nil => rfl
              | cons y L ih2 =>
                rw [List.map_cons, if_neg (h3 y List.mem_cons_self), ih2 fun z hz => h3 z (List.mem_cons_of_mem _ hz)]
            rw [el]
            simp [lookD, List.find?_cons, hx2]
      · rw [if_neg hx]
        have e2 : (L.any fun x => decide (x.1 = k)) = true := by simpa [hx] using e
        have := ih e2
        by_cases hxj : x.1 = j
        · have hj : ¬ j = k := by omega
          rw [if_neg hj]
          simp [lookD, List.find?_cons, hxj]
        · simp only [lookD, List.find?_cons, hxj, decide_false] at this ⊢
          exact this
  · rw [if_neg e]
    have h3 : ∀ y ∈ L, ¬ y.1 = k := fun y hy q => e (List.any_eq_true.mpr ⟨y, hy, decide_eq_true q⟩)
    unfold lookD
    rw [List.find?_append]
    by_cases hj : j = k
    · rw [if_pos hj]
      have : L.find? (fun x => decide (x.1 = j)) = none := List.find?_eq_none.mpr fun y hy => by simpa [hj] using h3 y hy
      rw [this]
      simp [hj]
    · rw [if_neg hj]
      have : [(k, d)].find? (fun x => decide (x.1 = j)) = none := by
        have : ¬ k = j := by omega
        simp [this]
      rw [this]
      simp
theorem keys_put (L : List (Int × PyData)) (k : Int) (d : PyData) : (putD L k d).map (·.1) = if k ∈ L.map (·.1) then L.map (·.1) else L.map (·.1) ++ [k] := by
  unfold putD
  by_cases e : (L.any fun x => decide (x.1 = k)) = true
  · rw [if_pos e, if_pos]
    · rw [List.map_map]
      apply List.map_congr_left
      intro x _
      show (if x.1 = k then (x.1, d) else x).1 = x.1
      split <;> rfl
    · obtain ⟨x, hx, hk⟩ := List.any_eq_true.mp e
      exact List.mem_map.mpr ⟨x, hx, of_decide_eq_true hk⟩
  · rw [if_neg e, if_neg]
    · rw [List.map_append]; rfl
    · intro h
      obtain ⟨x, hx, hk⟩ := List.mem_map.mp h
      exact e (List.any_eq_true.mpr ⟨x, hx, decide_eq_true hk⟩)
theorem len_put (L : List (Int × PyData)) (k : Int) (d : PyData) : (putD L k d).length ≤ L.length + 1 := by
  unfold putD
  split <;> simp
theorem imm_put {L : List (Int × PyData)} {k : Int} {d : PyData} (h : immD L) (hd : imm d = true) : immD (putD L k d) := fun x hx => by
  unfold putD at hx
  split at hx
  · obtain ⟨y, hy, rfl⟩ := List.mem_map.mp hx
    show imm (if y.1 = k then (y.1, d) else y).2 = true
    split
    · exact hd
    · exact h y hy
  · rcases List.mem_append.mp hx with q | q
    · exact h x q
    · rw [List.mem_singleton.mp q]; exact hd
/-! ### reading a dict -/
theorem ed_dget {p : Addr} {es : List (Key × V)} {L : List (Int × PyData)} {k : Int} (h : Ev td σ H (.ref p)) (hk : ED K tk σ H (.int k)) (hp : H p = some (.dK es)) (hE : DkE K H es L) (hl : lookD L k = some d) : ED K (tDGet td tk) σ H d := fun H1 e1 Q q =>
  h H1 e1 _ fun H2 e2 => hk H2 (e1.trans e2) _ fun v H3 e3 hv => by
    cases hv
    have hE3 := (hE.ex ((e1.trans e2).trans e3)).look k
    rw [hl] at hE3
    obtain ⟨v, h1, h2⟩ := hE3
    have g := DGet.k (k := Sum.inl k) (((e1.trans e2).trans e3) p _ hp)
    rw [h1] at g
    exact ⟨p, v, rfl, g, q v H3 (e2.trans e3) h2⟩
theorem ed_din {p : Addr} {es : List (Key × V)} {L : List (Int × PyData)} {k : Int} (hk : ED K tk σ H (.int k)) (h : Ev td σ H (.ref p)) (hp : H p = some (.dK es)) (hE : DkE K H es L) : ED K (tDIn tk td) σ H (.bool (lookD L k).isSome) := fun H1 e1 Q q =>
  hk H1 e1 _ fun v H2 e2 hv => h H2 (e1.trans e2) _ fun H3 e3 => by
    cases hv
    have hE3 := (hE.ex ((e1.trans e2).trans e3)).look k
    refine ⟨p, _, rfl, DGet.k (k := Sum.inl k) (((e1.trans e2).trans e3) p _ hp), ?_⟩
    cases hl : lookD L k with
    | none =>
      rw [hl] at hE3
      rw [show valV es (Sum.inl k) = none from hE3]
      rw [hl] at q
      exact q _ H3 (e2.trans e3) (.bl _)
    | some d =>
      rw [hl] at hE3
      obtain ⟨v, h1, h2⟩ := hE3
      rw [h1]
      rw [hl] at q
      exact q _ H3 (e2.trans e3) (.bl _)
theorem ed_dget2 {p : Addr} {es : List (Key × V)} {L : List (Int × PyData)} {k : Int} {tx : TE} (h : Ev td σ H (.ref p)) (hk : ED K tk σ H (.int k)) (hx : ED K tx σ H e) (hp : H p = some (.dK es)) (hE : DkE K H es L) : ED K (tDGet2 td tk tx) σ H ((lookD L k).getD e) := fun H1 e1 Q q =>
  h H1 e1 _ fun H2 e2 => ⟨p, rfl, .inl ⟨es, .inl ((e1.trans e2) p _ hp)⟩, hk H2 (e1.trans e2) _ fun v H3 e3 hv => hx H3 ((e1.trans e2).trans e3) _ fun w H4 e4 hw => by
    cases hv
    have ee := ((e1.trans e2).trans e3).trans e4
    have hE3 := (hE.ex ee).look k
    refine ⟨_, DGet.k (k := Sum.inl k) (ee p _ hp), ?_⟩
    cases hl : lookD L k with
    | none =>
      rw [hl] at hE3
      rw [show valV es (Sum.inl k) = none from hE3]
      rw [hl] at q
      exact q _ H4 ((e2.trans e3).trans e4) hw
    | some d =>
      rw [hl] at hE3
      obtain ⟨v, h1, h2⟩ := hE3
      rw [h1]
      rw [hl] at q
      exact q _ H4 ((e2.trans e3).trans e4) h2⟩
/-! ### d[k] = v -/
variable {D : Ends} {tu tw tz : TS}
theorem gd_upd {p : Addr} {o : HO} {es : List (Key × V)} (h : H p = some (.dK es)) : Gd p H (upd H p o) := ⟨fun a u n e => by rw [upd_ne n]; exact e, fun o u z => by rw [h] at z; cases z⟩
theorem s_dput {p : Addr} {es : List (Key × V)} {L : List (Int × PyData)} {k : Int} (hv : ED K tv σ H d) (h : Ev td σ H (.ref p)) (hk : ED K tk σ H (.int k)) (hp : H p = some (.dK es)) (hE : DkE K H es L) (hI : immD L) (him : imm d = true) (hz : L.length < 100000)
    (kk : ∀ H2 es', H2 p = some (.dK es') → DkE K H2 es' (putD L k d) → (∀ H0, H0 p = none → Ex H0 H → Ex H0 H2) → D.nx σ H2) : sDPut td tk tv D σ H :=
  hv H (Ex.refl H) _ fun v H1 e1 hv1 => h H1 e1 _ fun H2 e2 => hk H2 (e1.trans e2) _ fun w H3 e3 hw => by
    cases hw
    have ee := (e1.trans e2).trans e3
    have hp3 := ee p _ hp
    refine ⟨p, _, rfl, DPut.k (k := Sum.inl k) hp3 (sz_lt (by rw [hE.len]; exact hz)), ?_⟩
    have g := gd_upd (o := .dK (putK es (Sum.inl k) v)) hp3
    exact kk _ _ upd_same (((hE.ex ee).gd g hI).put (dp_gd g _ _ him (Dq_ex (Dq_ex hv1 e2) e3)) k) fun H0 h0 e0 => Ex.mut (e0.trans ee) h0
theorem q_dput {p : Addr} {es : List (Key × V)} {L : List (Int × PyData)} {k : Int} (hv : ED K tv σ H d) (h : Ev td σ H (.ref p)) (hk : ED K tk σ H (.int k)) (hp : H p = some (.dK es)) (hE : DkE K H es L) (hI : immD L) (him : imm d = true) (hz : L.length < 100000)
    (kk : ∀ H2 es', H2 p = some (.dK es') → DkE K H2 es' (putD L k d) → (∀ H0, H0 p = none → Ex H0 H → Ex H0 H2) → tz D σ H2) : tSeq (sDPut td tk tv) tz D σ H := s_dput (D := { D with nx := tz D }) hv h hk hp hE hI him hz kk
end My

namespace My
open PySem PySem.Spec PyProof.Rows L2 Evl
variable {K : PySem.W.Frag} {H : Hp}
/-- powers times a sign, as a dict's data -/
def eL (s : Int) (L : List (Nat × Nat)) : List (Int × PyData) := L.map fun x => ((x.1 : Int), PyData.int (s * x.2))
def sI (s : Int) (L : List (Nat × Nat)) : List (Int × Int) := L.map fun x => ((x.1 : Int), s * x.2)
theorem dk_ints {s : Int} : ∀ {es : List (Key × V)} {L : List (Nat × Nat)}, DkE K H es (eL s L) → es = entI (sI s L)
  | _, [], h => by cases h; rfl
  | _, x :: L, h => by
    cases h with
    | cons a t =>
      cases a
      rw [dk_ints t]
      rfl
theorem imm_eL (s : Int) (L : List (Nat × Nat)) : immD (eL s L) := fun x hx => by
  obtain ⟨y, _, rfl⟩ := List.mem_map.mp hx
  rfl
theorem look_eL_none {s : Int} {k : Nat} : ∀ {L : List (Nat × Nat)}, (∀ x ∈ L, x.1 ≠ k) → lookD (eL s L) (k : Int) = none
  | [], _ => rfl
  | x :: L, h => by
    have ne : ¬ (x.1 : Int) = (k : Int) := fun e => h x List.mem_cons_self (Int.ofNat.inj e)
    have ih := look_eL_none (s := s) (L := L) fun y hy => h y (List.mem_cons_of_mem _ hy)
    simp only [lookD, eL, List.map_cons, List.find?_cons, ne, decide_false] at ih ⊢
    exact ih
theorem put_eL_new {s : Int} {k : Nat} {d : PyData} {L : List (Nat × Nat)} (h : ∀ x ∈ L, x.1 ≠ k) : putD (eL s L) (k : Int) d = eL s L ++ [((k : Int), d)] := by
  unfold putD
  rw [if_neg]
  intro e
  obtain ⟨y, hy, hk⟩ := List.any_eq_true.mp e
  obtain ⟨x, hx, rfl⟩ := List.mem_map.mp hy
  exact h x hx (Int.ofNat.inj (of_decide_eq_true hk))
theorem look_snoc {s : Int} {k m : Nat} {L : List (Nat × Nat)} (h : ∀ x ∈ L, x.1 ≠ k) : lookD (eL s (L ++ [(k, m)])) (k : Int) = some (.int (s * m)) := by
  have h2 := look_eL_none (s := s) h
  unfold lookD at h2
  have h3 : (eL s L).find? (fun x => decide (x.1 = (k : Int))) = none := by
    cases q : (eL s L).find? (fun x => decide (x.1 = (k : Int))) with
    | none => rfl
    | some y => rw [q] at h2; cases h2
  unfold lookD eL at *
  rw [List.map_append, List.find?_append, h3]
  simp
theorem put_snoc {s : Int} {k m : Nat} {d : PyData} {L : List (Nat × Nat)} (h : ∀ x ∈ L, x.1 ≠ k) : putD (eL s (L ++ [(k, m)])) (k : Int) d = eL s L ++ [((k : Int), d)] := by
  unfold putD
  rw [if_pos]
  · unfold eL
    rw [List.map_append, List.map_append]
    congr 1
    · rw [List.map_map]
      apply List.map_congr_left
      intro x hx
      have ne : ¬ (x.1 : Int) = (k : Int) := fun e => h x hx (Int.ofNat.inj e)
      show (if (x.1 : Int) = (k : Int) then _ else _) = _
      rw [if_neg ne]
    · simp
  · unfold eL
    rw [List.map_append, List.any_append]
    simp
theorem eL_app (s : Int) (A B : List (Nat × Nat)) : eL s (A ++ B) = eL s A ++ eL s B := List.map_append
/-- found[k] = found.get(k, 0) + s -/
theorem eL_step {s : Int} {k m : Nat} {L : List (Nat × Nat)} (h : ∀ x ∈ L, x.1 ≠ k) : (lookD (eL s (Lm L k m)) (k : Int)).getD (.int 0) = .int (s * m) ∧ putD (eL s (Lm L k m)) (k : Int) (.int (s * m + s)) = eL s (Lm L k (m + 1)) := by
  have e1 : s * ((m : Nat) : Int) + s = s * ((m + 1 : Nat) : Int) := by rw [Int.natCast_succ, Int.mul_add, Int.mul_one]
  have e2 : eL s (Lm L k (m + 1)) = eL s L ++ [((k : Int), PyData.int (s * ((m + 1 : Nat) : Int)))] := by
    unfold Lm
    rw [if_neg (by omega), eL_app]
    rfl
  rw [e2, e1]
  unfold Lm
  by_cases m0 : m = 0
  · subst m0
    rw [if_pos rfl, look_eL_none h]
    refine ⟨?_, put_eL_new h⟩
    show PyData.int 0 = _
    rw [show s * ((0 : Nat) : Int) = 0 from Int.mul_zero s]
  · rw [if_neg m0, look_snoc h]
    exact ⟨rfl, put_snoc h⟩
theorem Lm_len (L : List (Nat × Nat)) (k m : Nat) : (Lm L k m).length ≤ L.length + 1 := by
  unfold Lm
  split
  · omega
  · rw [List.length_append]; exact Nat.le_refl _
theorem len_eL (s : Int) (L : List (Nat × Nat)) : (eL s L).length = L.length := List.length_map _
theorem len_prod : ∀ {L : List (Nat × Nat)}, (∀ x ∈ L, Pr x.1 ∧ 1 ≤ x.2) → L.length ≤ prodL L
  | [], _ => Nat.zero_le _
  | x :: r, h => by
    have ih := len_prod (L := r) fun y hy => h y (List.mem_cons_of_mem _ hy)
    have p1 := prodL_pos (L := r) fun y hy => by have := (h y (List.mem_cons_of_mem _ hy)).1.1; omega
    have hx := h x List.mem_cons_self
    have h2 : 2 ≤ x.1 ^ x.2 := by
      have a : x.1 ^ 1 ≤ x.1 ^ x.2 := Nat.pow_le_pow_right (by have := hx.1.1; omega) hx.2
      rw [Nat.pow_one] at a
      have := hx.1.1
      omega
    have : 2 * prodL r ≤ x.1 ^ x.2 * prodL r := Nat.mul_le_mul_right _ h2
    show r.length + 1 ≤ x.1 ^ x.2 * prodL r
    omega
theorem PInv.short {n k w : Nat} {L : List (Nat × Nat)} (h : PInv n k w L) : L.length ≤ n := by
  refine Nat.le_trans (len_prod fun x hx => ⟨(h.pr x hx).1, (h.pr x hx).2.1⟩) ?_
  rw [← h.prod]
  exact Nat.le_mul_of_pos_right _ h.w1
def spPrimesOf (K : PySem.W.Frag) : Sp := fun vs H Q _ => ∃ n : Nat, vs = [.int n] ∧ 1 ≤ n ∧ n ≤ 9999 ∧ ∀ p H', H p = none → Ex H H' → H' p = some (.dK (entI (sI 1 (fac n)))) → Q (.ref p) H'
theorem len_spPrimesOf {vs : List V} {Q : VK} {E : XK} (h : spPrimesOf K vs H Q E) : vs.length = 1 := by
  obtain ⟨n, rfl, _⟩ := h
  rfl
def spLawPrimes (K : PySem.W.Frag) : Sp := fun vs H Q _ => ∃ (n : Nat) (s : Int), vs = [.int n, .int s] ∧ 1 ≤ n ∧ n ≤ 9999 ∧ ∀ p H', H p = none → Ex H H' → H' p = some (.dK (entI (sI s (fac n)))) → Q (.ref p) H'
theorem len_spLawPrimes {vs : List V} {Q : VK} {E : XK} (h : spLawPrimes K vs H Q E) : vs.length = 2 := by
  obtain ⟨n, s, rfl, _⟩ := h
  rfl
theorem mod_z (a b : Nat) : ((a : Int) % (b : Int) = 0) ↔ a % b = 0 := by omega
end My

namespace My
open PySem PySem.Spec PyProof.Rows L2 Evl
/-! ### tuples that were made here: plain ones, known to the object -/
def Pl (K : PySem.W.Frag) (H : Hp) (v : V) (d : PyData) : Prop := Dq K H v d ∧ ∃ ds, d = .tuple ds
theorem Pl.dp {K : PySem.W.Frag} {H : Hp} {v : V} {d : PyData} (h : Pl K H v d) : Dq K H v d := h.1
theorem Dq.pl {K : PySem.W.Frag} {H : Hp} {v : V} {ds : List PyData} (h : Dq K H v (.tuple ds)) : Pl K H v (.tuple ds) := ⟨h, ds, rfl⟩
theorem Pl.ex {K : PySem.W.Frag} {H H' : Hp} {v : V} {d : PyData} (h : Pl K H v d) (e : Ex H H') : Pl K H' v d := ⟨Dq_ex h.1 e, h.2⟩
theorem Pl.gd {K : PySem.W.Frag} {p : Addr} {H H' : Hp} {v : V} {d : PyData} (h : Pl K H v d) (g : Gd p H H') (hi : imm d = true) : Pl K H' v d := ⟨dp_gd g _ _ hi h.1, h.2⟩
theorem Pl.go {K : PySem.W.Frag} {p : Addr} {H H' : Hp} {ys : List V} {v : V} {d : PyData} (h : Pl K H v d) (g : Go p H H') (hp : H p = some (.lst ys)) (hi : imm d = true) : Pl K H' v d := ⟨Dq_go h.1 g hp hi, h.2⟩
section
variable {X : Cx} {es : List Expr} {t : TA} {pos : Pos} {K : PySem.W.Frag}
theorem plt_at {pins : List (Addr × Obj)} {σ : L2.St} {H : Hp} {s : Shared} (I : Inv X pins σ H s) {a : Addr} {xs : List V} (h : PlT X.K H a xs) :
    ∃ (o : Obj) (its : List Value) (n : Nat), s.heap.get? a = some o ∧ o.cls = .type "tuple" ∧ o.dict = none ∧ o.data = .seq its.toArray n ∧ Vals xs its ∧ xs.length ≤ sizeLine := by
  rcases h with ⟨o, ha, hod⟩ | ⟨o, its, n, hk, hc, hs, hz, r, hod⟩
  · obtain ⟨ho, hz, its, rv, ot, hot, hct, n, hdt⟩ := I.hok a _ ha
    rw [ho] at hot
    cases hot
    exact ⟨_, its, n, ho, hct, hod, hdt, rv, hz⟩
  · refine ⟨o, its.toList, n, I.kIn a o hk, hc, hod, by simpa using hs, r, ?_⟩
    have e := r.length
    simp only [Array.length_toList] at e
    omega
/-- dict(t), t a plain tuple of pairs -/
def rDictT (K : PySem.W.Frag) : List V → Hp → VK → Prop := fun xs H Q => ∃ (a : Addr) (ps : List Addr) (kvs : List (Key × V)), xs = [.ref a] ∧ PlT K H a (ps.map V.ref) ∧
  Paired (fun p kv => SqT K H p [kV kv.1, kv.2]) ps kvs ∧ ∀ p, H p = none → Q (.ref p) (upd H p (.dK (mergeK [] kvs)))
theorem pairs2 {pins : List (Addr × Obj)} {σ : L2.St} {H : Hp} {s : Shared} (I : Inv X pins σ H s) : ∀ {ps : List Addr} {kvs : List (Key × V)}, Paired (fun p kv => SqT X.K H p [kV kv.1, kv.2]) ps kvs →
    ∃ (prs : List (Key × Value)) (vps : List (Value × Value)), KV kvs prs ∧ prs.length = ps.length ∧ vps.length = ps.length ∧ ∀ (j : Nat) (k v : Value), vps[j]? = some (k, v) → ∃ b q, ps[j]? = some b ∧ prs[j]? = some (q, v) ∧ s.heap.IsTuple b #[k, v] ∧ keyIs q k = true
  | _, _, .nil => ⟨[], [], .nil, rfl, rfl, fun j k v e => by simp at e⟩
  | _, _, .cons (a := p) (b := kv) h t => by
    obtain ⟨prs, vps, r, l1, l2, hp⟩ := pairs2 I t
    obtain ⟨its, rv, ht, _⟩ := I.tuple h
    obtain ⟨u, y, rfl, ru, ry⟩ := vals2 rv
    refine ⟨(kv.1, y) :: prs, (u, y) :: vps, .cons ⟨rfl, ry⟩ r, congrArg Nat.succ l1, congrArg Nat.succ l2, fun j k v e => ?_⟩
    cases j with
    | zero =>
      cases e
      exact ⟨p, kv.1, rfl, rfl, ht, kV_is (P := X.prog) (w := X.w) ru⟩
    | succ j => exact hp j k v e
theorem call_dictT (hK : X.K = K) (hc : X.calm = true) : CallR X (.type "dict") (rDictT K) := by
  subst hK
  intro pins s σ H xs us Q I r q
  obtain ⟨a, ps, kvs, rfl, ha, hp, q⟩ := q
  obtain ⟨u, rfl, rx⟩ := vals1 r
  cases rx
  obtain ⟨o, its, n, ho, hct, hod, hdt, rv, hz⟩ := plt_at I ha
  have ei := refs_at rv
  subst ei
  rw [List.length_map] at hz
  obtain ⟨prs, vps, rel, l1, l2, hpr⟩ := pairs2 I hp
  have P := PairArg.tuple (prog := X.prog) (w := X.w) a (ps.map Value.ref).toArray (fun j => ps.getD j 0) vps
  refine PySem.call_dict_pairs (knd := mixKind X.prog X.w) (kvs := prs) P (I.ok.hd hc) ⟨⟨o, n, ho, hct, hod, hdt⟩, by simp [l2], fun j k v e => ?_⟩ ⟨by omega, fun i k v e => ?_⟩ (by omega) fun h' tk hd' k => ?_
  · obtain ⟨b, q', e1, e2, e3, e4⟩ := hpr j k v e
    refine ⟨by simp [e1, List.getD], .inl ?_⟩
    have : ps.getD j 0 = b := by simp [List.getD, e1]
    show s.heap.IsTuple (ps.getD j 0) #[k, v]
    rw [this]
    exact e3
  · obtain ⟨b, q', e1, e2, e3, e4⟩ := hpr i k v e
    exact ⟨q', e2, e4⟩
  · have hm : (s.heap.objs.size == sysModules) = false := beq_eq_false_iff_ne.mpr (Nat.ne_of_gt I.big)
    have hlen : (mergeK [] kvs).length ≤ sizeLine := by
      have h1 := length_mergeK kvs []
      have h2 : kvs.length = prs.length := rel.length
      rw [List.length_nil] at h1
      omega
    have k' : ∀ b ob, s.heap.get? b = some ob → h'.get? b = some ob := fun b ob e => k b ob (by simp) e
    exact ⟨.ref s.heap.objs.size, upd H s.heap.objs.size (.dK (mergeK [] kvs)), I.laid (t' := tk) k' (Nat.le_refl _) ⟨hlen, hm, merged [] prs, KV.merge rel .nil, hd'⟩, rfl, q _ (I.hok.fresh (Nat.le_refl _))⟩
end
end My

namespace My
open PySem PySem.Spec PyProof.Rows L2 Evl
/-! ### numbers: powers of primes by ascending primes -/
abbrev Num := List (Nat × Rat)
def ePw (x : Nat × Rat) : PyData := .tuple [.int x.1, eF x.2]
def eN (n : Num) : PyData := .tuple (n.map ePw)
/-- the power at p -/
def ev : Num → Nat → Rat
  | [], _ => 0
  | x :: r, p => (if x.1 = p then x.2 else 0) + ev r p
theorem ev_app : ∀ (a b : Num) (p : Nat), ev (a ++ b) p = ev a p + ev b p
  | [], b, p => (Rat.zero_add _).symm
  | x :: a, b, p => by
    show _ + ev (a ++ b) p = _ + ev a p + ev b p
    rw [ev_app a b p, Rat.add_assoc]
def Asc (n : Num) : Prop := n.Pairwise fun a b => a.1 < b.1
theorem ev_none {p : Nat} : ∀ {n : Num}, (∀ x ∈ n, x.1 ≠ p) → ev n p = 0
  | [], _ => rfl
  | x :: r, h => by
    show (if x.1 = p then x.2 else 0) + ev r p = 0
    rw [if_neg (h x List.mem_cons_self), ev_none fun y hy => h y (List.mem_cons_of_mem _ hy), Rat.zero_add]
theorem ev_mem : ∀ {n : Num}, Asc n → ∀ {x : Nat × Rat}, x ∈ n → ev n x.1 = x.2
  | y :: r, h, x, hx => by
    have h' := List.pairwise_cons.mp h
    show (if y.1 = x.1 then y.2 else 0) + ev r x.1 = x.2
    rcases List.mem_cons.mp hx with rfl | hr
    · rw [if_pos rfl, ev_none fun z hz => Nat.ne_of_gt (h'.1 z hz), Rat.add_zero]
    · rw [if_neg (Nat.ne_of_lt (h'.1 x hr)), ev_mem h'.2 hr, Rat.zero_add]
theorem mem_of_ev : ∀ {n : Num} {p : Nat}, ev n p ≠ 0 → ∃ q, (p, q) ∈ n
  | [], p, h => absurd rfl h
  | y :: r, p, h => by
    by_cases e : y.1 = p
    · exact ⟨y.2, by rw [← e]; exact List.mem_cons_self⟩
    · have h2 : (if y.1 = p then y.2 else 0) + ev r p ≠ 0 := h
      rw [if_neg e, Rat.zero_add] at h2
      obtain ⟨q, hq⟩ := mem_of_ev h2
      exact ⟨q, List.mem_cons_of_mem _ hq⟩
theorem ev_or {n : Num} (h : Asc n) (p : Nat) : ev n p = 0 ∨ (p, ev n p) ∈ n := by
  by_cases e : ev n p = 0
  · exact .inl e
  · obtain ⟨q, hq⟩ := mem_of_ev e
    have := ev_mem h hq
    rw [this]
    exact .inr hq
/-- canonical: ascending, no power nought, primes of the program's width -/
structure NumOk (n : Num) : Prop where
  asc : Asc n
  pr : ∀ x ∈ n, Pr x.1 ∧ x.1 ≤ 9999 ∧ x.2 ≠ 0
structure Can (n : Num) : Prop where
  asc : Asc n
  w : ∀ x ∈ n, x.1 ≤ 9999 ∧ x.2 ≠ 0
theorem NumOk.can {n : Num} (h : NumOk n) : Can n := ⟨h.asc, fun x hx => (h.pr x hx).2⟩
theorem can_ext : ∀ {a b : Num}, Asc a → Asc b → (∀ x ∈ a, x.2 ≠ 0) → (∀ x ∈ b, x.2 ≠ 0) → (∀ p, ev a p = ev b p) → a = b
  | [], [], _, _, _, _, _ => rfl
  | [], y :: b, _, hb, _, nb, h => by
    have := h y.1
    rw [ev_mem hb List.mem_cons_self] at this
    exact absurd this.symm (nb y List.mem_cons_self)
  | x :: a, [], ha, _, na, _, h => by
    have := h x.1
    rw [ev_mem ha List.mem_cons_self] at this
    exact absurd this (na x List.mem_cons_self)
  | x :: a, y :: b, ha, hb, na, nb, h => by
    have ha' := List.pairwise_cons.mp ha
    have hb' := List.pairwise_cons.mp hb
    have e1 : x.1 = y.1 := by
      have h1 := h x.1
      rw [ev_mem ha List.mem_cons_self] at h1
      have h2 := h y.1
      rw [ev_mem hb List.mem_cons_self] at h2
      obtain ⟨q, m1⟩ := mem_of_ev (n := y :: b) (p := x.1) (by rw [← h1]; exact na x List.mem_cons_self)
      obtain ⟨q2, m2⟩ := mem_of_ev (n := x :: a) (p := y.1) (by rw [h2]; exact nb y List.mem_cons_self)
      rcases List.mem_cons.mp m1 with e | m1
      · have t := congrArg Prod.fst e
        exact t
      · rcases List.mem_cons.mp m2 with e | m2
        · have t := congrArg Prod.fst e
          exact t.symm
        · have l1 : y.1 < x.1 := hb'.1 (x.1, q) m1
          have l2 : x.1 < y.1 := ha'.1 (y.1, q2) m2
          omega
    have e2 : x.2 = y.2 := by
      have h1 := h x.1
      rw [ev_mem ha List.mem_cons_self, e1, ev_mem hb List.mem_cons_self] at h1
      exact h1
    have e : x = y := Prod.ext e1 e2
    subst e
    rw [can_ext ha'.2 hb'.2 (fun z hz => na z (List.mem_cons_of_mem _ hz)) (fun z hz => nb z (List.mem_cons_of_mem _ hz)) fun p => by
      have := h p
      have t : (if x.1 = p then x.2 else 0) + ev a p = (if x.1 = p then x.2 else 0) + ev b p := this
      grind]
/-- the canonical number of a function -/
def canE (e : Nat → Rat) : Num := (List.range 10000).filterMap fun p => if e p = 0 then none else some (p, e p)
theorem mem_canE {e : Nat → Rat} {x : Nat × Rat} : x ∈ canE e ↔ x.1 < 10000 ∧ e x.1 ≠ 0 ∧ x.2 = e x.1 := by
  unfold canE
  rw [List.mem_filterMap]
  constructor
  · rintro ⟨p, hp, h⟩
    by_cases z : e p = 0
    · rw [if_pos z] at h; cases h
    · rw [if_neg z] at h
      cases h
      exact ⟨List.mem_range.mp hp, z, rfl⟩
  · rintro ⟨h1, h2, h3⟩
    refine ⟨x.1, List.mem_range.mpr h1, ?_⟩
    rw [if_neg h2, ← h3]
theorem asc_canE (e : Nat → Rat) : Asc (canE e) := by
  unfold canE Asc
  refine List.Pairwise.filterMap (R := fun a b : Nat => a < b) _ (fun a b hab x hx y hy => ?_) List.pairwise_lt_range
  by_cases z : e a = 0
  · simp [z] at hx
  · by_cases z2 : e b = 0
    · simp [z2] at hy
    · simp [z] at hx
      simp [z2] at hy
      subst hx
      subst hy
      exact hab
theorem can_canE (e : Nat → Rat) : Can (canE e) := ⟨asc_canE e, fun x hx => by
  obtain ⟨h1, h2, h3⟩ := mem_canE.mp hx
  exact ⟨by omega, by rw [h3]; exact h2⟩⟩
theorem ev_canE {e : Nat → Rat} {p : Nat} (h : p < 10000) : ev (canE e) p = e p := by
  by_cases z : e p = 0
  · rw [z]
    refine ev_none fun x hx q => ?_
    obtain ⟨h1, h2, h3⟩ := mem_canE.mp hx
    rw [q] at h2
    exact h2 z
  · exact ev_mem (x := (p, e p)) (asc_canE e) (mem_canE.mpr ⟨h, z, rfl⟩)
theorem ev_big {n : Num} (h : Can n) {p : Nat} (hp : 10000 ≤ p) : ev n p = 0 := ev_none fun x hx e => by
  have := (h.w x hx).1
  omega
theorem can_eq {n : Num} {e : Nat → Rat} (h : Can n) (he : ∀ p, p < 10000 → ev n p = e p) : n = canE e :=
  can_ext h.asc (asc_canE e) (fun x hx => (h.w x hx).2) (fun x hx => ((can_canE e).w x hx).2) fun p => by
    by_cases hp : p < 10000
    · rw [ev_canE hp, he p hp]
    · rw [ev_big h (by omega), ev_big (can_canE e) (by omega)]
theorem ok_canE {e : Nat → Rat} (h : ∀ p, p < 10000 → e p ≠ 0 → Pr p) : NumOk (canE e) := ⟨asc_canE e, fun x hx => by
  obtain ⟨h1, h2, h3⟩ := mem_canE.mp hx
  exact ⟨h _ h1 h2, by omega, by rw [h3]; exact h2⟩⟩
theorem NumOk.ev_pr {n : Num} (h : NumOk n) {p : Nat} (hp : ev n p ≠ 0) : Pr p := by
  obtain ⟨q, hq⟩ := mem_of_ev hp
  exact (h.pr _ hq).1
theorem asc_len {n : Num} : ∀ {lo : Nat}, Asc n → (∀ x ∈ n, lo ≤ x.1 ∧ x.1 ≤ 9999) → n.length ≤ 10000 - lo := by
  induction n with
  | nil => intro lo _ _; exact Nat.zero_le _
  | cons x r ih =>
    intro lo ha h
    have ha' := List.pairwise_cons.mp ha
    have hx := h x List.mem_cons_self
    have := ih (lo := x.1 + 1) ha'.2 fun y hy => ⟨ha'.1 y hy, (h y (List.mem_cons_of_mem _ hy)).2⟩
    rw [List.length_cons]
    omega
theorem Can.len {n : Num} (h : Can n) : n.length ≤ 10000 := asc_len (lo := 0) h.asc fun x hx => ⟨Nat.zero_le _, (h.w x hx).1⟩
theorem imm_ePw (x : Nat × Rat) : imm (ePw x) = true := rfl
theorem imm_eN (n : Num) : imm (eN n) = true := rfl
/-- all powers are small -/
def SmN (k : Nat) (n : Num) : Prop := ∀ x ∈ n, Sm k x.2
theorem sm_zero {k : Nat} (h : 1 ≤ k) : Sm k 0 := by
  have : 2 ^ 1 ≤ 2 ^ k := Nat.pow_le_pow_right (by decide) h
  exact ⟨by show 0 < _; omega, by show 1 < _; omega⟩
theorem SmN.mono {k m : Nat} {n : Num} (h : SmN k n) (hk : k ≤ m) : SmN m n := fun x hx => (h x hx).mono hk
theorem SmN.ev {k : Nat} {n : Num} (h : SmN k n) (ha : Asc n) (hk : 1 ≤ k) (p : Nat) : Sm k (ev n p) := by
  rcases ev_or ha p with e | e
  · rw [e]; exact sm_zero hk
  · exact h _ e
theorem SmN.canE {k : Nat} {e : Nat → Rat} (h : ∀ p, Sm k (e p)) : SmN k (canE e) := fun x hx => by
  rw [(mem_canE.mp hx).2.2]
  exact h _
/-! ### dicts that tell powers -/
structure IsD (L : List (Int × PyData)) (e : Nat → Rat) : Prop where
  nd : (L.map (·.1)).Nodup
  w : ∀ k : Int, k ∈ L.map (·.1) → ∃ p : Nat, p ≤ 9999 ∧ k = (p : Int)
  val : ∀ p : Nat, lookD L p = some (eF (e p)) ∨ lookD L p = none ∧ e p = 0
theorem lookD_mem {L : List (Int × PyData)} {k : Int} : lookD L k = none ↔ k ∉ L.map (·.1) := by
  unfold lookD
  rw [Option.map_eq_none_iff, List.find?_eq_none]
  constructor
  · intro h hm
    obtain ⟨x, hx, e⟩ := List.mem_map.mp hm
    exact h x hx (decide_eq_true e)
  · intro h x hx e
    exact h (List.mem_map.mpr ⟨x, hx, of_decide_eq_true e⟩)
theorem nodup_bounded : ∀ {m : Nat} {L : List Int}, L.Nodup → (∀ k ∈ L, ∃ p : Nat, p < m ∧ k = p) → L.length ≤ m := by
  intro m
  induction m with
  | zero =>
    intro L _ h
    cases L with
    | nil => exact Nat.le_refl _
    | cons k r => obtain ⟨p, hp, _⟩ := h k List.mem_cons_self; omega
  | succ m ih =>
    intro L nd h
    have h2 := ih (L := L.filter fun k => decide (k ≠ (m : Int))) (nd.filter _) fun k hk => by
      obtain ⟨h1, h2⟩ := List.mem_filter.mp hk
      obtain ⟨p, hp, rfl⟩ := h k h1
      have := of_decide_eq_true h2
      exact ⟨p, by omega, rfl⟩
    have h3 : L.length ≤ (L.filter fun k => decide (k ≠ (m : Int))).length + 1 := by
      clear ih h h2
      induction L with
      | nil => exact Nat.zero_le _
      | cons k r ih =>
        have nd' := List.nodup_cons.mp nd
        by_cases e : k = (m : Int)
        · have : r.filter (fun k => decide (k ≠ (m : Int))) = r := List.filter_eq_self.mpr fun j hj => decide_eq_true fun q => nd'.1 (by rw [e, ← q]; exact hj)
          rw [List.filter_cons, if_neg (by simp [e]), this]
          exact Nat.le_refl _
        · rw [List.filter_cons, if_pos (by simp [e])]
          exact Nat.succ_le_succ (ih nd'.2)
    omega
theorem IsD.len {L : List (Int × PyData)} {e : Nat → Rat} (h : IsD L e) : L.length ≤ 10000 := by
  rw [← List.length_map (f := fun x : Int × PyData => x.1)]
  exact nodup_bounded h.nd fun k hk => by
    obtain ⟨p, hp, r⟩ := h.w k hk
    exact ⟨p, by omega, r⟩
theorem IsD.imm {L : List (Int × PyData)} {e : Nat → Rat} (h : IsD L e) : immD L := fun x hx => by
  obtain ⟨p, hp, r⟩ := h.w x.1 (List.mem_map.mpr ⟨x, hx, rfl⟩)
  have : lookD L x.1 = some x.2 := by
    have nd := h.nd
    clear h r
    unfold lookD
    induction L with
    | nil => cases hx
    | cons y L ih =>
      have nd' := List.nodup_cons.mp nd
      rw [List.find?_cons]
      rcases List.mem_cons.mp hx with rfl | hr
      · simp
      · have : ¬ y.1 = x.1 := fun q => nd'.1 (List.mem_map.mpr ⟨x, hr, q.symm⟩)
        simp only [this, decide_false]
        exact ih hr nd'.2
  rcases h.val p with v | ⟨v, _⟩
  · rw [← r, this] at v
    rw [Option.some.inj v]
    rfl
  · rw [← r, this] at v
    cases v
theorem IsD.nil : IsD [] fun _ => 0 := ⟨.nil, fun k h => (by cases h), fun p => .inr ⟨rfl, rfl⟩⟩
theorem IsD.put {L : List (Int × PyData)} {e e' : Nat → Rat} {p : Nat} {q : Rat} (h : IsD L e) (hp : p ≤ 9999) (h1 : e' p = q) (h2 : ∀ r, r ≠ p → e' r = e r) : IsD (putD L p (eF q)) e' := by
  refine ⟨?_, fun k hk => ?_, fun r => ?_⟩
  · rw [keys_put]
    split
    · exact h.nd
    · rename_i hn
      refine List.nodup_append.mpr ⟨h.nd, by simp, fun a ha b hb => ?_⟩
      rw [List.mem_singleton.mp hb]
      rintro rfl
      exact hn ha
  · rw [keys_put] at hk
    split at hk
    · exact h.w k hk
    · rcases List.mem_append.mp hk with hk | hk
      · exact h.w k hk
      · exact ⟨p, hp, List.mem_singleton.mp hk⟩
  · rw [look_put]
    by_cases e1 : r = p
    · subst e1
      rw [if_pos rfl, h1]
      exact .inl rfl
    · rw [if_neg (by omega), h2 r e1]
      exact h.val r
theorem IsD.getD {L : List (Int × PyData)} {e : Nat → Rat} (h : IsD L e) (p : Nat) : (lookD L p).getD (eF 0) = eF (e p) := by
  rcases h.val p with v | ⟨v, z⟩
  · rw [v]; rfl
  · rw [v, z]; rfl
theorem IsD.get {L : List (Int × PyData)} {e : Nat → Rat} (h : IsD L e) {p : Nat} (hp : (p : Int) ∈ L.map (·.1)) : lookD L p = some (eF (e p)) := by
  rcases h.val p with v | ⟨v, z⟩
  · exact v
  · exact absurd hp (lookD_mem.mp v)
/-- what made tells of the keys in sequence -/
theorem made_eq {L : List (Int × PyData)} {e : Nat → Rat} (h : IsD L e) {ys : List Int} (hp : ys.Perm (L.map (·.1))) (hs : ys.Pairwise (· ≤ ·)) :
    ∃ ps : List Nat, ys = ps.map (fun p : Nat => (p : Int)) ∧ (ps.filter fun p => decide (e p ≠ 0)).map (fun p => (p, e p)) = canE e := by
  have hw : ∀ k ∈ ys, ∃ p : Nat, p ≤ 9999 ∧ k = p := fun k hk => h.w k (hp.mem_iff.mp hk)
  have hnd : ys.Nodup := hp.nodup_iff.mpr h.nd
  have ex : ∀ zs : List Int, (∀ k ∈ zs, ∃ p : Nat, p ≤ 9999 ∧ k = p) → ∃ ps : List Nat, zs = ps.map (fun p : Nat => (p : Int)) := by
    intro zs
    induction zs with
    | nil => exact fun _ => ⟨[], rfl⟩
    | cons z zs ih =>
      intro hz
      obtain ⟨ps, r⟩ := ih fun k hk => hz k (List.mem_cons_of_mem _ hk)
      obtain ⟨p, _, q⟩ := hz z List.mem_cons_self
      exact ⟨p :: ps, by rw [r, q]; rfl⟩
  obtain ⟨ps, rfl⟩ := ex ys hw
  refine ⟨ps, rfl, ?_⟩
  have asc : ps.Pairwise (· < ·) := by
    have h1 : ps.Pairwise (fun a b => a ≤ b) := (List.pairwise_map.mp hs).imp fun {a b} q => Int.ofNat_le.mp q
    have h2 : ps.Pairwise (· ≠ ·) := (List.pairwise_map.mp hnd).imp fun {a b} q r => q (by rw [r])
    exact (h1.and h2).imp fun {a b} q => by omega
  have ca : Can ((ps.filter fun p => decide (e p ≠ 0)).map fun p => (p, e p)) := by
    refine ⟨List.pairwise_map.mpr (asc.filter _), fun x hx => ?_⟩
    obtain ⟨p, hp2, rfl⟩ := List.mem_map.mp hx
    obtain ⟨h1, h2⟩ := List.mem_filter.mp hp2
    obtain ⟨r, hr, q⟩ := hw (p : Int) (List.mem_map.mpr ⟨p, h1, rfl⟩)
    exact ⟨by show p ≤ 9999; omega, of_decide_eq_true h2⟩
  refine can_eq ca fun p hp3 => ?_
  by_cases z : e p = 0
  · rw [z]
    refine ev_none fun x hx q => ?_
    obtain ⟨r, hr, rfl⟩ := List.mem_map.mp hx
    have := of_decide_eq_true (List.mem_filter.mp hr).2
    rw [show r = p from q] at this
    exact this z
  · refine ev_mem (x := (p, e p)) ca.asc (List.mem_map.mpr ⟨p, List.mem_filter.mpr ⟨?_, decide_eq_true z⟩, rfl⟩)
    rcases h.val p with v | ⟨v, z2⟩
    · have : (p : Int) ∈ L.map (·.1) := by
        by_cases m : (p : Int) ∈ L.map (·.1)
        · exact m
        · rw [lookD_mem.mpr m] at v; cases v
      obtain ⟨r, hr, q⟩ := List.mem_map.mp (hp.mem_iff.mpr this)
      have : r = p := Int.ofNat.inj q
      exact this ▸ hr
    · exact absurd z2 z
end My

namespace My
open PySem PySem.Spec PyProof.Rows L2 Evl
variable {K : PySem.W.Frag} {σ : L2.St} {H : Hp} {ta tb te tc tl td tk tv : TE} {tt : TT} {d e z : PyData} {vs : List Nat} {g : TG} {D : Ends} {tu tw tz : TS}
/-! ### loops over data that stay -/
theorem q_forX {α : Type} {enc : α → PyData} {xs : List α} {v : V} {H0 : Hp} (hv : Dq K H0 v (.tuple (xs.map enc))) (h : Ev tl σ H v) (Pv : Nat → L2.St → Hp → Prop) (hx : ∀ i σ' H', Pv i σ' H' → Ex H0 H') (h0 : ∀ H1, Ex H H1 → Pv 0 σ H1)
    (hs : ∀ i x σ' H', xs[i]? = some x → Pv i σ' H' → ∀ u, Dq K H' u (enc x) → g u σ' H' fun σ2 H2 => tu { D with nx := Pv (i + 1), ct := Pv (i + 1), bk := tz D } σ2 H2)
    (hd : ∀ σ' H', Pv xs.length σ' H' → tz D σ' H') : tSeq (tFor (iTup K tl) g tu) tz D σ H := by
  cases hv with
  | tup hq ha =>
    rename_i a vals
    have hl : vals.length = xs.length := by rw [dpa_len ha, List.length_map]
    refine q_forT h (ex_t (hx 0 σ H (h0 H (Ex.refl H))) hq.sq) Pv h0 (fun i σ' H' _ p => ex_t (hx i σ' H' p) hq.sq) (fun i x σ' H' hi p => ?_) (fun σ' H' p => hd σ' H' (hl ▸ p))
    obtain ⟨dd, h1, h2⟩ := dpa_get ha hi
    rw [List.getElem?_map] at h1
    cases hxi : xs[i]? with
    | none => rw [hxi] at h1; cases h1
    | some y =>
      rw [hxi] at h1
      cases h1
      exact hs i y σ' H' hxi p x (Dq_ex h2 (hx i σ' H' p))
theorem q_forXL {α : Type} {enc : α → PyData} {xs : List α} {v : V} {H0 : Hp} (hv : Dq K H0 v (.list (xs.map enc))) (h : Ev tl σ H v) (Pv : Nat → L2.St → Hp → Prop) (hx : ∀ i σ' H', Pv i σ' H' → Ex H0 H') (h0 : ∀ H1, Ex H H1 → Pv 0 σ H1)
    (hs : ∀ i x σ' H', xs[i]? = some x → Pv i σ' H' → ∀ u, Dq K H' u (enc x) → g u σ' H' fun σ2 H2 => tu { D with nx := Pv (i + 1), ct := Pv (i + 1), bk := tz D } σ2 H2)
    (hd : ∀ σ' H', Pv xs.length σ' H' → tz D σ' H') : tSeq (tFor (iList K tl) g tu) tz D σ H := by
  cases hv with
  | lst hq ha =>
    rename_i a vals
    have hl : vals.length = xs.length := by rw [dpa_len ha, List.length_map]
    refine q_forL h (ex_l (hx 0 σ H (h0 H (Ex.refl H))) hq.sq) Pv h0 (fun i σ' H' _ p => ex_l (hx i σ' H' p) hq.sq) (fun i x σ' H' hi p => ?_) (fun σ' H' p => hd σ' H' (hl ▸ p))
    obtain ⟨dd, h1, h2⟩ := dpa_get ha hi
    rw [List.getElem?_map] at h1
    cases hxi : xs[i]? with
    | none => rw [hxi] at h1; cases h1
    | some y =>
      rw [hxi] at h1
      cases h1
      exact hs i y σ' H' hxi p x (Dq_ex h2 (hx i σ' H' p))
/-! ### tuples that are known to be plain -/
def EP (K : PySem.W.Frag) (te : TE) (σ : L2.St) (H : Hp) (d : PyData) : Prop := ∀ H1, Ex H H1 → ∀ Q : VK, (∀ v H2, Ex H1 H2 → Pl K H2 v d → Q v H2) → te σ H1 Q
theorem EP.ed (h : EP K te σ H d) : ED K te σ H d := fun H1 e1 Q q => h H1 e1 Q fun v H2 e2 hv => q v H2 e2 hv.dp
theorem ep_var {i : Nat} {v : V} (h : σ[i]? = some (some v)) (hp : Pl K H v d) : EP K (tVar i) σ H d := fun H1 e Q q => ⟨v, h, q v H1 (Ex.refl H1) (hp.ex e)⟩
theorem ed_ep {ds : List PyData} (h : ED K te σ H (.tuple ds)) : EP K te σ H (.tuple ds) := fun H1 e1 Q q => h H1 e1 Q fun v H2 e2 hv => q v H2 e2 hv.pl
theorem ep_tup {ta : TA} {ds : List PyData} (h : EA K ta σ H ds) (hl : ds.length ≤ 100000) : EP K (tTupF ta) σ H (.tuple ds) := fun H1 e Q q =>
  h H1 e _ fun vs H2 e2 hv => ⟨sz_of (by rw [dpa_len hv]; exact hl), fun p o hp ho => q _ _ (e2.trans (Ex.new hp)) (Dq.pl (.tup (plt_new ho) (DqAll_ex hv (Ex.new hp))))⟩
theorem ep_tuple {ds : List PyData} (h : ED K te σ H (.list ds)) : EP K (tCB (rTupF K) (tCons te tNil)) σ H (.tuple ds) := fun H1 e Q q =>
  h H1 e _ fun v H2 e2 hv => by
    cases hv with
    | lst hs ha => exact ⟨_, _, rfl, hs.sq, fun p o hp ho => q _ _ (e2.trans (Ex.new hp)) (Dq.pl (.tup (plt_new ho) (DqAll_ex ha (Ex.new hp))))⟩
theorem rb_tuple {ds : List PyData} : RB K (rTupOf K) [.list ds] (.tuple ds) := fun H vs hv Q q => by
  cases hv with
  | cons h1 h2 =>
  cases h2
  cases h1 with
  | lst hs ha => exact ⟨_, _, rfl, hs.sq, fun p o hp ho => q _ _ (Ex.new hp) (.tup (plt_new ho) (DqAll_ex ha (Ex.new hp)))⟩
theorem rb_listT {ds : List PyData} : RB K (rFrz (rLstOf K)) [.tuple ds] (.list ds) := fun H vs hv Q q => by
  cases hv with
  | cons h1 h2 =>
  cases h2
  cases h1 with
  | tup hs ha => exact ⟨_, _, rfl, .inr hs.sq, fun p hp => frz_done (Ex.refl H) hp (Ex.new hp) upd_same (DqAll_ex ha (Ex.new hp)) q⟩
theorem rb_listL {ds : List PyData} : RB K (rFrz (rLstOf K)) [.list ds] (.list ds) := fun H vs hv Q q => by
  cases hv with
  | cons h1 h2 =>
  cases h2
  cases h1 with
  | lst hs ha => exact ⟨_, _, rfl, .inl hs.sq, fun p hp => frz_done (Ex.refl H) hp (Ex.new hp) upd_same (DqAll_ex ha (Ex.new hp)) q⟩
/-! ### dict(a number) -/
def dN (n : Num) : List (Int × PyData) := n.map fun x => ((x.1 : Int), eF x.2)
theorem dict_parts {n : Num} : ∀ {vals : List V}, DqAll K H vals (n.map ePw) → ∃ (ps : List Addr) (kvs : List (Key × V)), vals = ps.map V.ref ∧ Paired (fun p kv => SqT K H p [kV kv.1, kv.2]) ps kvs ∧ DkE K H kvs (dN n) := by
  induction n with
  | nil => intro vals h; cases h; exact ⟨[], [], rfl, .nil, .nil⟩
  | cons x n ih =>
    intro vals h
    cases h with
    | cons h1 h2 =>
      obtain ⟨ps, kvs, rfl, hp, hk⟩ := ih h2
      cases h1 with
      | tup hs ha =>
        cases ha with
        | cons a1 a2 =>
        cases a2 with
        | cons a3 a4 =>
        cases a4
        cases a1
        exact ⟨_ :: ps, (Sum.inl (x.1 : Int), _) :: kvs, rfl, .cons hs.sq hp, .cons a3 hk⟩
theorem fold_put_new {α : Type} {f : α → Int} {w : α → PyData} : ∀ {xs : List α} {L : List (Int × PyData)}, (xs.map f).Nodup → (∀ x ∈ xs, f x ∉ L.map (·.1)) → xs.foldl (fun M x => putD M (f x) (w x)) L = L ++ xs.map fun x => (f x, w x)
  | [], L, _, _ => by simp
  | x :: xs, L, hn, h => by
    rw [List.foldl_cons]
    have hx := h x List.mem_cons_self
    have e : putD L (f x) (w x) = L ++ [(f x, w x)] := by
      unfold putD
      rw [if_neg]
      intro q
      obtain ⟨y, hy, hk⟩ := List.any_eq_true.mp q
      exact hx (List.mem_map.mpr ⟨y, hy, of_decide_eq_true hk⟩)
    have hn' := List.nodup_cons.mp hn
    rw [e, fold_put_new hn'.2 (fun y hy q => ?_)]
    · simp
    · rw [List.map_append] at q
      rcases List.mem_append.mp q with q | q
      · exact h y (List.mem_cons_of_mem _ hy) q
      · have : f y = f x := List.mem_singleton.mp q
        exact hn'.1 (this ▸ List.mem_map.mpr ⟨y, hy, rfl⟩)
theorem merge_new : ∀ {kvs acc : List (Key × V)}, (kvs.map (·.1)).Nodup → (∀ x ∈ kvs, x.1 ∉ acc.map (·.1)) → mergeK acc kvs = acc ++ kvs
  | [], acc, _, _ => by rw [List.append_nil]; rfl
  | x :: kvs, acc, hn, h => by
    have hx := h x List.mem_cons_self
    have e : putK acc x.1 x.2 = acc ++ [x] := by
      unfold putK
      rw [if_neg]
      intro q
      obtain ⟨y, hy, hk⟩ := List.any_eq_true.mp q
      exact hx (List.mem_map.mpr ⟨y, hy, of_decide_eq_true hk⟩)
    have hn' := List.nodup_cons.mp hn
    show mergeK (putK acc x.1 x.2) kvs = _
    rw [e, merge_new hn'.2 (fun y hy q => ?_)]
    · simp
    · rw [List.map_append] at q
      rcases List.mem_append.mp q with q | q
      · exact h y (List.mem_cons_of_mem _ hy) q
      · have : y.1 = x.1 := List.mem_singleton.mp q
        exact hn'.1 (List.mem_map.mpr ⟨y, hy, this⟩)
theorem dN_keys (n : Num) : (dN n).map (·.1) = n.map fun x => (x.1 : Int) := by
  unfold dN
  rw [List.map_map]
  rfl
theorem dN_nodup {n : Num} (h : Asc n) : ((dN n).map (·.1)).Nodup := by
  rw [dN_keys]
  exact List.pairwise_map.mpr (h.imp fun {a b} q r => by have : a.1 = b.1 := Int.ofNat.inj r; omega)
theorem dk_merge {n : Num} {kvs : List (Key × V)} (h : Asc n) (hk : DkE K H kvs (dN n)) : mergeK [] kvs = kvs := by
  rw [merge_new, List.nil_append]
  · rw [hk.keys]
    exact List.pairwise_map.mpr ((dN_nodup h).imp fun {a b} q r => q (Sum.inl.inj r))
  · intro x _ q
    cases q
theorem isD_dN {n : Num} (h : Can n) : IsD (dN n) (ev n) := by
  refine ⟨dN_nodup h.asc, fun k hk => ?_, fun p => ?_⟩
  · rw [dN_keys] at hk
    obtain ⟨x, hx, rfl⟩ := List.mem_map.mp hk
    exact ⟨x.1, (h.w x hx).1, rfl⟩
  · have look : ∀ {m : Num}, Asc m → ∀ {p q}, (p, q) ∈ m → lookD (dN m) ((p : Nat) : Int) = some (eF q) := by
      intro m
      induction m with
      | nil => intro _ p q hq; cases hq
      | cons x m ih =>
        intro ha p q hq
        have ha' := List.pairwise_cons.mp ha
        rcases List.mem_cons.mp hq with e | hq
        · subst e
          simp [lookD, dN]
        · have l1 : x.1 < p := ha'.1 (p, q) hq
          have ne : ¬ ((x.1 : Nat) : Int) = (p : Int) := by omega
          have := ih ha'.2 hq
          simp only [lookD, dN, List.map_cons, List.find?_cons, ne, decide_false] at this ⊢
          exact this
    by_cases z : ev n p = 0
    · by_cases m : lookD (dN n) (p : Int) = none
      · exact .inr ⟨m, z⟩
      · exfalso
        have hk : ((p : Nat) : Int) ∈ (dN n).map (·.1) := by
          by_cases q : ((p : Nat) : Int) ∈ (dN n).map (·.1)
          · exact q
          · exact absurd (lookD_mem.mpr q) m
        rw [dN_keys] at hk
        obtain ⟨x, hx, e⟩ := List.mem_map.mp hk
        have e : x.1 = p := Int.ofNat.inj e
        have := ev_mem h.asc hx
        rw [e, z] at this
        exact (h.w x hx).2 this.symm
    · rcases ev_or h.asc p with q | q
      · exact absurd q z
      · exact .inl (look h.asc q)
/-- what a new dict is -/
def ND (K : PySem.W.Frag) (te : TE) (σ : L2.St) (H : Hp) (R : List (Int × PyData) → Prop) : Prop := ∀ H1, Ex H H1 → ∀ Q : VK, (∀ p H2 es L, H1 p = none → Ex H1 H2 → H2 p = some (.dK es) → DkE K H2 es L → R L → Q (.ref p) H2) → te σ H1 Q
theorem nd_dictP {n : Num} (ha : Asc n) (h : ED K te σ H (.list (n.map ePw))) : ND K (tCB (fun xs H Q => ∃ (a : Addr) (ps : List Addr) (kvs : List (Key × V)), xs = [.ref a] ∧ SqL K H a (ps.map V.ref) ∧ Paired (fun p kv => SqT K H p [kV kv.1, kv.2]) ps kvs ∧
    ∀ p, H p = none → Q (.ref p) (upd H p (.dK (mergeK [] kvs)))) (tCons te tNil)) σ H (fun L => L = dN n) := fun H1 e1 Q q =>
  h H1 e1 _ fun v H2 e2 hv => by
    cases hv with
    | lst hs hd =>
      obtain ⟨ps, kvs, rfl, hp, hk⟩ := dict_parts hd
      refine ⟨_, ps, kvs, rfl, hs.sq, hp, fun p hp => ?_⟩
      rw [dk_merge ha hk]
      exact q p _ kvs _ (none_of_ex e2 hp) (e2.trans (Ex.new hp)) upd_same (hk.ex (Ex.new hp)) rfl
theorem nd_dictT {n : Num} (ha : Asc n) (h : EP K te σ H (eN n)) : ND K (tCB (rDictT K) (tCons te tNil)) σ H (fun L => L = dN n) := fun H1 e1 Q q =>
  h H1 e1 _ fun v H2 e2 hv => by
    obtain ⟨hv, _⟩ := hv
    cases hv with
    | tup h1 h4 =>
      obtain ⟨ps, kvs, rfl, hp, hk⟩ := dict_parts h4
      refine ⟨_, ps, kvs, rfl, h1, hp, fun p hp => ?_⟩
      rw [dk_merge ha hk]
      exact q p _ kvs _ (none_of_ex e2 hp) (e2.trans (Ex.new hp)) upd_same (hk.ex (Ex.new hp)) rfl
theorem q_asgN {i : Nat} {R : List (Int × PyData) → Prop} (h : ND K te σ H R) (k : ∀ p H1 es L, H p = none → Ex H H1 → H1 p = some (.dK es) → DkE K H1 es L → R L → tz D (σ.set i (some (.ref p))) H1) : tSeq (tAsg te (gName i)) tz D σ H :=
  h H (Ex.refl H) _ fun p H2 es L h1 h2 h3 h4 h5 => k p H2 es L h1 h2 h3 h4 h5
end My

namespace My
open PySem PySem.Spec PyProof.Rows L2 Evl
variable {K : PySem.W.Frag} {σ : L2.St} {H : Hp} {ta tb te tc tl td tk tv : TE} {tt : TT} {d e z : PyData} {vs : List Nat} {g : TG} {D : Ends} {tu tw tz : TS}
/-- an expression that makes a dict of ints by ints -/
def EK (K : PySem.W.Frag) (td : TE) (σ : L2.St) (H : Hp) (L : List (Int × Int)) : Prop := ∀ H1, Ex H H1 → ∀ Q : VK, (∀ p H2, H1 p = none → Ex H1 H2 → H2 p = some (.dK (entI L)) → Q (.ref p) H2) → td σ H1 Q
theorem ent_at (L : List (Int × Int)) (i : Nat) : (entI L)[i]? = L[i]?.map fun x => (Sum.inl x.1, V.int x.2) := by
  unfold entI
  rw [List.getElem?_map]
theorem ent_len (L : List (Int × Int)) : (entI L).length = L.length := by
  unfold entI
  rw [List.length_map]
/-- {k: .. for k, v in d.items()} -/
theorem nd_dcIt {L : List (Int × Int)} {i j : Nat} {w : Int × Int → PyData} (h : EK K td σ H L) (hnd : (L.map (·.1)).Nodup) (hz : L.length ≤ 20000) (him : ∀ x ∈ L, imm (w x) = true)
    (hw : ∀ a b, wipe (((wipe σ vs).set i (some a)).set j (some b)) vs = wipe σ vs) (hk : ∀ a b, (((wipe σ vs).set i (some a)).set j (some b))[i]? = some (some a))
    (turn : ∀ x ∈ L, ∀ H1, Ex H H1 → ED K tv (((wipe σ vs).set i (some (.int x.1))).set j (some (.int x.2))) H1 (w x)) :
    ND K (tDc (iItems (tFrz td)) (gTup K 2 (gCons (gName i) (gCons (gName j) gNil))) tYes (tVar i) tv vs) σ H (fun M => M = L.map fun x => (x.1, w x)) := fun H1 e1 Q q =>
  h H1 e1 _ fun p H2 hp e2 h2 => by
    refine ⟨p, _, rfl, h2, True.intro, fun od => ⟨p, od, entI L, rfl, upd_same, fun Dl hD => ?_⟩⟩
    generalize hH3 : upd H2 p (.frz od (.dK (entI L))) = H3 at hD
    have h3p : H3 p = some (.frz od (.dK (entI L))) := by rw [← hH3]; exact upd_same
    have e3 : Ex H1 H3 := by rw [← hH3]; exact Ex.mut e2 hp
    have ne : Dl ≠ p := fun z => by rw [z, h3p] at hD; cases hD
    refine ⟨fun n m H' => m = L.length - n ∧ n ≤ L.length ∧ Ex H3 H' ∧ ∃ es, H' Dl = some (.dK es) ∧ DkE K H' es ((L.take n).map fun x => (x.1, w x)), ⟨_, rfl, Nat.zero_le _, Ex.new hD, [], upd_same, .nil⟩, ?_⟩
    rintro n m H' ⟨rfl, hn, e4, es, h4, hE⟩
    by_cases hlt : n < L.length
    · have hx : L[n]? = some (L[n]'hlt) := List.getElem?_eq_getElem hlt
      generalize L[n]'hlt = x at hx
      have hm : x ∈ L := List.mem_of_getElem? hx
      refine .inr ⟨⟨e4 _ _ h3p, by rw [ent_len]; exact hlt⟩, fun H5 => Ex H3 H5 ∧ ∃ es, H5 Dl = some (.dK es) ∧ DkE K H5 es ((L.take (n + 1)).map fun x => (x.1, w x)), fun H5 n5 => ⟨_, by omega, rfl, hlt, n5⟩, ?_⟩
      rintro v H5 ⟨T, k, u, hku, rfl, hT, rfl⟩
      rw [ent_at, hx] at hku
      cases hku
      have e5 : Ex H' (upd H' T (.tup [kV (Sum.inl x.1), V.int x.2])) := Ex.new hT
      refine ⟨T, _, rfl, st_of upd_same, rfl, _, _, rfl, _, _, rfl, rfl, hw _ _, ?_⟩
      simp only [tYes, if_true]
      refine ⟨_, hk _ _, ?_⟩
      refine turn x hm _ (((e1.trans e3).trans e4).trans e5) _ (Ex.refl _) _ fun y H6 e6 hy => ?_
      have h6 := e6 _ _ (e5 _ _ h4)
      have len := hE.len
      rw [List.length_map, List.length_take] at len
      refine ⟨es, Sum.inl x.1, rfl, h6, sz_lt (by omega), ?_, _, upd_same, ?_⟩
      · exact Ex.mut ((e4.trans e5).trans e6) hD
      · have gd := gd_upd (o := .dK (putK es (Sum.inl x.1) y)) h6
        have hI : immD ((L.take n).map fun x => (x.1, w x)) := fun y hy => by
          obtain ⟨z, hz, rfl⟩ := List.mem_map.mp hy
          exact him z (List.mem_of_mem_take hz)
        have key := (((hE.ex e5).ex e6).gd gd hI).put (dp_gd gd _ _ (him x hm) hy) x.1
        have ep : putD ((L.take n).map fun x => (x.1, w x)) x.1 (w x) = (L.take (n + 1)).map fun x => (x.1, w x) := by
          rw [List.take_succ, hx, List.map_append]
          unfold putD
          rw [if_neg]
          · rfl
          · intro z
            obtain ⟨y, hy, hq⟩ := List.any_eq_true.mp z
            obtain ⟨u, hu, rfl⟩ := List.mem_map.mp hy
            have hq : u.1 = x.1 := of_decide_eq_true hq
            obtain ⟨r, hr⟩ := List.mem_iff_getElem?.mp hu
            rw [List.getElem?_take] at hr
            split at hr
            · rename_i hrn
              have a1 : (L.map (·.1))[r]? = some u.1 := by rw [List.getElem?_map, hr]; rfl
              have a2 : (L.map (·.1))[n]? = some x.1 := by rw [List.getElem?_map, hx]; rfl
              rw [← hq] at a2
              obtain ⟨b1, b2⟩ := List.getElem?_eq_some_iff.mp a1
              obtain ⟨b3, b4⟩ := List.getElem?_eq_some_iff.mp a2
              have := (List.getElem_inj hnd).mp (b2.trans b4.symm)
              omega
            · cases hr
        rw [← ep]
        exact key
    · refine .inl ⟨⟨e4 _ _ h3p, by rw [ent_len]; omega⟩, ?_⟩
      rw [List.take_of_length_le (by omega)] at hE
      exact q Dl _ es _ (none_of_ex e3 hD) (e3.trans e4) h4 hE rfl
/-- for k, v in d.items(), the body puts into the dict at q alone -/
def del (q : Addr) (H : Hp) : Hp := fun a => if a = q then none else H a
theorem del_self {q : Addr} {H : Hp} : del q H q = none := if_pos rfl
theorem ex_del {q : Addr} {H : Hp} : Ex (del q H) H := fun a o h => by
  unfold del at h
  split at h
  · cases h
  · exact h
theorem q_forIt {L : List (Int × Int)} {i j : Nat} {q : Addr} {es0 : List (Key × V)} (h : EK K td σ H L) (hq : H q = some (.dK es0)) (Pv : Nat → L2.St → Hp → Prop) (h0 : ∀ H1, Ex H H1 → Pv 0 σ H1)
    (hs : ∀ n x σ' H', L[n]? = some x → Pv n σ' H' → Ex (del q H) H' → ∀ H2, Ex H' H2 → ∀ N : L2.St → Hp → Prop, (∀ σ3 H3, Pv (n + 1) σ3 H3 → (∀ H0, H0 q = none → Ex H0 H2 → Ex H0 H3) → N σ3 H3) →
      tu { D with nx := N, ct := N, bk := tz D } ((σ'.set i (some (.int x.1))).set j (some (.int x.2))) H2)
    (hd : ∀ σ' H', Pv L.length σ' H' → Ex (del q H) H' → tz D σ' H') : tSeq (tFor (iItems (tFrz td)) (gTup K 2 (gCons (gName i) (gCons (gName j) gNil))) tu) tz D σ H :=
  h H (Ex.refl H) _ fun p H2 hp e2 h2 => by
    refine ⟨p, _, rfl, h2, True.intro, fun od => ⟨p, od, entI L, rfl, upd_same, ?_⟩⟩
    generalize hH3 : upd H2 p (.frz od (.dK (entI L))) = H3
    have h3p : H3 p = some (.frz od (.dK (entI L))) := by rw [← hH3]; exact upd_same
    have e3 : Ex H H3 := by rw [← hH3]; exact Ex.mut e2 hp
    have ne : p ≠ q := fun z => by rw [z, hq] at hp; cases hp
    have dp : del q H3 p = some (.frz od (.dK (entI L))) := by
      unfold del
      rw [if_neg ne]
      exact h3p
    have e4 : Ex (del q H) (del q H3) := fun a o ho => by
      unfold del at ho ⊢
      split at ho
      · cases ho
      · rename_i na
        rw [if_neg na]
        exact e3 _ _ ho
    refine ⟨fun n m σ' H' => m = L.length - n ∧ n ≤ L.length ∧ Ex (del q H3) H' ∧ Pv n σ' H', ⟨_, rfl, Nat.zero_le _, ex_del, h0 _ e3⟩, ?_⟩
    rintro n m σ' H' ⟨rfl, hn, e5, hP⟩
    by_cases hlt : n < L.length
    · have hx : L[n]? = some (L[n]'hlt) := List.getElem?_eq_getElem hlt
      generalize L[n]'hlt = x at hx
      refine .inr ⟨⟨e5 _ _ dp, by rw [ent_len]; exact hlt⟩, fun σ6 H6 => Pv (n + 1) σ6 H6 ∧ Ex (del q H3) H6, fun σ6 H6 n6 => ⟨_, by omega, rfl, hlt, n6.2, n6.1⟩, ?_⟩
      rintro v H5 ⟨T, k, u, hku, rfl, hT, rfl⟩
      rw [ent_at, hx] at hku
      cases hku
      have e6 : Ex H' (upd H' T (.tup [kV (Sum.inl x.1), V.int x.2])) := Ex.new hT
      refine ⟨T, _, rfl, st_of upd_same, rfl, _, _, rfl, _, _, rfl, rfl, ?_⟩
      exact hs n x σ' H' hx hP (e4.trans e5) _ e6 _ fun σ3 H3 p3 k3 => ⟨p3, k3 _ del_self (e5.trans e6)⟩
    · refine .inl ⟨⟨e5 _ _ dp, by rw [ent_len]; omega⟩, ?_⟩
      have : n = L.length := by omega
      subst this
      exact hd _ _ hP (e4.trans e5)
end My

namespace My
open PySem PySem.Spec PyProof.Rows L2 Evl
variable {K : PySem.W.Frag} {H : Hp}
/-! ### numbers compared -/
theorem eqv_eF (p q : Rat) : PyData.eqv (eF p) (eF q) = decide (p = q) := by
  have e : PyData.eqv (eF p) (eF q) = ((p.num == q.num) && (((p.den : Int) == (q.den : Int)) && true)) := rfl
  rw [e, Bool.eq_iff_iff]
  simp only [Bool.and_true, Bool.and_eq_true, beq_iff_eq, decide_eq_true_eq]
  constructor
  · rintro ⟨h1, h2⟩
    exact Rat.ext h1 (Int.ofNat.inj h2)
  · rintro rfl
    exact ⟨rfl, rfl⟩
theorem eqv_ePw (x y : Nat × Rat) : PyData.eqv (ePw x) (ePw y) = decide (x = y) := by
  have e : PyData.eqv (ePw x) (ePw y) = (((x.1 : Int) == (y.1 : Int)) && (PyData.eqv (eF x.2) (eF y.2) && true)) := rfl
  rw [e, eqv_eF, Bool.eq_iff_iff]
  simp only [Bool.and_true, Bool.and_eq_true, beq_iff_eq, decide_eq_true_eq]
  constructor
  · rintro ⟨h1, h2⟩
    exact Prod.ext (Int.ofNat.inj h1) h2
  · rintro rfl
    exact ⟨rfl, rfl⟩
theorem eqv_eN (a b : Num) : PyData.eqv (eN a) (eN b) = decide (a = b) := by
  show PyData.eqvAll (a.map ePw) (b.map ePw) = _
  induction a generalizing b with
  | nil => cases b <;> rfl
  | cons x a ih =>
    cases b with
    | nil => rfl
    | cons y b =>
      show (PyData.eqv (ePw x) (ePw y) && PyData.eqvAll (a.map ePw) (b.map ePw)) = _
      rw [ih b, eqv_ePw, Bool.eq_iff_iff]
      simp
theorem shaped_map {α : Type} {f : α → PyData} (h1 : ∀ x, (f x).canLay0 = true) (h2 : ∀ x, (f x).depth ≤ 60) (xs : List α) : PyData.canLayAll0 (xs.map f) = true ∧ PyData.depthAll (xs.map f) ≤ 60 := by
  induction xs with
  | nil => exact ⟨rfl, Nat.zero_le _⟩
  | cons x xs ih =>
    refine ⟨?_, ?_⟩
    · show ((f x).canLay0 && PyData.canLayAll0 (xs.map f)) = true
      rw [h1, ih.1]; rfl
    · show max (f x).depth (PyData.depthAll (xs.map f)) ≤ 60
      have := h2 x
      have := ih.2
      omega
theorem shaped_tup {α : Type} {f : α → PyData} (h1 : ∀ x, (f x).canLay0 = true) (h2 : ∀ x, (f x).depth ≤ 60) (xs : List α) : SeqAt.shaped (.tuple (xs.map f)) = true := by
  obtain ⟨a, b⟩ := shaped_map h1 h2 xs
  show (PyData.canLayAll0 _ && decide (PyData.depthAll _ + 1 ≤ 64)) = true
  rw [a, decide_eq_true (by omega)]; rfl
theorem shaped_lst {α : Type} {f : α → PyData} (h1 : ∀ x, (f x).canLay0 = true) (h2 : ∀ x, (f x).depth ≤ 60) (xs : List α) : SeqAt.shaped (.list (xs.map f)) = true := by
  obtain ⟨a, b⟩ := shaped_map h1 h2 xs
  show (PyData.canLayAll0 _ && decide (PyData.depthAll _ + 1 ≤ 64)) = true
  rw [a, decide_eq_true (by omega)]; rfl
theorem shaped_eN (n : Num) : SeqAt.shaped (eN n) = true := shaped_tup (fun _ => rfl) (fun _ => by simp [ePw, eF, PyData.depth, PyData.depthAll]) n
/-! ### what defs over numbers tell -/
def nmul (a b : Num) : Num := canE fun p => ev a p + ev b p
def ndiv (a b : Num) : Num := canE fun p => ev a p - ev b p
def npow (a : Num) (q : Rat) : Num := canE fun p => ev a p * q
/-- the powers of a whole number, as a number -/
def nL (L : List (Nat × Nat)) : Num := L.map fun x => (x.1, ((x.2 : Nat) : Rat))
noncomputable def nfrac (t l : Nat) : Num := canE fun p => ev (nL (fac t)) p - ev (nL (fac l)) p
def rIsNum (ds : List PyData) (d : PyData) : Prop := ∃ n, ds = [eN n] ∧ NumOk n ∧ d = .bool true
def rCheck (ds : List PyData) (d : PyData) : Prop := ∃ n, ds = [eN n] ∧ NumOk n ∧ d = .none
def rNum2 (f : Num → Num → Num) (ds : List PyData) (d : PyData) : Prop := ∃ a b, ds = [eN a, eN b] ∧ Can a ∧ Can b ∧ SmN 1900 a ∧ SmN 1900 b ∧ d = eN (f a b)
def rTimes (ds : List PyData) (d : PyData) : Prop := ∃ a b, ds = [eN a, eN b] ∧ NumOk a ∧ NumOk b ∧ SmN 1900 a ∧ SmN 1900 b ∧ d = eN (nmul a b)
def rAsFrac (ds : List PyData) (d : PyData) : Prop := ∃ q, ds = [eF q] ∧ d = eF q
def rPowerOf (ds : List PyData) (d : PyData) : Prop := ∃ n q, ds = [eN n, eF q] ∧ Can n ∧ SmN 1900 n ∧ Sm 1900 q ∧ d = eN (npow n q)
def rRaised (ds : List PyData) (d : PyData) : Prop := ∃ n q, ds = [eN n, eF q] ∧ NumOk n ∧ SmN 1900 n ∧ Sm 1900 q ∧ d = eN (npow n q)
abbrev spIsNum (K : PySem.W.Frag) : Sp := spR K 1 rIsNum
abbrev spCheck (K : PySem.W.Frag) : Sp := spR K 1 rCheck
abbrev spMultiplied (K : PySem.W.Frag) : Sp := spR K 2 (rNum2 nmul)
abbrev spOver (K : PySem.W.Frag) : Sp := spR K 2 (rNum2 ndiv)
abbrev spTimes (K : PySem.W.Frag) : Sp := spR K 2 rTimes
abbrev spAsFrac (K : PySem.W.Frag) : Sp := spR K 1 rAsFrac
abbrev spPowerOf (K : PySem.W.Frag) : Sp := spR K 2 rPowerOf
abbrev spRaised (K : PySem.W.Frag) : Sp := spR K 2 rRaised
def spMade (K : PySem.W.Frag) : Sp := fun vs H Q _ => ∃ p es L e, vs = [.ref p] ∧ H p = some (.dK es) ∧ DkE K H es L ∧ IsD L e ∧ ∀ v H', Ex H H' → Pl K H' v (eN (canE e)) → Q v H'
theorem len_spMade {vs : List V} {Q : VK} {E : XK} (h : spMade K vs H Q E) : vs.length = 1 := by
  obtain ⟨p, es, L, e, rfl, _⟩ := h
  rfl
/-! the loop over the second number -/
theorem isD_step {L : List (Int × PyData)} {a b : Num} {i : Nat} {x : Nat × Rat} (hb : Can b) (hi : b[i]? = some x) (s : Rat) (h : IsD L fun p => ev a p + s * ev (b.take i) p) :
    ev (b.take i) x.1 = 0 ∧ IsD (putD L x.1 (eF (ev a x.1 + s * x.2))) fun p => ev a p + s * ev (b.take (i + 1)) p := by
  have e0 : ev (b.take i) x.1 = 0 := ev_none fun y hy => by
    obtain ⟨j, hj⟩ := List.mem_iff_getElem?.mp hy
    rw [List.getElem?_take] at hj
    split at hj
    · rename_i hlt
      obtain ⟨a1, a2⟩ := List.getElem?_eq_some_iff.mp hj
      obtain ⟨a3, a4⟩ := List.getElem?_eq_some_iff.mp hi
      have := List.pairwise_iff_getElem.mp hb.asc j i a1 a3 hlt
      rw [a2, a4] at this
      omega
    · cases hj
  have et : ∀ p, ev (b.take (i + 1)) p = ev (b.take i) p + (if x.1 = p then x.2 else 0) := fun p => by
    rw [List.take_succ, hi, ev_app]
    show _ + ((if x.1 = p then x.2 else 0) + 0) = _
    rw [Rat.add_zero]
  refine ⟨e0, h.put (hb.w x (List.mem_of_getElem? hi)).1 ?_ fun r hr => ?_⟩
  · rw [et, if_pos rfl, e0, Rat.zero_add]
  · rw [et, if_neg (fun z => hr z.symm), Rat.add_zero]
theorem dpa1 {vs : List V} {d : PyData} (h : DqAll K H vs [d]) : ∃ v, vs = [v] ∧ Dq K H v d := by
  cases h with
  | cons h1 h2 => cases h2; exact ⟨_, rfl, h1⟩
theorem dpa2 {vs : List V} {d e : PyData} (h : DqAll K H vs [d, e]) : ∃ v w, vs = [v, w] ∧ Dq K H v d ∧ Dq K H w e := by
  cases h with
  | cons h1 h2 =>
    cases h2 with
    | cons h3 h4 => cases h4; exact ⟨_, _, rfl, h1, h3⟩
theorem dpa3 {vs : List V} {d e f : PyData} (h : DqAll K H vs [d, e, f]) : ∃ v w u, vs = [v, w, u] ∧ Dq K H v d ∧ Dq K H w e ∧ Dq K H u f := by
  cases h with
  | cons h1 h2 =>
    cases h2 with
    | cons h3 h4 =>
      cases h4 with
      | cons h5 h6 => cases h6; exact ⟨_, _, _, rfl, h1, h3, h5⟩
variable {σ : L2.St} {te : TE} {D : Ends} {tz : TS} {d : PyData}
theorem q_dropD (h : ED K te σ H d) (k : ∀ H1, Ex H H1 → tz D σ H1) : tSeq (tDrop te) tz D σ H := h H (Ex.refl H) _ fun _ H1 e1 _ => k H1 e1
theorem outs_all {α : Type} (g : α → PyData) (xs : List α) : outsOf (fun _ => true) g xs = xs.map g := by
  unfold outsOf
  rw [List.filter_eq_self.mpr fun _ _ => rfl]
theorem all_true {α : Type} (xs : List α) : PyData.list (xs.map fun _ => PyData.bool true) = .list ((xs.map fun _ => true).map PyData.bool) := by
  rw [List.map_map]
  rfl
theorem all_true2 {α : Type} (xs : List α) : (xs.map fun _ => true).all id = true := by
  rw [List.all_map]
  exact List.all_eq_true.mpr fun _ _ => rfl
theorem shortN (n : Num) (h : n.length ≤ 30000) : tupShort (eN n) := fun ds e => by
  cases e
  rw [List.length_map]
  exact h
theorem short2 (a b : PyData) : tupShort (.tuple [a, b]) := fun ds e => by
  cases e
  show 2 ≤ 30000
  decide
theorem isFrac_eF (q : Rat) : isFracD (eF q) = true := by
  have h1 : (1 : Int) ≤ (q.den : Int) := by have := den_pos q; omega
  have h2 : Int.gcd q.num q.den = 1 := by
    have := q.reduced
    unfold Nat.Coprime at this
    simpa [Int.gcd] using this
  show (decide ((1 : Int) ≤ (q.den : Int)) && decide (Int.gcd q.num q.den = 1)) = true
  rw [decide_eq_true h1, decide_eq_true h2]
  rfl
theorem asc_keys {n : Num} (h : Asc n) : ascB (n.map fun x => (x.1 : Int)) = true := by
  unfold ascB
  rw [List.all_eq_true]
  induction n with
  | nil => intro b hb; simp at hb
  | cons x r ih =>
    have h' := List.pairwise_cons.mp h
    cases r with
    | nil => intro b hb; simp at hb
    | cons y r =>
      intro b hb
      have e : List.zipWith (fun a b : Int => decide (a < b)) ((x :: y :: r).map fun x => (x.1 : Int)) ((x :: y :: r).map fun x => (x.1 : Int)).tail = decide ((x.1 : Int) < (y.1 : Int)) :: List.zipWith (fun a b : Int => decide (a < b)) ((y :: r).map fun x => (x.1 : Int)) ((y :: r).map fun x => (x.1 : Int)).tail := rfl
      rw [e] at hb
      rcases List.mem_cons.mp hb with rfl | hb
      · have := h'.1 y List.mem_cons_self
        exact decide_eq_true (by omega)
      · exact ih h'.2 b hb
theorem isInt_ok {p : Nat} (h1 : 2 ≤ p) (h2 : p ≤ 9999) : isIntD 2 9999 (.int p) = true := by
  show (decide ((2 : Int) ≤ (p : Int)) && decide ((p : Int) ≤ 9999)) = true
  rw [decide_eq_true (by omega), decide_eq_true (by omega)]
  rfl
theorem zero_num {q : Rat} (h : q.num = 0) : q = 0 := by
  have := Rat.mkRat_self q
  rw [← this, h, Rat.zero_mkRat]
theorem num_ne {q : Rat} (h : q ≠ 0) : q.num ≠ 0 := fun z => h (zero_num z)
theorem num_z (q : Rat) : decide (q.num = 0) = decide (q = 0) := decide_eq_decide.mpr ⟨zero_num, fun z => by rw [z]; rfl⟩
end My

namespace My
open PySem PySem.Spec PyProof.Rows L2 Evl
variable {K : PySem.W.Frag} {H : Hp} {σ : L2.St} {ta te : TE} {tt : TT} {vs : List Nat}
/-! ### sorted(d), and tuple([.. for p in sorted(d) if ..]) -/
def keysS (L : List (Int × PyData)) : List Int := (L.map (·.1)).mergeSort
theorem keysS_perm (L : List (Int × PyData)) : (keysS L).Perm (L.map (·.1)) := List.mergeSort_perm _ _
theorem keysS_asc (L : List (Int × PyData)) : (keysS L).Pairwise (· ≤ ·) := by
  have := List.pairwise_mergeSort (le := fun a b : Int => decide (a ≤ b)) (fun a b c h1 h2 => decide_eq_true (Int.le_trans (of_decide_eq_true h1) (of_decide_eq_true h2))) (fun a b => by simp; omega) (L.map (·.1))
  exact this.imp fun h => of_decide_eq_true h
theorem ed_sortedD {p : Addr} {es : List (Key × V)} {L : List (Int × PyData)} (h : Ev ta σ H (.ref p)) (hp : H p = some (.dK es)) (hE : DkE K H es L) : ED K (tFrz (tCB rSortedK (tCons ta tNil))) σ H (.list ((keysS L).map PyData.int)) := fun H1 e1 Q q =>
  h H1 e1 _ fun H2 e2 => ⟨p, es, L.map (·.1), rfl, .inl ((e1.trans e2) p _ hp), hE.keys, fun ys a h1 h2 ha => by
    have : ys = keysS L := List.Perm.eq_of_pairwise (le := fun a b : Int => a ≤ b) (fun a b _ _ h3 h4 => Int.le_antisymm h3 h4) h2 (keysS_asc L) (h1.trans (keysS_perm L).symm)
    subst this
    exact frz_done e2 ha (Ex.new ha) upd_same (ints_dpa _) q⟩
theorem ep_made {p : Addr} {es : List (Key × V)} {L : List (Int × PyData)} {e : Nat → Rat} {i : Nat} (h : Ev ta σ H (.ref p)) (hp : H p = some (.dK es)) (hE : DkE K H es L) (hI : IsD L e)
    (turn : ∀ n : Nat, (n : Int) ∈ L.map (·.1) → Turns K (gName i) tt te vs σ H (fun n : Nat => PyData.int n) (fun n => decide (e n ≠ 0)) (fun n => ePw (n, e n)) n) :
    EP K (tCB (rTupF K) (tCons (tFrz (tLc (iList K (tFrz (tCB rSortedK (tCons ta tNil)))) (gName i) tt te vs)) tNil)) σ H (eN (canE e)) := by
  obtain ⟨ps, e1, e2⟩ := made_eq hI (keysS_perm L) (keysS_asc L)
  have hlen : ps.length ≤ 10000 := by
    have a := congrArg List.length e1
    have b := (keysS_perm L).length_eq
    have c := hI.len
    rw [List.length_map] at a b
    omega
  have hs : ED K (tFrz (tCB rSortedK (tCons ta tNil))) σ H (.list (ps.map fun n : Nat => PyData.int n)) := ed_is (ed_sortedD h hp hE) (by rw [e1, List.map_map]; rfl)
  have hl := el_list (K := K) (tg := gName i) (tt := tt) (te := te) (vs := vs) (fun n : Nat => PyData.int n) ps (fun n => decide (e n ≠ 0)) (fun n => ePw (n, e n)) hs (by omega) (fun _ _ => rfl) (fun n hn => turn n ?_)
  · have : outsOf (fun n => decide (e n ≠ 0)) (fun n => ePw (n, e n)) ps = (canE e).map ePw := by
      unfold outsOf
      rw [← e2, List.map_map]
      rfl
    rw [this] at hl
    exact ep_tuple hl
  · have : (n : Int) ∈ keysS L := by rw [e1]; exact List.mem_map.mpr ⟨n, hn, rfl⟩
    exact (keysS_perm L).mem_iff.mp this
theorem s_retP {D : Ends} {d : PyData} (h : EP K te σ H d) (k : ∀ v H1, Ex H H1 → Pl K H1 v d → D.rt v H1) : tRet te D σ H := h H (Ex.refl H) _ k
theorem pow_eq {n : Num} {q : Rat} (h : Can n) (hq : q ≠ 0) : (n.map fun x => (x.1, x.2 * q)) = npow n q := by
  have ev1 : ∀ p, ev (n.map fun x => (x.1, x.2 * q)) p = ev n p * q := by
    intro p
    clear h
    induction n with
    | nil => exact (Rat.zero_mul _).symm
    | cons x r ih =>
      show (if x.1 = p then x.2 * q else 0) + ev (r.map fun x => (x.1, x.2 * q)) p = ((if x.1 = p then x.2 else 0) + ev r p) * q
      rw [ih, Rat.add_mul]
      split
      · rfl
      · rw [Rat.zero_mul]
  refine can_eq ⟨List.pairwise_map.mpr h.asc, fun x hx => ?_⟩ fun p _ => ev1 p
  obtain ⟨y, hy, rfl⟩ := List.mem_map.mp hx
  refine ⟨(h.w y hy).1, fun z => ?_⟩
  rcases Rat.mul_eq_zero.mp z with z | z
  · exact (h.w y hy).2 z
  · exact hq z
theorem pow_zero {n : Num} : npow n 0 = [] := by
  unfold npow canE
  have : ∀ xs : List Nat, xs.filterMap (fun p => if ev n p * 0 = 0 then none else some (p, ev n p * 0)) = [] := by
    intro xs
    rw [List.filterMap_eq_nil_iff]
    intro p _
    rw [if_pos (Rat.mul_zero _)]
  exact this _
/-! ### the sign of a sum of logs: which of two products is greater -/
def bl (p : Nat) : Nat := Builtin.Int.intBits (p : Int)
theorem lt_bl (p : Nat) : p < 2 ^ bl p := natAbs_lt_pow_bits (p : Int)
theorem bl_le {p : Nat} (h : 1 ≤ p) : 2 ^ (bl p - 1) ≤ p := by
  unfold bl Builtin.Int.intBits
  have hb : ((p : Int) == 0) = false := by simp; omega
  rw [hb]
  simp only [Bool.false_eq_true, if_false, Int.natAbs_natCast]
  show 2 ^ (p.log2 + 1 - 1) ≤ p
  rw [Nat.add_sub_cancel]
  exact Nat.log2_self_le (by omega)
theorem bl_small {p : Nat} (h : p ≤ 9999) : bl p ≤ 14 := intBits_le (by show p < 2 ^ 14; omega)
theorem bl_pos {p : Nat} (h : 1 ≤ p) : 1 ≤ bl p := by
  have := lt_bl p
  by_cases z : bl p = 0
  · rw [z] at this; omega
  · omega
abbrev PW := List (Nat × Int)
def pI (x : Nat × Int) : PyData := .tuple [.int x.1, .int x.2]
def pN (x : Nat × Nat) : PyData := .tuple [.int x.1, .int x.2]
def upsOf (L : PW) : List (Nat × Nat) := (L.filter fun x => decide (0 < x.2)).map fun x => (x.1, x.2.toNat)
def downsOf (L : PW) : List (Nat × Nat) := (L.filter fun x => decide (x.2 < 0)).map fun x => (x.1, (-x.2).toNat)
def sgnN (a b : Nat) : Int := (if b < a then 1 else 0) - (if a < b then 1 else 0)
def sgnL (L : PW) : Int := sgnN (prodL (upsOf L)) (prodL (downsOf L))
def above (L : List (Nat × Nat)) : Nat := (L.map fun x => bl x.1 * x.2).sum
def below (L : List (Nat × Nat)) : Nat := (L.map fun x => (bl x.1 - 1) * x.2).sum
def bitsOf (L : PW) : Nat := (L.map fun x => bl x.1 * x.2.natAbs).sum
theorem prod_le {L : List (Nat × Nat)} : prodL L ≤ 2 ^ above L := by
  induction L with
  | nil => exact Nat.le_refl _
  | cons x r ih =>
    show x.1 ^ x.2 * prodL r ≤ 2 ^ (bl x.1 * x.2 + above r)
    rw [Nat.pow_add, Nat.pow_mul]
    exact Nat.mul_le_mul (Nat.pow_le_pow_left (Nat.le_of_lt (lt_bl _)) _) ih
theorem prod_lt {L : List (Nat × Nat)} (h : ∀ x ∈ L, 1 ≤ x.2) (hne : L ≠ []) : prodL L < 2 ^ above L := by
  cases L with
  | nil => exact absurd rfl hne
  | cons x r =>
    show x.1 ^ x.2 * prodL r < 2 ^ (bl x.1 * x.2 + above r)
    rw [Nat.pow_add, Nat.pow_mul]
    exact Nat.mul_lt_mul_of_lt_of_le (Nat.pow_lt_pow_left (lt_bl _) (by have := h x List.mem_cons_self; omega)) prod_le (Nat.pow_pos (by decide))
theorem le_prod {L : List (Nat × Nat)} (h : ∀ x ∈ L, 1 ≤ x.1) : 2 ^ below L ≤ prodL L := by
  induction L with
  | nil => exact Nat.le_refl _
  | cons x r ih =>
    show 2 ^ ((bl x.1 - 1) * x.2 + below r) ≤ x.1 ^ x.2 * prodL r
    rw [Nat.pow_add, Nat.pow_mul]
    exact Nat.mul_le_mul (Nat.pow_le_pow_left (bl_le (h x List.mem_cons_self)) _) (ih fun y hy => h y (List.mem_cons_of_mem _ hy))
theorem prod_big {L : List (Nat × Nat)} (h : ∀ x ∈ L, 2 ≤ x.1 ∧ 1 ≤ x.2) (hne : L ≠ []) : 1 < prodL L := by
  cases L with
  | nil => exact absurd rfl hne
  | cons x r =>
    have h1 := h x List.mem_cons_self
    have h2 : 1 ≤ prodL r := prodL_pos fun y hy => by have := (h y (List.mem_cons_of_mem _ hy)).1; omega
    have h3 : 2 ^ 1 ≤ x.1 ^ x.2 := Nat.le_trans (Nat.pow_le_pow_left h1.1 1) (Nat.pow_le_pow_right (by omega) h1.2)
    have h4 := Nat.mul_le_mul h3 h2
    show 1 < x.1 ^ x.2 * prodL r
    omega
theorem prod_pow (L : List (Nat × Nat)) (g : Nat) : prodL (L.map fun x => (x.1, x.2 * g)) = prodL L ^ g := by
  induction L with
  | nil => exact (Nat.one_pow g).symm
  | cons x r ih =>
    show x.1 ^ (x.2 * g) * prodL (r.map fun x => (x.1, x.2 * g)) = (x.1 ^ x.2 * prodL r) ^ g
    rw [ih, Nat.mul_pow, Nat.pow_mul]
theorem sgn_pow {a b g : Nat} (hg : 1 ≤ g) : sgnN (a ^ g) (b ^ g) = sgnN a b := by
  have lt : ∀ a b : Nat, a ^ g < b ^ g ↔ a < b := fun a b => Nat.pow_lt_pow_iff_left (by omega)
  unfold sgnN
  simp only [lt]
/-- the greatest common part of all powers -/
def partOf (L : PW) : Int := max ((L.map (·.2)).foldl (fun g n => ((Int.gcd g n : Nat) : Int)) 0) 1
theorem fold_gcd_dvd (ns : List Int) : ∀ g : Int, (ns.foldl (fun g n => ((Int.gcd g n : Nat) : Int)) g) ∣ g ∧ ∀ n ∈ ns, (ns.foldl (fun g n => ((Int.gcd g n : Nat) : Int)) g) ∣ n := by
  induction ns with
  | nil => intro g; exact ⟨Int.dvd_refl _, fun n h => by cases h⟩
  | cons m ns ih =>
    intro g
    obtain ⟨h1, h2⟩ := ih (Int.gcd g m : Nat)
    refine ⟨Int.dvd_trans h1 (Int.gcd_dvd_left ..), fun n hn => ?_⟩
    rcases List.mem_cons.mp hn with rfl | hn
    · exact Int.dvd_trans h1 (Int.gcd_dvd_right ..)
    · exact h2 n hn
theorem fold_gcd_nn (ns : List Int) : ∀ g : Int, 0 ≤ g → 0 ≤ ns.foldl (fun g n => ((Int.gcd g n : Nat) : Int)) g := by
  induction ns with
  | nil => intro g h; exact h
  | cons m ns ih => intro g _; exact ih _ (Int.natCast_nonneg _)
theorem part_dvd {L : PW} {x : Nat × Int} (h : x ∈ L) : partOf L ∣ x.2 := by
  have h1 := (fold_gcd_dvd (L.map (·.2)) 0).2 x.2 (List.mem_map.mpr ⟨x, h, rfl⟩)
  have h2 := fold_gcd_nn (L.map (·.2)) 0 (Int.le_refl _)
  unfold partOf
  by_cases z : (L.map (·.2)).foldl (fun g n => ((Int.gcd g n : Nat) : Int)) 0 = 0
  · rw [z] at h1 ⊢
    have := Int.zero_dvd.mp h1
    rw [this]
    exact Int.dvd_zero _
  · rw [Int.max_eq_left (by omega)]
    exact h1
def cutOf (L : PW) : PW := L.map fun x => (x.1, x.2 / partOf L)
theorem part_pos (L : PW) : 1 ≤ partOf L := by unfold partOf; omega
theorem ups_cut (L : PW) : (upsOf (cutOf L)).map (fun x => (x.1, x.2 * (partOf L).toNat)) = upsOf L ∧ (downsOf (cutOf L)).map (fun x => (x.1, x.2 * (partOf L).toNat)) = downsOf L := by
  have pp := part_pos L
  have hd : ∀ x ∈ L, partOf L ∣ x.2 := fun x hx => part_dvd hx
  unfold cutOf
  generalize partOf L = g at pp hd
  unfold upsOf downsOf
  induction L with
  | nil => exact ⟨rfl, rfl⟩
  | cons x r ih =>
    obtain ⟨i1, i2⟩ := ih fun y hy => hd y (List.mem_cons_of_mem _ hy)
    obtain ⟨c, hc⟩ := hd x List.mem_cons_self
    have hq : x.2 / g = c := by rw [hc]; exact Int.mul_ediv_cancel_left c (by omega)
    have hs : (0 < c ↔ 0 < x.2) ∧ (c < 0 ↔ x.2 < 0) := by
      rw [hc]
      refine ⟨⟨fun h => Int.mul_pos (by omega) h, fun h => ?_⟩, ⟨fun h => Int.mul_neg_of_pos_of_neg (by omega) h, fun h => ?_⟩⟩
      · by_cases z : 0 < c
        · exact z
        · have : g * c ≤ 0 := Int.mul_nonpos_of_nonneg_of_nonpos (by omega) (by omega)
          omega
      · by_cases z : c < 0
        · exact z
        · have : 0 ≤ g * c := Int.mul_nonneg (by omega) (by omega)
          omega
    rw [List.map_cons, List.filter_cons, List.filter_cons, List.filter_cons, List.filter_cons]
    simp only [hq, hs.1, hs.2, decide_eq_true_eq]
    constructor
    · split
      · rename_i h
        rw [List.map_cons, List.map_cons, List.map_cons, i1]
        congr 2
        show c.toNat * g.toNat = x.2.toNat
        rw [hc, Int.mul_comm, Int.toNat_mul (by omega) (by omega)]
      · exact i1
    · split
      · rename_i h
        rw [List.map_cons, List.map_cons, List.map_cons, i2]
        congr 2
        show (-c).toNat * g.toNat = (-x.2).toNat
        rw [hc, Int.mul_comm g c, ← Int.neg_mul, Int.toNat_mul (by omega) (by omega)]
      · exact i2
theorem sgn_cut (L : PW) : sgnL (cutOf L) = sgnL L := by
  obtain ⟨a, b⟩ := ups_cut L
  have pp := part_pos L
  unfold sgnL
  rw [← a, ← b, prod_pow, prod_pow, sgn_pow (by omega)]
theorem above_ups (L : PW) : above (upsOf L) + above (downsOf L) = bitsOf L := by
  unfold above bitsOf upsOf downsOf
  induction L with
  | nil => rfl
  | cons x r ih =>
    rw [List.filter_cons, List.filter_cons, List.map_cons, List.sum_cons, ← ih]
    by_cases h1 : 0 < x.2
    · have h2 : ¬ x.2 < 0 := by omega
      have h3 : x.2.toNat = x.2.natAbs := by omega
      simp [h1, h2, h3]
      omega
    · by_cases h2 : x.2 < 0
      · have h3 : (-x.2).toNat = x.2.natAbs := by omega
        simp [h1, h2, h3]
        omega
      · have h3 : x.2.natAbs = 0 := by omega
        simp [h1, h2, h3]
theorem bits_cut (L : PW) : bitsOf (cutOf L) ≤ bitsOf L := by
  unfold bitsOf
  have pp := part_pos L
  unfold cutOf
  generalize partOf L = g at pp
  induction L with
  | nil => exact Nat.le_refl _
  | cons x r ih =>
    rw [List.map_cons, List.map_cons, List.map_cons, List.sum_cons, List.sum_cons]
    refine Nat.add_le_add (Nat.mul_le_mul_left _ ?_) ih
    exact Int.natAbs_ediv_le_natAbs _ _
theorem ups_ok {L : PW} (h : ∀ x ∈ L, 2 ≤ x.1) : (∀ x ∈ upsOf L, 2 ≤ x.1 ∧ 1 ≤ x.2) ∧ ∀ x ∈ downsOf L, 2 ≤ x.1 ∧ 1 ≤ x.2 := by
  constructor
  · intro x hx
    obtain ⟨y, hy, rfl⟩ := List.mem_map.mp hx
    obtain ⟨h1, h2⟩ := List.mem_filter.mp hy
    have h3 := of_decide_eq_true h2
    have := h y h1
    exact ⟨this, by show 1 ≤ y.2.toNat; omega⟩
  · intro x hx
    obtain ⟨y, hy, rfl⟩ := List.mem_map.mp hx
    obtain ⟨h1, h2⟩ := List.mem_filter.mp hy
    have h3 := of_decide_eq_true h2
    have := h y h1
    exact ⟨this, by show 1 ≤ (-y.2).toNat; omega⟩
theorem ups_data (L : PW) : outsOf (fun x : Nat × Int => decide (0 < x.2)) (fun x => pI x) L = (upsOf L).map pN ∧ outsOf (fun x : Nat × Int => decide (x.2 < 0)) (fun x => pI (x.1, -x.2)) L = (downsOf L).map pN := by
  unfold outsOf upsOf downsOf
  rw [List.map_map, List.map_map]
  constructor
  · apply List.map_congr_left
    intro x hx
    have := of_decide_eq_true (List.mem_filter.mp hx).2
    show PyData.tuple [_, PyData.int x.2] = PyData.tuple [_, PyData.int ((x.2.toNat : Nat) : Int)]
    rw [show ((x.2.toNat : Nat) : Int) = x.2 by omega]
  · apply List.map_congr_left
    intro x hx
    have := of_decide_eq_true (List.mem_filter.mp hx).2
    show PyData.tuple [_, PyData.int (-x.2)] = PyData.tuple [_, PyData.int (((-x.2).toNat : Nat) : Int)]
    rw [show (((-x.2).toNat : Nat) : Int) = -x.2 by omega]
end My

namespace My
open PySem PySem.Spec PyProof.Rows L2 Evl
variable {K : PySem.W.Frag} {H : Hp} {σ : L2.St} {ta te : TE} {tt : TT} {vs : List Nat}
theorem ed_bits {i : Int} (h : ED K te σ H (.int i)) : ED K (tBits te) σ H (.int (Builtin.Int.intBits i : Nat)) := fun H1 e1 Q q =>
  h H1 e1 _ fun v H2 e2 hv => by
    cases hv
    exact ⟨i, rfl, q _ H2 e2 (.int _)⟩
theorem outs_map {α β : Type} (h : α → β) (f : β → Bool) (g : β → PyData) (xs : List α) : outsOf f g (xs.map h) = outsOf (fun x => f (h x)) (fun x => g (h x)) xs := by
  unfold outsOf
  rw [List.filter_map, List.map_map]
  rfl
theorem sum_cast (L : List (Nat × Nat)) (f : Nat × Nat → Nat) : (L.map fun x => ((f x : Nat) : Int)).sum = (((L.map f).sum : Nat) : Int) := by
  induction L with
  | nil => rfl
  | cons x r ih => rw [List.map_cons, List.map_cons, List.sum_cons, List.sum_cons, ih]; omega
/-! ### denominators -/
def lcmN (n : Num) : Nat := n.foldl (fun l x => Nat.lcm l x.2.den) 1
def wholesL (n : Num) : PW := n.map fun x => (x.1, x.2.num * ((lcmN n : Int) / (x.2.den : Int)))
theorem lcm_fold (n : Num) : ∀ l : Nat, 0 < l → 0 < n.foldl (fun l x => Nat.lcm l x.2.den) l ∧ l ≤ n.foldl (fun l x => Nat.lcm l x.2.den) l := by
  induction n with
  | nil => intro l h; exact ⟨h, Nat.le_refl _⟩
  | cons x r ih =>
    intro l h
    have h1 : 0 < Nat.lcm l x.2.den := Nat.lcm_pos h (den_pos _)
    obtain ⟨a, b⟩ := ih _ h1
    exact ⟨a, Nat.le_trans (Nat.le_of_dvd h1 (Nat.dvd_lcm_left _ _)) b⟩
theorem lcm_take (n : Num) (i : Nat) : lcmN (n.take i) ≤ lcmN n ∧ 0 < lcmN (n.take i) := by
  unfold lcmN
  refine ⟨?_, (lcm_fold _ 1 (by decide)).1⟩
  have e : n.foldl (fun l x => Nat.lcm l x.2.den) 1 = (n.drop i).foldl (fun l x => Nat.lcm l x.2.den) ((n.take i).foldl (fun l x => Nat.lcm l x.2.den) 1) := by
    rw [← List.foldl_append, List.take_append_drop]
  rw [e]
  exact (lcm_fold _ _ (lcm_fold _ 1 (by decide)).1).2
theorem lcm_step {n : Num} {i : Nat} {x : Nat × Rat} (h : n[i]? = some x) : lcmN (n.take (i + 1)) = Nat.lcm (lcmN (n.take i)) x.2.den := by
  unfold lcmN
  rw [List.take_succ, h, List.foldl_append]
  rfl
theorem lcm_int (l d : Nat) : (l : Int) * (d : Int) / ((Int.gcd l d : Nat) : Int) = ((Nat.lcm l d : Nat) : Int) := by
  have e : Int.gcd (l : Int) (d : Int) = Nat.gcd l d := rfl
  rw [e]
  unfold Nat.lcm
  rw [Int.natCast_ediv, Int.natCast_mul]
/-! ### promises -/
def rWholes (ds : List PyData) (d : PyData) : Prop := ∃ n, ds = [eN n] ∧ Can n ∧ SmN 4000 n ∧ lcmN n < 2 ^ 4000 ∧ d = .tuple [.int (lcmN n), .list ((wholesL n).map pI)]
def rSign (ds : List PyData) (d : PyData) : Prop := ∃ L : PW, ds = [.list (L.map pI)] ∧ (∀ x ∈ L, 2 ≤ x.1 ∧ x.1 ≤ 9999) ∧ L.length ≤ 10000 ∧ bitsOf L ≤ 65536 ∧ d = .int (sgnL L)
def rAbove (ds : List PyData) (d : PyData) : Prop := ∃ L : List (Nat × Nat), ds = [.list (L.map pN)] ∧ (∀ x ∈ L, 2 ≤ x.1 ∧ x.1 ≤ 9999) ∧ L.length ≤ 10000 ∧ above L ≤ 65536 ∧ d = .int (above L)
def rBelowB (ds : List PyData) (d : PyData) : Prop := ∃ L : List (Nat × Nat), ds = [.list (L.map pN)] ∧ (∀ x ∈ L, 2 ≤ x.1 ∧ x.1 ≤ 9999) ∧ L.length ≤ 10000 ∧ above L ≤ 65536 ∧ d = .int (below L)
def rWP (ds : List PyData) (d : PyData) : Prop := ∃ L : List (Nat × Nat), ds = [.list (L.map pN)] ∧ (∀ x ∈ L, 2 ≤ x.1 ∧ x.1 ≤ 9999) ∧ L.length ≤ 10000 ∧ above L ≤ 4000000 ∧ d = .int (prodL L)
def lvl (a b : Num) : Int := sgnL (wholesL (ndiv a b))
def LvOk (a b : Num) : Prop := NumOk a ∧ NumOk b ∧ SmN 1900 a ∧ SmN 1900 b ∧ lcmN (ndiv a b) < 2 ^ 4000 ∧ bitsOf (wholesL (ndiv a b)) ≤ 65536
def rLevel (ds : List PyData) (d : PyData) : Prop := ∃ a b, ds = [eN a, eN b] ∧ LvOk a b ∧ d = .int (lvl a b)
def rLess (ds : List PyData) (d : PyData) : Prop := ∃ a b, ds = [eN a, eN b] ∧ LvOk a b ∧ d = .bool (decide (lvl a b < 0))
def rWholeNum (ds : List PyData) (d : PyData) : Prop := ∃ t l : Nat, ds = [.int t, .int l] ∧ 1 ≤ t ∧ t ≤ 9999 ∧ 1 ≤ l ∧ l ≤ 9999 ∧ d = eN (nfrac t l)
def rNumberOf (ds : List PyData) (d : PyData) : Prop := ∃ q : Rat, ds = [eF q] ∧ 1 ≤ q.num ∧ q.num ≤ 9999 ∧ q.den ≤ 9999 ∧ d = eN (nfrac q.num.toNat q.den)
def isPl (n : Num) : Bool := n.all fun x => decide (x.2.den = 1)
def numsL (n : Num) : PW := n.map fun x => (x.1, x.2.num)
def told (n : Num) : PyData := if isPl n then .tuple [.int (prodL (upsOf (numsL n))), .int (prodL (downsOf (numsL n)))] else .none
def rIsPlain (ds : List PyData) (d : PyData) : Prop := ∃ n, ds = [eN n] ∧ Can n ∧ d = .bool (isPl n)
def rPlain (ds : List PyData) (d : PyData) : Prop := ∃ n, ds = [eN n] ∧ NumOk n ∧ (isPl n = true → bitsOf (numsL n) ≤ 4000000) ∧ d = told n
abbrev spWholes (K : PySem.W.Frag) : Sp := spR K 1 rWholes
abbrev spSign (K : PySem.W.Frag) : Sp := spR K 1 rSign
abbrev spAbove (K : PySem.W.Frag) : Sp := spR K 1 rAbove
abbrev spBelowB (K : PySem.W.Frag) : Sp := spR K 1 rBelowB
abbrev spWP (K : PySem.W.Frag) : Sp := spR K 1 rWP
abbrev spLevel (K : PySem.W.Frag) : Sp := spR K 2 rLevel
abbrev spLess (K : PySem.W.Frag) : Sp := spR K 2 rLess
abbrev spWholeNum (K : PySem.W.Frag) : Sp := spR K 2 rWholeNum
abbrev spNumberOf (K : PySem.W.Frag) : Sp := spR K 1 rNumberOf
abbrev spIsPlain (K : PySem.W.Frag) : Sp := spR K 1 rIsPlain
abbrev spPlain (K : PySem.W.Frag) : Sp := spR K 1 rPlain
theorem shaped_pN (L : List (Nat × Nat)) : SeqAt.shaped (.list (L.map pN)) = true := shaped_lst (fun _ => rfl) (fun _ => by simp [pN, PyData.depth, PyData.depthAll]) L
theorem eqv_nil (L : List (Nat × Nat)) : PyData.eqv (.list (L.map pN)) (.list []) = decide (L = []) := by
  cases L with
  | nil => rfl
  | cons x r => rfl
theorem above_take (L : List (Nat × Nat)) (i : Nat) : above (L.take i) ≤ above L := by
  have e : above L = above (L.take i) + above (L.drop i) := by
    unfold above
    rw [← List.sum_append, ← List.map_append, List.take_append_drop]
  omega
theorem above_mem {L : List (Nat × Nat)} {x : Nat × Nat} (h : x ∈ L) : bl x.1 * x.2 ≤ above L := by
  unfold above
  induction L with
  | nil => cases h
  | cons y r ih =>
    rw [List.map_cons, List.sum_cons]
    rcases List.mem_cons.mp h with rfl | h
    · omega
    · have := ih h; omega
theorem prod_step {L : List (Nat × Nat)} {i : Nat} {x : Nat × Nat} (h : L[i]? = some x) : prodL (L.take (i + 1)) = prodL (L.take i) * x.1 ^ x.2 := by
  rw [List.take_succ, h, prodL_app]
  show _ * (x.1 ^ x.2 * 1) = _
  rw [Nat.mul_one]
theorem ok_ndiv {a b : Num} (ha : NumOk a) (hb : NumOk b) : NumOk (ndiv a b) := ok_canE fun p _ h => by
  by_cases z : ev a p = 0
  · refine hb.ev_pr (p := p) fun z2 => h ?_
    rw [z, z2]; grind
  · exact ha.ev_pr z
theorem ok_nmul {a b : Num} (ha : NumOk a) (hb : NumOk b) : NumOk (nmul a b) := ok_canE fun p _ h => by
  by_cases z : ev a p = 0
  · refine hb.ev_pr (p := p) fun z2 => h ?_
    rw [z, z2]; grind
  · exact ha.ev_pr z
theorem ok_npow {a : Num} {q : Rat} (ha : NumOk a) : NumOk (npow a q) := ok_canE fun p _ h => ha.ev_pr (p := p) fun z => h (by rw [z, Rat.zero_mul])
theorem sm_ndiv {a b : Num} {k m : Nat} (ha : Can a) (hb : Can b) (sa : SmN k a) (sb : SmN m b) (hk : 1 ≤ k) (hm : 1 ≤ m) : SmN (k + m + 1) (ndiv a b) := SmN.canE fun p => sub_sm (sa.ev ha.asc hk p) (sb.ev hb.asc hm p)
theorem sm_nmul {a b : Num} {k m : Nat} (ha : Can a) (hb : Can b) (sa : SmN k a) (sb : SmN m b) (hk : 1 ≤ k) (hm : 1 ≤ m) : SmN (k + m + 1) (nmul a b) := SmN.canE fun p => add_sm (sa.ev ha.asc hk p) (sb.ev hb.asc hm p)
theorem sm_npow {a : Num} {q : Rat} {k m : Nat} (ha : Can a) (sa : SmN k a) (hk : 1 ≤ k) (hq : Sm m q) : SmN (k + m) (npow a q) := SmN.canE fun p => mul_sm (sa.ev ha.asc hk p) hq
end My

namespace My
open PySem PySem.Spec PyProof.Rows L2 Evl
section
variable {X : Cx}
/-- name = {k: v for ..}: the name is stored ahead of the comprehension's end -/
theorem ps_setDc {i : Nat} {nm : Str} {pn pd pst : Pos} {ek ev' tgt it : Expr} {cs : List Expr} {sc : Scope} {own : List (Str × Nat)} {wi : TI} {gt : TG} {tt : TT} {tk tv : TE}
    (hc : X.calm = true) (nd : X.N.Nodup) (at_i : X.N[i]? = some nm) (isl : X.env.scope.names.lookup nm = some .local)
    (sw : swapsWith (.DictComp ek ev' [⟨tgt, it, cs, 0⟩] sc pd) (some (.Name nm pn)) pst.line X.env = pure true) (walk : PI X tgt it wi) (bk : BlkOk X.N X.env.scope sc own)
    (bg : ∀ (s : Shared) (H : Hp) (C : Addr) (cl : List (Str × Addr)) (fp : List Addr), PG (X.blk s H sc (compEnvC sc cl C X.env) fp) tgt gt) (bt : ∀ (s : Shared) (H : Hp) (C : Addr) (cl : List (Str × Addr)) (fp : List Addr), PTs (X.blk s H sc (compEnvC sc cl C X.env) fp) cs tt)
    (bk' : ∀ (s : Shared) (H : Hp) (C : Addr) (cl : List (Str × Addr)) (fp : List Addr), PE (X.blk s H sc (compEnvC sc cl C X.env) fp) ek tk)
    (bv : ∀ (s : Shared) (H : Hp) (C : Addr) (cl : List (Str × Addr)) (fp : List Addr), PE (X.blk s H sc (compEnvC sc cl C X.env) fp) ev' tv) (fz : ∀ x, foldedSetIterable it X.env x = pure x := by intro _; rfl) :
    PS X (.Assign [.Name nm pn] (.DictComp ek ev' [⟨tgt, it, cs, 0⟩] sc pd) pst) (tAsg (tDc wi gt tt tk tv (own.map (·.2))) (gName i)) := by
  constructor
  intro pins s σ H D I reading
  rw [exec_Assign_Name_used _ _ _ _ sw]
  have reading : tDc wi gt tt tk tv (own.map (·.2)) σ H (fun x H1 => gName i x σ H1 D.nx) := reading
  refine wpAny_bind (wpAny_standAt (wpAny_bind ?_))
  show wpAny _ X.A (do let _ ← comprehension (.DictComp ek ev' [⟨tgt, it, cs, 0⟩] sc pd) sc X.env (firstIterPos [⟨tgt, it, cs, 0⟩] pd) newDict false (eval it X.env) (some (assign (.Name nm pn) X.env))) _ _ s
  refine wpAny_bind (thn (dc_core (Qf := fun _ s' => SP X pins D .next s') hc nd I walk bk bg bt bk' bv fz reading fun L C s2 m H2 I2 done ns frame => ?_) fun _ s2 w2 => wpAny_pure (wpAny_pure w2))
  show wpAny _ _ (assign (.Name nm pn) X.env (.ref L)) _ _ _
  refine wpAny_assign_Name (store_ok2 (v := V.ref L) I2 nd at_i (.inl isl) rfl (fun s3 I3 touched => ?_) (.inr isl))
  obtain ⟨a, same, where'⟩ := touched
  obtain ⟨g0, g1, g2, g3, g4, g5⟩ := frame
  have other : C ≠ a := where'.elim (fun z => by rw [z]; exact g1) fun z e => g4 nm a z e.symm
  exact ⟨m, ns.sameBut same other, fun h4 same4 => ⟨_, H2, I3.turned (t' := s3.toks) (fun b o hb e => (same4.2 b hb).trans e) g0 g1 g3 g4 g5, done⟩⟩
theorem sw_trueD {ek ev' : Expr} {gs : List Comprehension} {sc : Scope} {pd pn : Pos} {nm : Str} {l : Nat} {env : Env} (h1 : env.scope.kind = .function) (h2 : env.scope.names.lookup nm = some .local) (h3 : (pn.line == pd.line) = true)
    (h4 : (sc.names.any fun (n, k) => n == nm && (k == .local || k == .cell)) = false) : swapsWith (.DictComp ek ev' gs sc pd) (some (.Name nm pn)) l env = pure true := by
  have k1 : env.kindOf nm = some .local := h2
  have k2 : env.blockKind = .function := by
    unfold Env.blockKind
    rw [h1]
    rfl
  unfold swapsWith
  simp only [k2, k1, h4, Expr.pos, h3]
  rfl
end
/-! ### whole numbers' powers as numbers -/
theorem asc_nL {L : List (Nat × Nat)} (h : L.Pairwise fun a b => a.1 < b.1) : Asc (nL L) := List.pairwise_map.mpr h
theorem natCast_ne {m : Nat} (h : 1 ≤ m) : ((m : Nat) : Rat) ≠ 0 := fun e => by
  have : (m : Rat).num = 0 := by rw [e]; rfl
  rw [Rat.num_natCast] at this
  omega
theorem mem_prod {x : Nat × Nat} : ∀ {L : List (Nat × Nat)}, x ∈ L → x.1 ^ x.2 ∣ prodL L
  | y :: r, hx => by
    show x.1 ^ x.2 ∣ y.1 ^ y.2 * prodL r
    rcases List.mem_cons.mp hx with rfl | hx
    · exact Nat.dvd_mul_right _ _
    · exact Nat.dvd_mul_left_of_dvd (mem_prod hx) _
theorem len_prod2 : ∀ {L : List (Nat × Nat)}, (∀ x ∈ L, 2 ≤ x.1 ∧ 1 ≤ x.2) → 2 ^ L.length ≤ prodL L
  | [], _ => Nat.le_refl _
  | x :: r, pr => by
    have ih := len_prod2 (L := r) fun y hy => pr y (List.mem_cons_of_mem _ hy)
    obtain ⟨a, b⟩ := pr x List.mem_cons_self
    have : 2 ^ 1 ≤ x.1 ^ x.2 := Nat.le_trans (Nat.pow_le_pow_left a 1) (Nat.pow_le_pow_right (by omega) b)
    show 2 ^ (r.length + 1) ≤ x.1 ^ x.2 * prodL r
    rw [Nat.pow_succ, Nat.mul_comm]
    exact Nat.mul_le_mul this ih
theorem fac_bound {n : Nat} (h1 : 1 ≤ n) (h2 : n ≤ 9999) : ∀ x ∈ fac n, Pr x.1 ∧ x.1 ≤ 9999 ∧ 1 ≤ x.2 ∧ x.2 ≤ 13 := fun x hx => by
  have hf := fac_is h1
  obtain ⟨p1, p2⟩ := hf.pr x hx
  have hd : x.1 ^ x.2 ∣ n := by
    have := mem_prod hx
    rw [hf.prod] at this
    exact this
  have hle := Nat.le_of_dvd h1 hd
  have a1 : x.1 ^ 1 ≤ x.1 ^ x.2 := Nat.pow_le_pow_right (by have := p1.1; omega) p2
  rw [Nat.pow_one] at a1
  refine ⟨p1, by omega, p2, ?_⟩
  by_cases h : x.2 ≤ 13
  · exact h
  · have a2 : 2 ^ 14 ≤ x.1 ^ x.2 := Nat.le_trans (Nat.pow_le_pow_left p1.1 14) (Nat.pow_le_pow_right (by have := p1.1; omega) (by omega))
    omega
theorem can_fac {n : Nat} (h1 : 1 ≤ n) (h2 : n ≤ 9999) : NumOk (nL (fac n)) := ⟨asc_nL (fac_is h1).asc, fun x hx => by
  obtain ⟨y, hy, rfl⟩ := List.mem_map.mp hx
  obtain ⟨a, b, c, d⟩ := fac_bound h1 h2 y hy
  exact ⟨a, b, natCast_ne c⟩⟩
theorem sm_fac {n : Nat} (h1 : 1 ≤ n) (h2 : n ≤ 9999) : SmN 4 (nL (fac n)) := fun x hx => by
  obtain ⟨y, hy, rfl⟩ := List.mem_map.mp hx
  obtain ⟨a, b, c, d⟩ := fac_bound h1 h2 y hy
  refine ⟨?_, ?_⟩
  · show ((y.2 : Nat) : Rat).num.natAbs < _
    rw [Rat.num_natCast]
    show y.2 < _
    omega
  · show ((y.2 : Nat) : Rat).den < _
    rw [Rat.den_natCast]
    decide
theorem len_fac {n : Nat} (h1 : 1 ≤ n) (h2 : n ≤ 9999) : (fac n).length ≤ 13 := by
  have hf := fac_is h1
  have : 2 ^ (fac n).length ≤ prodL (fac n) := len_prod2 fun x hx => ⟨(hf.pr x hx).1.1, (hf.pr x hx).2⟩
  rw [hf.prod] at this
  by_cases h : (fac n).length ≤ 13
  · exact h
  · have : 2 ^ 14 ≤ 2 ^ (fac n).length := Nat.pow_le_pow_right (by decide) (by omega)
    omega
theorem eF_nat (m : Nat) : eF ((m : Nat) : Rat) = .tuple [.int m, .int 1] := by
  unfold eF
  rw [Rat.num_natCast, Rat.den_natCast]
  rfl
theorem nd_sI {n : Nat} (s : Int) (h1 : 1 ≤ n) : ((sI s (fac n)).map (·.1)).Nodup := by
  unfold sI
  rw [List.map_map]
  exact List.pairwise_map.mpr ((fac_is h1).asc.imp fun {a b} q r => by have : a.1 = b.1 := Int.ofNat.inj r; omega)
theorem nfrac_ok {t l : Nat} (t1 : 1 ≤ t) (t2 : t ≤ 9999) (l1 : 1 ≤ l) (l2 : l ≤ 9999) : NumOk (nfrac t l) := ok_ndiv (can_fac t1 t2) (can_fac l1 l2)
theorem nfrac_sm {t l : Nat} (t1 : 1 ≤ t) (t2 : t ≤ 9999) (l1 : 1 ≤ l) (l2 : l ≤ 9999) : SmN 9 (nfrac t l) := sm_ndiv (can_fac t1 t2).can (can_fac l1 l2).can (sm_fac t1 t2) (sm_fac l1 l2) (by decide) (by decide)
/-! ### what sign_of's steps need -/
theorem fold_gcd_z : ∀ (ns : List Int), (∀ n ∈ ns, n = 0) → ns.foldl (fun g n => ((Int.gcd g n : Nat) : Int)) 0 = 0
  | [], _ => rfl
  | n :: ns, h => by
    have := h n List.mem_cons_self
    subst this
    exact fold_gcd_z ns fun m hm => h m (List.mem_cons_of_mem _ hm)
theorem bits_mem {L : PW} {x : Nat × Int} (h : x ∈ L) : bl x.1 * x.2.natAbs ≤ bitsOf L := by
  unfold bitsOf
  induction L with
  | nil => cases h
  | cons y r ih =>
    rw [List.map_cons, List.sum_cons]
    rcases List.mem_cons.mp h with rfl | h
    · omega
    · have := ih h; omega
theorem part_lt {L : PW} (h2 : ∀ x ∈ L, 2 ≤ x.1) (hb : bitsOf L ≤ 65536) : (partOf L).natAbs < 2 ^ 20 := by
  have pp := part_pos L
  by_cases z : ∃ x ∈ L, x.2 ≠ 0
  · obtain ⟨x, hx, hz⟩ := z
    have d := part_dvd hx
    have a := Int.le_of_dvd (b := (x.2.natAbs : Int)) (by omega) ((Int.dvd_natAbs).mpr d)
    have b := bits_mem hx
    have c := bl_pos (p := x.1) (by have := h2 x hx; omega)
    have e : 1 * x.2.natAbs ≤ bl x.1 * x.2.natAbs := Nat.mul_le_mul_right _ c
    omega
  · have : partOf L = 1 := by
      unfold partOf
      rw [fold_gcd_z]
      · rfl
      · intro n hn
        obtain ⟨x, hx, rfl⟩ := List.mem_map.mp hn
        by_cases q : x.2 = 0
        · exact q
        · exact absurd ⟨x, hx, q⟩ z
    rw [this]
    decide
theorem cut_mem {L : PW} (h : ∀ x ∈ L, 2 ≤ x.1 ∧ x.1 ≤ 9999) : ∀ x ∈ cutOf L, 2 ≤ x.1 ∧ x.1 ≤ 9999 := fun x hx => by
  obtain ⟨y, hy, rfl⟩ := List.mem_map.mp hx
  exact h y hy
theorem ups_mem {L : PW} (h : ∀ x ∈ L, 2 ≤ x.1 ∧ x.1 ≤ 9999) : (∀ x ∈ upsOf L, 2 ≤ x.1 ∧ x.1 ≤ 9999) ∧ ∀ x ∈ downsOf L, 2 ≤ x.1 ∧ x.1 ≤ 9999 := by
  refine ⟨fun x hx => ?_, fun x hx => ?_⟩
  · obtain ⟨y, hy, rfl⟩ := List.mem_map.mp hx
    exact h y (List.mem_filter.mp hy).1
  · obtain ⟨y, hy, rfl⟩ := List.mem_map.mp hx
    exact h y (List.mem_filter.mp hy).1
theorem ups_len (L : PW) : (upsOf L).length ≤ L.length ∧ (downsOf L).length ≤ L.length := by
  unfold upsOf downsOf
  rw [List.length_map, List.length_map]
  exact ⟨List.length_filter_le _ _, List.length_filter_le _ _⟩
theorem cut_len (L : PW) : (cutOf L).length = L.length := List.length_map _
theorem sgn_edge {U D : List (Nat × Nat)} (hU : ∀ x ∈ U, 2 ≤ x.1 ∧ 1 ≤ x.2) (hD : ∀ x ∈ D, 2 ≤ x.1 ∧ 1 ≤ x.2) (h : (decide (U = []) || decide (D = [])) = true) :
    ((if (!decide (U = [])) = true then (1 : Int) else 0) - if (!decide (D = [])) = true then 1 else 0) = sgnN (prodL U) (prodL D) := by
  unfold sgnN
  by_cases u : U = []
  · by_cases d : D = []
    · simp [u, d]
    · have := prod_big hD d
      have e : prodL U = 1 := by rw [u]; rfl
      rw [e]
      have n : ¬ prodL D < 1 := by omega
      simp [u, d, this, n]
  · by_cases d : D = []
    · have := prod_big hU u
      have e : prodL D = 1 := by rw [d]; rfl
      rw [e]
      have n : ¬ prodL U < 1 := by omega
      simp [u, d, this, n]
    · simp [u, d] at h
theorem sgn_up {U D : List (Nat × Nat)} (hU : ∀ x ∈ U, 2 ≤ x.1 ∧ 1 ≤ x.2) (hD : ∀ x ∈ D, 2 ≤ x.1 ∧ 1 ≤ x.2) (d : D ≠ []) (h : above D ≤ below U) : sgnN (prodL U) (prodL D) = 1 := by
  have a := prod_lt (fun x hx => (hD x hx).2) d
  have b := le_prod fun x hx => (show 1 ≤ x.1 by have := (hU x hx).1; omega)
  have c : 2 ^ above D ≤ 2 ^ below U := Nat.pow_le_pow_right (by decide) h
  unfold sgnN
  rw [if_pos (by omega), if_neg (by omega)]
  rfl
theorem sgn_down {U D : List (Nat × Nat)} (hU : ∀ x ∈ U, 2 ≤ x.1 ∧ 1 ≤ x.2) (hD : ∀ x ∈ D, 2 ≤ x.1 ∧ 1 ≤ x.2) (u : U ≠ []) (h : above U ≤ below D) : sgnN (prodL U) (prodL D) = -1 := by
  have a := prod_lt (fun x hx => (hU x hx).2) u
  have b := le_prod fun x hx => (show 1 ≤ x.1 by have := (hD x hx).1; omega)
  have c : 2 ^ above U ≤ 2 ^ below D := Nat.pow_le_pow_right (by decide) h
  unfold sgnN
  rw [if_neg (by omega), if_pos (by omega)]
  rfl
variable {K : PySem.W.Frag} {σ : L2.St} {H : Hp}
theorem ek_primes {n : Nat} {E : XK} {ta : TA} (h : EA K ta σ H [.int n]) (h1 : 1 ≤ n) (h2 : n ≤ 9999) : EK K (tCall (spPrimesOf K) [] E ta) σ H (sI 1 (fac n)) := fun H1 e1 Q q =>
  h H1 e1 _ fun vs H2 e2 hv => by
    obtain ⟨v, rfl, hd⟩ := dpa1 hv
    cases hd
    exact ⟨n, rfl, h1, h2, fun p H3 hp e3 h3 => q p H3 (none_of_ex e2 hp) (e2.trans e3) h3⟩
theorem dN_sI (L : List (Nat × Nat)) : ((sI 1 L).map fun x => (x.1, PyData.tuple [.int x.2, .int 1])) = dN (nL L) := by
  unfold sI dN nL
  rw [List.map_map, List.map_map]
  apply List.map_congr_left
  intro x _
  show (_, PyData.tuple [.int (1 * ((x.2 : Nat) : Int)), .int 1]) = (_, eF ((x.2 : Nat) : Rat))
  rw [eF_nat, Int.one_mul]
theorem sm_nat {m k : Nat} (h : m < 2 ^ k) (hk : 1 ≤ k) : Sm k ((m : Nat) : Rat) := by
  have : 2 ^ 1 ≤ 2 ^ k := Nat.pow_le_pow_right (by decide) hk
  refine ⟨?_, ?_⟩
  · rw [Rat.num_natCast]; exact h
  · rw [Rat.den_natCast]; omega
end My

namespace My
open PySem PySem.Spec PyProof.Rows L2 Evl
/-! ### defs that are entered with no repr under way -/
structure FnOkG (P : Program) (w : World) (K : PySem.W.Frag) (mg : Str → Option Value) (base : Heap) (k : Nat) (f : Addr) (fd : FuncData) (ps : List Str) (sp : Sp) : Prop where
  len : ∀ vs H Q E, sp vs H Q E → vs.length = ps.length
  go : ∀ (A : Around) (outer : List Env) (s : Shared) (H : Hp) (args : Args) (us : List Value) (vs : List V) (Q : VK) (E : XK), A.guards = some [] → Room k A → Env0 P w K mg base A outer s H → BindsTo s fd args (ps.zip us) → Vals vs us → sp vs H Q E →
    codeAny (model P w) A (.call (.ref f) args) (CR CX0 outer P w H s Q E) s
theorem guards_deeper {A : Around} {e : Env} (h : A.guards = some []) : (A.deeper e).guards = some [] := by
  first
    | exact h
    | simpa [Around.deeper] using h
theorem fn_okG {P : Program} {w : World} {K : PySem.W.Frag} {mg : Str → Option Value} {base : Heap} {k : Nat} {f : Addr} {x qual : Str} {params : Arguments} {body : List Stmt} {scope : Scope} {fd : FuncData} {N ps : List Str} {sp : Sp}
    (F : FunD K x qual params body scope [] [] f fd) (S : FnScope N ps scope) (len : ∀ vs H Q E, sp vs H Q E → vs.length = ps.length)
    (inner : ∀ (cdv : Value) (A : Around) (outer : List Env) (s : Shared) (H : Hp) (vs : List V) (Q : VK) (E : XK), A.guards = some [] → Room k (A.deeper (envOfC qual scope s.heap.objs.size f cdv)) → sp vs H Q E →
      ∃ t, PSs (cxOf CX0 P w K mg base N qual scope f cdv A outer s H E) body t ∧ t { nx := fun _ H' => Q .non H', rt := Q } (start N vs) H) : FnOkG P w K mg base (k + 1) f fd ps sp := by
  obtain ⟨oc, od, dV, kV, doc, pm, an, cdv, ct, osl, rfl, look, incode, -, -⟩ := F.ex
  refine ⟨len, ?_⟩
  intro A outer s H args us vs Q E gd room env0 binds rel want
  have hl := len _ _ _ _ want
  have inK : K.In s.heap := env0.mod.kin.keeps fun b o e => (env0.bs b o e).1
  have nolim : s.heap.NoLimit := env0.mod.nolimit.keeps fun b o e => (env0.bs b o e).1
  have kinds : ∀ y ∈ ps.zip us, scope.names.lookup y.1 = some .local ∨ (scope.names.lookup y.1 = some .cell ∧ ((cellsFrom (s.heap.objs.size + 1) scope.names []).lookup y.1).isSome = true) := by
    rintro ⟨n, v⟩ hy
    rcases S.par n (List.of_mem_zip hy).1 with loc | cel
    · exact .inl loc
    · exact .inr ⟨cel, PySem.W.cellsFrom_some _ _ _ (.inl cel)⟩
  refine codeAny_call_function room.depth (inK _ _ look) rfl S.co S.gen rfl (PySem.W.codeRec_of inK incode) (binds _ _ _ _ ?_)
  refine wpAny_newFunctionEnv_cells S.kind kinds fun env same s1 x => ?_
  subst same
  refine ⟨nolim.keeps x.toInCall.keep, codeAny_func ?_⟩
  obtain ⟨t, drv, reading⟩ := inner cdv A outer s H vs Q E gd (room.deeper _) want
  have inv0 : Inv (cxOf CX0 P w K mg base N qual scope f cdv A outer s H E) [] (start N vs) H s1 := inv_start S room.hd env0 hl rel x
  refine wpAny_mono (drv.run [] s1 (L2.start N vs) H _ inv0 reading) (fun fl s2 there => ?_) fun e s2 there => there
  have ends : ∀ {σ' : L2.St} {H' : Hp} {v : V} {u : Value}, Inv (cxOf CX0 P w K mg base N qual scope f cdv A outer s H E) [] σ' H' s2 → RelV v u → Q v H' → CE outer P w H s Q u s2 := by
    intro σ' H' v u J rv q
    exact ⟨v, H', J.os, J.bare, J.base, J.hok, rv, q⟩
  cases fl with
  | ret u => exact let ⟨v, σ', H', J, rv, q⟩ := there; ends J rv q
  | next => exact let ⟨σ', H', J, q⟩ := there; ends (v := V.non) (u := Value.none) J rfl q
  | brk => exact let ⟨_, _, _, q⟩ := there; False.elim q
  | cont => exact let ⟨_, _, _, q⟩ := there; False.elim q
def OkG (P : Program) (w : World) (K : PySem.W.Frag) (mg : Str → Option Value) (base : Heap) (k : Nat) (x : Str) (ps : List Str) (sp : Sp) : Prop :=
  ∃ fd, (∃ oc od osl, K.lookup (He.ga K x) = some ⟨oc, od, .func fd, osl⟩) ∧ FnOkG P w K mg base k (He.ga K x) fd ps sp ∧ Binds K fd ps [] ∧ PySem.W.keepIn K (.ref (He.ga K x)) = true ∧ mg x = some (.ref (He.ga K x))
theorem OkG.mk {P : Program} {w : World} {K : PySem.W.Frag} {mg : Str → Option Value} {base : Heap} {k : Nat} {x : Str} {st : Stmt} {N ps : List Str} {sp : Sp}
    (hF : ∃ fd, FunD K x x (defArgs st) (defBody st) (defScope st) [] [] (He.ga K x) fd) (S : FnScope N ps (defScope st)) (gm : mg x = some (.ref (He.ga K x)))
    (hb : ∀ (kV doc pm : Value) (an : Option Addr) (cdv ct : Value) (us : List Value), us.length = ps.length → bindArgs (PySem.W.fnOf x x (defArgs st) (defBody st) (defScope st) .none kV doc pm an cdv ct) ⟨us, []⟩ = pure (ps.zip us))
    (len : ∀ vs H Q E, sp vs H Q E → vs.length = ps.length)
    (body : ∀ (cdv : Value) (A : Around) (outer : List Env) (s : Shared) (H : Hp) (vs : List V) (Q : VK) (E : XK), A.guards = some [] → Room k (A.deeper (envOfC x (defScope st) s.heap.objs.size (He.ga K x) cdv)) → sp vs H Q E →
      ∃ t, PSs (cxOf CX0 P w K mg base N x (defScope st) (He.ga K x) cdv A outer s H E) (defBody st) t ∧ t { nx := fun _ H' => Q .non H', rt := Q } (start N vs) H) :
    OkG P w K mg base (k + 1) x ps sp := by
  obtain ⟨fd, F⟩ := hF
  refine ⟨fd, ?_, fn_okG F S len body, F.bindsN hb, F.kp, gm⟩
  obtain ⟨oc, od, dV, kV, doc, pm, an, cdv, ct, osl, _, look, _⟩ := F.ex
  exact ⟨oc, od, osl, look⟩
theorem run_fnG {X : Cx} {k : Nat} {f : Addr} {fd : FuncData} {ps : List Str} {sp : Sp} {pins : List (Addr × Obj)} {σ : L2.St} {H : Hp} {s : Shared} {Q : VK} {us : List Value} {vs : List V} (F : FnOkG X.prog X.w X.K X.mg X.base k f fd ps sp) (gd : X.A.guards = some []) (room : Room k X.A) (bd : Binds X.K fd ps [])
    (I : Inv X pins σ H s) (rel : Vals vs us) (want : sp vs H Q E0) : wpAny (model X.prog X.w) X.A (call (.ref f) us) (L2.EP X pins σ Q) X.xe s := by
  have hl : (us ++ []).length = ps.length := by
    rw [List.append_nil, ← rel.length]
    exact F.len _ _ _ _ want
  have bound := bd s us I.kIn hl
  rw [List.append_nil] at bound
  refine wpAny_call (codeAny_mono (F.go X.A X.stack s H ⟨us, []⟩ us vs Q E0 gd room I.env0 bound rel want) fun r s2 there => ?_)
  match r, there with
  | .error e, there => exact pass0 pins σ H s e s2 I there
  | .ok (.ret u), there => exact I.after there
theorem pcallG {X : Cx} {k : Nat} {x : Str} {ps : List Str} {sp : Sp} {p pos : Pos} {e : Expr} {es : List Expr} {t : TA} (O : OkG X.prog X.w X.K X.mg X.base k x ps sp) (gd : X.A.guards = some []) (hr : Room k X.A) (hg : Gl X x) (ha : PA X (e :: es) t)
    (hdb : (x == ("__debug__" : Str)) = false := by decide) (he : starEach (e :: es) X.env = (false, eval e X.env) :: starEach es X.env := by rfl) (hpl : (backTo pos (starEach es X.env)).any (·.1) = false := by rfl) :
    PE X (.Call (.Name x p) (e :: es) [] pos) (tCall sp [] E0 t) := by
  obtain ⟨fd, -, G, b, kp, gm⟩ := O
  constructor
  intro pins s σ H Q I reading
  refine wpAny_Call_Name_kw (ld_glob I hg gm ?_ hdb)
  refine PySem.W.callWith_K (h₀ := X.base) I.ok.mod.kin kp (thn (ha.run pos pins s σ H _ I reading) fun us s1 ⟨vs, H1, I1, r, q⟩ => ⟨I1.kIn, ?_⟩) he hpl
  have q : sp (vs ++ []) H1 Q E0 := q
  rw [List.append_nil] at q
  exact run_fnG G gd hr b I1 r q
/-! ### the law's own call -/
theorem law_callG {P : Program} {w : World} {K : PySem.W.Frag} {mg mb : Str → Option Value} {k : Nat} {fa a : Addr} {fd : FuncData} {x : Str} {sp : Sp} {s₁ : Shared} {vs : List Value} {ns : List Int}
    (inK : K.In s₁.heap) (glob : s₁.heap.Ns mainGlobals mg) (blt : s₁.heap.Ns builtinsNs mb) (blt2 : ∀ x : Str, x ≠ "__name__" → mb x = bootBuiltins x) (nolim : s₁.heap.NoLimit) (nogen : s₁.gens = #[])
    (script : s₁.heap.get? a = some { cls := .type "list", data := .seq vs.toArray }) (intsA : IntsAre vs ns) (short : ns.length ≤ sizeLine) (room : Room k callerA)
    (F : ∀ base : Heap, K.In base → base.Ns mainGlobals mg → FnOkG P w K mg base k fa fd [x] sp) (bound : ∀ (s : Shared) (u : Value), BindsTo s fd ⟨[u], []⟩ [(x, u)])
    (want : ∀ H : Hp, Only H → FqL K H a (ns.map V.int) → sp [.ref a] H (fun v _ => v = .bl true) fun _ _ _ => False) :
    codeAny (model P w) callerA (.call (.ref fa) ⟨[.ref a], []⟩) (fun r s' => r = .ok (.ret (.bool true)) ∧ OldK s₁.heap s'.heap ∧ s'.os = s₁.os ∧ AllBare s'.gens) s₁ := by
  have rel := vals_ints intsA
  have main : ∀ H : Hp, Only H → FqL K H a (ns.map V.int) → HOk P w H s₁.heap → (∀ b, H b ≠ none → b = a) → (H a ≠ none → K.lookup a = none) →
      codeAny (model P w) callerA (.call (.ref fa) ⟨[.ref a], []⟩) (fun r s' => r = .ok (.ret (.bool true)) ∧ OldK s₁.heap s'.heap ∧ s'.os = s₁.os ∧ AllBare s'.gens) s₁ := by
    intro H only sq hok onlyA offK
    have keep : ∀ {b : Addr} {o : Obj}, s₁.heap.get? b = some o → H b = none → (hidT s₁.heap H).get? b = some o := fun e n => hidT_get e n
    have isDict : ∀ {b : Addr} {o : Obj} {es : Array DictEntry} {ep : Nat}, s₁.heap.get? b = some o → o.data = .dict es ep → H b = none := by
      intro b o es ep e d
      cases q : H b with
      | none => rfl
      | some u =>
        have e2 : b = a := onlyA b (by rw [q]; simp)
        subst e2
        rw [script] at e
        cases e
        have d2 : Data.seq vs.toArray _ = Data.dict es ep := d
        cases d2
    have nsKeep : ∀ {b : Addr} {m : Str → Option Value}, s₁.heap.Ns b m → (hidT s₁.heap H).Ns b m := by
      rintro b m ⟨o, es, ep, e, d, r⟩
      exact ⟨o, es, ep, keep e (isDict e d), d, r⟩
    have inBase : K.In (hidT s₁.heap H) := by
      intro b o e
      refine keep (inK b o e) ?_
      cases q : H b with
      | none => rfl
      | some u =>
        have e2 : b = a := onlyA b (by rw [q]; simp)
        subst e2
        rw [offK (by rw [q]; simp)] at e
        cases e
    have modOk : Mod K mg (hidT s₁.heap H) := ⟨inBase, nsKeep glob, ⟨mb, nsKeep blt, blt2⟩, let ⟨mc, h1, h2⟩ := nolim; ⟨mc, nsKeep h1, h2⟩⟩
    have env0 : Env0 P w K mg (hidT s₁.heap H) callerA [] s₁ H := ⟨rfl, modOk, fun b o e => of_hidT e, Nat.le_of_eq (hidT_size _ _), trivial, fun b hb => absurd (show b ∈ ([] : List Addr) from hb) (by simp), hok, .of_eq nogen⟩
    refine codeAny_mono ((F _ inBase (nsKeep glob)).go callerA [] s₁ H ⟨[.ref a], []⟩ [.ref a] [.ref a] _ _ rfl room env0 (bound s₁ (.ref a)) (.cons rfl .nil) (want H only sq)) fun r s2 there => ?_
    match r, there with
    | .error e, there => exact False.elim there
    | .ok (.ret u), there =>
      obtain ⟨v, H2, os, bare, un, hok2, r2, q⟩ := there
      have q2 : v = .bl true := q
      subst q2
      obtain rfl : u = Value.bool true := r2
      refine ⟨rfl, OldK.of_keep fun b o e => ?_, os, bare⟩
      cases q : H b with
      | none => exact un.keep b o e q (fun z => absurd (show b ∈ ([] : List Addr) from z) (by simp)) (by simp)
      | some u =>
        rcases only b with z | ⟨ob, xs, z⟩
        · rw [q] at z
          cases z
        · have z2 := un.frzs b ob _ z
          obtain ⟨e1, _⟩ := hok b _ z
          obtain ⟨e3, _⟩ := hok2 b _ z2
          rw [e] at e1
          cases e1
          exact e3
  have lenV := intsA.length
  cases look : K.lookup a with
  | some o =>
    have e := inK a o look
    rw [script] at e
    cases e
    exact main (fun _ => none) (fun _ => .inl rfl) (.inr ⟨vs.toArray, _, look, by rw [List.size_toArray, lenV]; exact short, by simpa using rel⟩) (fun b u z => by cases (show (none : Option HO) = some u from z)) (fun b z => absurd rfl z) fun z => absurd rfl z
  | none =>
    refine main (fun b => if b = a then some (.frz { cls := .type "list", data := .seq vs.toArray } (.lst (ns.map V.int))) else none) (fun b => ?_) (.inl ⟨_, if_pos rfl⟩) (fun b u z => ?_) (fun b z => ?_) fun _ => look
    · by_cases eq : b = a
      · exact .inr ⟨_, _, if_pos eq⟩
      · exact .inl (if_neg eq)
    · by_cases eq : b = a
      · cases (if_pos eq).symm.trans z
        subst eq
        exact ⟨script, by rw [List.length_map]; exact short, vs, _, rel, script⟩
      · cases (if_neg eq).symm.trans z
    · by_cases eq : b = a
      · exact eq
      · exact absurd (if_neg eq) z
theorem walk_G {l : PySem.W.OpenLaw} {n k : Nat} {q : Program} {loose : List Str} {XP : (Str → Option Value) → Heap → Prop} {YP : World → Heap → Prop} {d : DefRec} {x : Str}
    (most : l.most = some n) (few : n ≤ sizeLine) (nodef : d.params.defaults = []) (room : Room k callerA)
    (F : ∀ (w : World) (mg : Str → Option Value) (fa : Addr) (h : Heap), YP w h → h.Ns mainGlobals mg → mg d.name = some (.ref fa) →
      ∃ (K : PySem.W.Frag) (fd : FuncData) (sp : Sp), K.In h ∧ (∀ (s : Shared) (u : Value), BindsTo s fd ⟨[u], []⟩ [(x, u)]) ∧
        (∀ (H : Hp) (a : Addr) (ns : List Int), ns.length ≤ n → Only H → FqL K H a (ns.map V.int) → sp [.ref a] H (fun v _ => v = .bl true) fun _ _ _ => False) ∧
        ∀ base : Heap, K.In base → base.Ns mainGlobals mg → FnOkG l.prog w K mg base k fa fd [x] sp) :
    PySem.W.WalkO q loose XP YP l.row.toRowW d [] (fun f vs => PySem.call f vs) := by
  refine Att.attach_call most nodef ?_
  intro w s₀ s₁ mg mb fa o pm cd doc a vs ns G Y ho hd hcd hmg hobj hints hlen hg
  obtain ⟨K, fd, sp, inK, bd, want, run⟩ := F w mg fa _ Y G.T.g hmg
  exact law_callG inK G.T.g G.T.b G.T.builtins G.T.nolimit hg hobj hints (Nat.le_trans hlen few) room run bd fun H only sq => want H a ns hlen only sq
/-- the law's def, its function object given -/
theorem OkG.at {P : Program} {w : World} {K : PySem.W.Frag} {mg : Str → Option Value} {base : Heap} {k : Nat} {x qual : Str} {params : Arguments} {body : List Stmt} {scope : Scope} {ps : List Str} {sp : Sp} {fd : FuncData}
    (F : FunD K x qual params body scope [] [] (He.ga K x) fd) (O : OkG P w K mg base k x ps sp) : FnOkG P w K mg base k (He.ga K x) fd ps sp := by
  obtain ⟨oc, od, dV, kV, doc, pm, an, cdv, ct, osl, _, look, _⟩ := F.ex
  obtain ⟨fd', ⟨oc', od', osl', look'⟩, G, _⟩ := O
  rw [look] at look'
  cases look'
  exact G
end My

namespace My
open PySem PySem.Spec PyProof.Rows L2 Evl
variable {K : PySem.W.Frag} {σ : L2.St} {H H0 : Hp} {ta tb te tc tl : TE} {p : Addr} {m n k : Nat} {D : Ends} {tz : TS}
/-! ### a law's pot of draws: a list of three ints at p, c the number of draws behind its own digits -/
def PotAt (p : Addr) (m : Nat) (H : Hp) : Prop := ∃ a b c : Nat, H p = some (.lst [.int a, .int b, .int c]) ∧ b < 2 ^ 61 ∧ c ≤ m
theorem exgo {H' : Hp} (e : Ex H H') : Go p H H' := fun a o _ h => e a o h
theorem PotAt.mono (h : PotAt p m H) (e : m ≤ n) : PotAt p n H := by
  obtain ⟨a, b, c, h1, h2, h3⟩ := h
  exact ⟨a, b, c, h1, h2, Nat.le_trans h3 e⟩
theorem PotAt.ex {H' : Hp} (h : PotAt p m H) (e : Ex H H') : PotAt p m H' := by
  obtain ⟨a, b, c, h1, h2, h3⟩ := h
  exact ⟨a, b, c, e _ _ h1, h2, h3⟩
theorem PotAt.dp {H' : Hp} (h : PotAt p m H) (g : Go p H H') {v : V} {d : PyData} (hd : Dq K H v d) (hi : imm d = true) : Dq K H' v d := by
  obtain ⟨a, b, c, h1, _⟩ := h
  exact Dq_go hd g h1 hi
theorem PotAt.dpa {H' : Hp} (h : PotAt p m H) (g : Go p H H') {vs : List V} {ds : List PyData} (hd : DqAll K H vs ds) (hi : immAll ds = true) : DqAll K H' vs ds := by
  obtain ⟨a, b, c, h1, _⟩ := h
  exact dpa_go g h1 ds vs hi hd
def EG (K : PySem.W.Frag) (p : Addr) (te : TE) (σ : L2.St) (H0 : Hp) (m n : Nat) (R : PyData → Prop) : Prop := ∀ H, Go p H0 H → PotAt p m H → ∀ Q : VK, (∀ v H' d, Go p H H' → PotAt p n H' → R d → Dq K H' v d → Q v H') → te σ H Q
def EGA (K : PySem.W.Frag) (p : Addr) (ta : TA) (σ : L2.St) (H0 : Hp) (m n : Nat) (R : List PyData → Prop) : Prop := ∀ H, Go p H0 H → PotAt p m H → ∀ Q : List V → Hp → Prop, (∀ vs H' ds, Go p H H' → PotAt p n H' → R ds → DqAll K H' vs ds → Q vs H') → ta σ H Q
variable {R S : PyData → Prop}
theorem eg_mono (h : EG K p te σ H0 m n R) (hs : ∀ d, R d → S d) : EG K p te σ H0 m n S := fun H g hp Q q => h H g hp Q fun v H' d a b c e => q v H' d a b (hs d c) e
theorem eg_wk (h : EG K p te σ H0 m n R) (hn : n ≤ k) : EG K p te σ H0 m k R := fun H g hp Q q => h H g hp Q fun v H' d a b c e => q v H' d a (b.mono hn) c e
theorem eg_ed {d : PyData} (h : ∀ H, Go p H0 H → ED K te σ H d) : EG K p te σ H0 m m (fun x => x = d) := fun H g hp Q q =>
  h H g H (Ex.refl H) Q fun v H' e hv => q v H' d (exgo e) (hp.ex e) rfl hv
theorem eg_i {i : Int} : EG K p (tC (.int i)) σ H0 m m (fun x => x = .int i) := eg_ed fun _ _ => ed_i
theorem eg_s {x : Str} : EG K p (tC (.str x)) σ H0 m m (fun d => d = .str x) := eg_ed fun _ _ => ed_s
theorem eg_var {i : Nat} {v : V} {d : PyData} {m0 : Nat} (hp : PotAt p m0 H0) (h : σ[i]? = some (some v)) (hd : Dq K H0 v d) (hi : imm d = true) : EG K p (tVar i) σ H0 m m (fun x => x = d) := eg_ed fun _ g => ed_var h (hp.dp g hd hi)
theorem ega_nil : EGA K p tNil σ H0 m m (fun ds => ds = []) := fun H g hp Q q => q [] H [] (Go.refl H) hp rfl .nil
theorem ega_cons {tr : TA} {R2 : List PyData → Prop} (h : EG K p te σ H0 m n R) (hr : EGA K p tr σ H0 n k R2) (hi : ∀ d, R d → imm d = true) : EGA K p (tCons te tr) σ H0 m k (fun ds => ∃ d es, ds = d :: es ∧ R d ∧ R2 es) := fun H g hp Q q =>
  h H g hp _ fun v H1 d g1 hp1 hd hv => hr H1 (g.trans g1) hp1 _ fun vs H2 es g2 hp2 hes hvs => q (v :: vs) H2 (d :: es) (g1.trans g2) hp2 ⟨d, es, rfl, hd, hes⟩ (.cons (hp1.dp g2 hv (hi d hd)) hvs)
theorem ega_ea {ta : TA} {ds : List PyData} (h : ∀ H, Go p H0 H → EA K ta σ H ds) : EGA K p ta σ H0 m m (fun es => es = ds) := fun H g hp Q q =>
  h H g H (Ex.refl H) Q fun vs H' e hv => q vs H' ds (exgo e) (hp.ex e) rfl hv
theorem ega_mono {ta : TA} {R2 S2 : List PyData → Prop} (h : EGA K p ta σ H0 m n R2) (hs : ∀ d, R2 d → S2 d) : EGA K p ta σ H0 m n S2 := fun H g hp Q q => h H g hp Q fun v H' d a b c e => q v H' d a b (hs d c) e
/-- all alike -/
def AllP (k : Nat) (P : PyData → Prop) (ds : List PyData) : Prop := ds.length = k ∧ ∀ d ∈ ds, P d
theorem ega_nilP {P : PyData → Prop} : EGA K p tNil σ H0 m m (AllP 0 P) := ega_mono ega_nil fun ds e => by subst e; exact ⟨rfl, fun d h => by cases h⟩
theorem ega_consP {tr : TA} {P : PyData → Prop} {j : Nat} (h : EG K p te σ H0 m n P) (hr : EGA K p tr σ H0 n k (AllP j P)) (hi : ∀ d, P d → imm d = true) : EGA K p (tCons te tr) σ H0 m k (AllP (j + 1) P) := ega_mono (ega_cons h hr hi) fun ds ⟨d, es, e, h1, h2⟩ => by
  subst e
  refine ⟨by rw [List.length_cons, h2.1], fun x hx => ?_⟩
  rcases List.mem_cons.mp hx with rfl | hx
  · exact h1
  · exact h2.2 x hx
theorem eg_op {r : R2} {R1 R2' : PyData → Prop} (ha : EG K p ta σ H0 m n R1) (hb : EG K p tb σ H0 n k R2') (hi : ∀ d, R1 d → imm d = true) (hr : ∀ x y, R1 x → R2' y → ∃ z, RD K r x y z ∧ S z) : EG K p (tOp r ta tb) σ H0 m k S := fun H g hp Q q =>
  ha H g hp _ fun x H1 dx g1 hp1 hx vx => hb H1 (g.trans g1) hp1 _ fun y H2 dy g2 hp2 hy vy => by
    obtain ⟨z, hz, sz⟩ := hr dx dy hx hy
    exact hz H2 x y (hp1.dp g2 vx (hi dx hx)) vy Q fun v H3 e3 hv => q v H3 z ((g1.trans g2).trans (exgo e3)) (hp2.ex e3) sz hv
theorem eg_tup {ta : TA} {R2 : List PyData → Prop} (h : EGA K p ta σ H0 m n R2) (hl : ∀ ds, R2 ds → ds.length ≤ 100000) : EG K p (tTupF ta) σ H0 m n (fun d => ∃ ds, d = .tuple ds ∧ R2 ds) := fun H g hp Q q =>
  h H g hp _ fun vs H1 ds g1 hp1 hr hv => ⟨sz_of (by rw [dpa_len hv]; exact hl ds hr), fun a o ha ho => q _ _ _ (g1.trans (exgo (Ex.new ha))) (hp1.ex (Ex.new ha)) ⟨ds, rfl, hr⟩ (.tup (plt_new ho) (DqAll_ex hv (Ex.new ha)))⟩
theorem eg_cb {ta : TA} {R2 : List PyData → Prop} {r : List V → Hp → VK → Prop} (h : EGA K p ta σ H0 m n R2) (hr : ∀ ds, R2 ds → ∃ z, RB K r ds z ∧ S z) : EG K p (tCB r ta) σ H0 m n S := fun H g hp Q q =>
  h H g hp _ fun vs H1 ds g1 hp1 hds hv => by
    obtain ⟨z, hz, sz⟩ := hr ds hds
    exact hz H1 vs hv Q fun v H2 e2 hv2 => q v H2 z (g1.trans (exgo e2)) (hp1.ex e2) sz hv2
theorem eg_call {ta : TA} {R2 : List PyData → Prop} {N : Nat} {R' : List PyData → PyData → Prop} {E : XK} (h : EGA K p ta σ H0 m n R2) (hr : ∀ ds, R2 ds → ds.length = N ∧ ∃ z, R' ds z ∧ S z) : EG K p (tCall (spR K N R') [] E ta) σ H0 m n S := fun H g hp Q q =>
  h H g hp _ fun vs H1 ds g1 hp1 hds hv => by
    obtain ⟨hl, z, hz, sz⟩ := hr ds hds
    exact ⟨ds, z, hl, by rw [List.append_nil]; exact hv, hz, fun v H2 e2 hv2 => q v H2 z (g1.trans (exgo e2)) (hp1.ex e2) sz hv2⟩
/-- a def that draws from the pot: k draws at most -/
def spP (K : PySem.W.Frag) (N k : Nat) (Pre : List PyData → Prop) (Post : List PyData → PyData → Prop) : Sp := fun vs H Q _ => ∃ p m ds ws, vs = .ref p :: ws ∧ ds.length = N ∧ PotAt p m H ∧ m + k ≤ 1000000 ∧ DqAll K H ws ds ∧ immAll ds = true ∧ Pre ds ∧
  ∀ v H' d, Go p H H' → PotAt p (m + k) H' → Post ds d → Dq K H' v d → Q v H'
theorem len_spP {N k : Nat} {Pre : List PyData → Prop} {Post : List PyData → PyData → Prop} {vs : List V} {Q : VK} {E : XK} (h : spP K N k Pre Post vs H Q E) : vs.length = N + 1 := by
  obtain ⟨p, m, ds, ws, rfl, hl, _, _, hd, _⟩ := h
  rw [List.length_cons, dpa_len hd, hl]
theorem eg_pcall {ta : TA} {R2 : List PyData → Prop} {N : Nat} {Pre : List PyData → Prop} {Post : List PyData → PyData → Prop} {E : XK} {i : Nat} (hi : σ[i]? = some (some (.ref p))) (h : EGA K p ta σ H0 m n R2) (hk : n + k ≤ 1000000) (hr : ∀ ds, R2 ds → ds.length = N ∧ immAll ds = true ∧ Pre ds) :
    EG K p (tCall (spP K N k Pre Post) [] E (tCons (tVar i) ta)) σ H0 m (n + k) (fun d => ∃ ds, R2 ds ∧ Post ds d) := fun H g hp Q q =>
  ⟨_, hi, h H g hp _ fun vs H1 ds g1 hp1 hds hv => by
    obtain ⟨h1, h2, h3⟩ := hr ds hds
    exact ⟨p, n, ds, vs, by rw [List.append_nil], h1, hp1, hk, hv, h2, h3, fun v H2 d g2 hp2 hd hv2 => q v H2 d (g1.trans g2) hp2 ⟨ds, hds, hd⟩ hv2⟩⟩
/-! statements -/
theorem q_asgG {i : Nat} (hp : PotAt p m H) (h : EG K p te σ H m n R) (kk : ∀ v H1 d, Go p H H1 → PotAt p n H1 → R d → Dq K H1 v d → tz D (σ.set i (some v)) H1) : tSeq (tAsg te (gName i)) tz D σ H := h H (Go.refl H) hp _ fun v H1 d g hp1 hd hv => kk v H1 d g hp1 hd hv
theorem s_asgG {i : Nat} (hp : PotAt p m H) (h : EG K p te σ H m n R) (kk : ∀ v H1 d, Go p H H1 → PotAt p n H1 → R d → Dq K H1 v d → D.nx (σ.set i (some v)) H1) : tAsg te (gName i) D σ H := h H (Go.refl H) hp _ fun v H1 d g hp1 hd hv => kk v H1 d g hp1 hd hv
theorem s_retG (hp : PotAt p m H) (h : EG K p te σ H m n R) (kk : ∀ v H1 d, Go p H H1 → PotAt p n H1 → R d → Dq K H1 v d → D.rt v H1) : tRet te D σ H := h H (Go.refl H) hp _ kk
/-! ### the law's own takings -/
def preTake (ds : List PyData) : Prop := ∃ u : Nat, ds = [.int u] ∧ 1 ≤ u ∧ u < 2 ^ 64
def postTake (ds : List PyData) (d : PyData) : Prop := ∃ u x : Nat, ds = [.int u] ∧ d = .int x ∧ x < u
abbrev spTake (K : PySem.W.Frag) : Sp := spP K 1 1 preTake postTake
/-- some[take(pot, len(some))] -/
def spOf (K : PySem.W.Frag) : Sp := fun vs H Q _ => ∃ p q m xs ds, vs = [.ref p, .ref q] ∧ PotAt p m H ∧ m + 1 ≤ 1000000 ∧ FqL K H q xs ∧ DqAll K H xs ds ∧ immAll ds = true ∧ 1 ≤ ds.length ∧ ds.length ≤ 100000 ∧
  ∀ v H' d, Go p H H' → PotAt p (m + 1) H' → d ∈ ds → Dq K H' v d → Q v H'
theorem len_spOf {vs : List V} {Q : VK} {E : XK} (h : spOf K vs H Q E) : vs.length = 2 := by
  obtain ⟨p, q, m, xs, ds, rfl, _⟩ := h
  rfl
theorem immAll_of {ds : List PyData} (h : ∀ d ∈ ds, imm d = true) : immAll ds = true := by
  have := immAll_map (g := fun d : PyData => d) h
  rw [List.map_id'] at this
  exact this
theorem eg_of {ta : TA} {R2 : List PyData → Prop} {E : XK} {i : Nat} (hi : σ[i]? = some (some (.ref p))) (h : EGA K p ta σ H0 m n R2) (hk : n + 1 ≤ 1000000) (hr : ∀ ds, R2 ds → (∀ d ∈ ds, imm d = true) ∧ 1 ≤ ds.length ∧ ds.length ≤ 100000) :
    EG K p (tCall (spOf K) [] E (tCons (tVar i) (tCons (tFrz (tLst ta)) tNil))) σ H0 m (n + 1) (fun d => ∃ ds, R2 ds ∧ d ∈ ds) := fun H g hp Q q =>
  ⟨_, hi, h H g hp _ fun vs H1 ds g1 hp1 hds hv => by
    obtain ⟨h1, h2, h3⟩ := hr ds hds
    refine ⟨sz_of (by rw [dpa_len hv]; exact h3), fun a ha => ?_⟩
    have ne : a ≠ p := by
      rintro rfl
      obtain ⟨_, _, _, z, _⟩ := hp1
      rw [z] at ha; cases ha
    refine ⟨a, _, rfl, upd_same, trivial, fun od => ⟨p, a, n, vs, ds, rfl, ?_, hk, .inl ⟨od, upd_same⟩, ?_, immAll_of h1, h2, h3, fun v H2 d g2 hp2 hd hv2 => q v H2 d ((g1.trans (exgo (Ex.mut (Ex.new ha) ha))).trans g2) hp2 ⟨ds, hds, hd⟩ hv2⟩⟩
    · exact hp1.ex (Ex.mut (Ex.new ha) ha)
    · exact DqAll_ex hv (Ex.mut (Ex.new ha) ha)⟩
theorem ev_ed {i : Int} (h : ED K te σ H (.int i)) : Ev te σ H (.int i) := fun H1 e1 Q q => h H1 e1 _ fun v H2 e2 hv => by
  cases hv
  exact q H2 e2
theorem dp_pot {a b c : Nat} (h : H p = some (.lst [.int a, .int b, .int c])) {i : Nat} (hi : σ[i]? = some (some (.ref p))) : EM K (tVar i) σ H [.int a, .int b, .int c] := em_var hi h (.cons (.int _) (.cons (.int _) (.cons (.int _) .nil)))
theorem go_upd {o : HO} : Go p H (upd H p o) := fun a u n e => by rw [upd_ne n]; exact e
theorem rb_lenL {ds : List PyData} (hl : ds.length ≤ 100000) : RB K (rLenD K) [.list ds] (.int ds.length) := fun H vs hv Q q => by
  obtain ⟨v, rfl, hd⟩ := dpa1 hv
  cases hd with
  | lst hs ha => exact ⟨_, ds.length, rfl, .inl ⟨_, hs.sq, (dpa_len ha).symm⟩, q _ H (Ex.refl H) (.int _)⟩
/-! ### powers of any size -/
def CPowW (i j : Int) : Prop := 0 ≤ j ∧ (Builtin.Int.intBits i : Int) * j ≤ 2 ^ 27
section
variable {X : Cx}
theorem op_powW : OpR X (binaryOp .Pow) (rI CPowW fun i j => .int (i ^ j.toNat)) := opI fun _ _ _ _ _ _ _ hc q => pow_int hc.1 hc.2 q
end
theorem rd_powW {i : Int} {j b : Nat} (h : i.natAbs < 2 ^ b) (hb : b * j ≤ 134217728) : RD K (rI CPowW fun i j => .int (i ^ j.toNat)) (.int i) (.int (j : Int)) (.int (i ^ j)) := rd_I ⟨Int.natCast_nonneg j, by
  have h1 := intBits_le h
  have h2 : Builtin.Int.intBits i * j ≤ b * j := Nat.mul_le_mul_right j h1
  have h3 : ((Builtin.Int.intBits i * j : Nat) : Int) ≤ 134217728 := by omega
  rw [Int.natCast_mul] at h3
  exact h3⟩ fun _ => by
  rw [Int.toNat_natCast]
  exact .int _
/-- a new pot -/
def spPot (K : PySem.W.Frag) : Sp := fun vs H Q _ => ∃ (a : Addr) (ns : List Int) (n : Nat), vs = [.ref a, .int n] ∧ FqL K H a (ns.map V.int) ∧ ns.length ≤ 64 ∧ n ≤ 64 ∧ ∀ p H', H p = none → Ex H H' → PotAt p 0 H' → Q (.ref p) H'
theorem len_spPot {vs : List V} {Q : VK} {E : XK} (h : spPot K vs H Q E) : vs.length = 2 := by
  obtain ⟨a, ns, n, rfl, _⟩ := h
  rfl
theorem rd_pow {i : Int} {j : Int} (h : CPow i j) : RD K (rI CPow fun i j => .int (i ^ j.toNat)) (.int i) (.int j) (.int (i ^ j.toNat)) := rd_I h fun _ => .int _
theorem mod_nat (X : Int) {u : Nat} (h : 1 ≤ u) : ∃ x : Nat, X % (u : Int) = (x : Int) ∧ x < u := by
  have h1 : 0 ≤ X % (u : Int) := Int.emod_nonneg _ (by omega)
  have h2 : X % (u : Int) < (u : Int) := Int.emod_lt_of_pos _ (by omega)
  exact ⟨(X % (u : Int)).toNat, by omega, by omega⟩
theorem mod_int (X : Int) {u : Int} (h : 0 < u) : ∃ x : Nat, X % u = (x : Int) ∧ (x : Int) < u := by
  have h1 : 0 ≤ X % u := Int.emod_nonneg _ (by omega)
  have h2 : X % u < u := Int.emod_lt_of_pos _ h
  exact ⟨(X % u).toNat, by omega, by omega⟩
theorem sq_le {c : Nat} (h : c ≤ 1000001) {A : Int} (a0 : 0 ≤ A) (a1 : A ≤ 1000000) : 0 ≤ A * (c : Int) ∧ A * (c : Int) ≤ 1000001000000 ∧ 0 ≤ A * (c : Int) * (c : Int) ∧ A * (c : Int) * (c : Int) ≤ 1000002000001000000 := by
  have c0 : (0 : Int) ≤ (c : Int) := Int.natCast_nonneg _
  have c1 : (c : Int) ≤ 1000001 := by omega
  have h1 : 0 ≤ A * (c : Int) := Int.mul_nonneg a0 c0
  have h2 : A * (c : Int) ≤ 1000000 * 1000001 := Int.mul_le_mul a1 c1 c0 (by decide)
  have h3 : A * (c : Int) * (c : Int) ≤ (1000000 * 1000001) * 1000001 := Int.mul_le_mul h2 c1 c0 (by decide)
  exact ⟨h1, by omega, Int.mul_nonneg h1 c0, by omega⟩
/-- the pot behind a draw -/
theorem pot_set {H2 H3 : Hp} {a b c a' b' c' : Nat} (g : Go p H H2) (h2 : H2 p = some (.lst [.int a, .int b, .int c])) (e : Ex (upd H2 p (.lst [.int a', .int b', .int c'])) H3) (hb : b' < 2 ^ 61) (hc : c' ≤ n) : Go p H H3 ∧ PotAt p n H3 :=
  ⟨(g.trans go_upd).trans (exgo e), a', b', c', e _ _ upd_same, hb, hc⟩
def primes5 : List Int := [2147483647, 2147483629, 2147483587, 2147483579, 2147483563]
theorem prime5 (c : Nat) : ∃ P : Int, ([.int 2147483647, .int 2147483629, .int 2147483587, .int 2147483579, .int 2147483563] : List PyData)[c % 5]? = some (.int P) ∧ 0 < P ∧ P < 2147483648 := by
  have : c % 5 = 0 ∨ c % 5 = 1 ∨ c % 5 = 2 ∨ c % 5 = 3 ∨ c % 5 = 4 := by omega
  rcases this with h | h | h | h | h <;> rw [h]
  · exact ⟨2147483647, rfl, by decide, by decide⟩
  · exact ⟨2147483629, rfl, by decide, by decide⟩
  · exact ⟨2147483587, rfl, by decide, by decide⟩
  · exact ⟨2147483579, rfl, by decide, by decide⟩
  · exact ⟨2147483563, rfl, by decide, by decide⟩
theorem big_mod : ((10 : Int) ^ 60) ^ 5 < 2 ^ 1000 ∧ 0 < ((10 : Int) ^ 60) ^ 5 := by decide +kernel
theorem sq_mul1 {c : Nat} (h : c ≤ 1000001) {A : Int} (a0 : 0 ≤ A) (a1 : A ≤ 1000000) : CMulX A (c : Int) := mulx_ok (a := 64) (b := 64) (by omega) (by show c < _; omega) (by decide)
theorem sq_mul2 {c : Nat} (h : c ≤ 1000001) {A : Int} (a0 : 0 ≤ A) (a1 : A ≤ 1000000) : CMulX (A * (c : Int)) (c : Int) := by
  have s := sq_le h a0 a1
  exact mulx_ok (a := 64) (b := 64) (by omega) (by show c < _; omega) (by decide)
theorem sq_pow {b c : Nat} (hb : b < 2 ^ 61) (h : c ≤ 1000001) {A B : Int} (a0 : 0 ≤ A) (a1 : A ≤ 1000000) (b0 : 0 ≤ B) (b1 : B ≤ 1000000) : CPow ((b : Int) + A * (c : Int) * (c : Int) + B) 3 := by
  have s := sq_le h a0 a1
  exact ⟨by decide, by decide, by omega⟩
theorem last_mul {t : Int} {c : Nat} (h : c ≤ 1000001) (t0 : 0 ≤ t) (t1 : t < 2147483648) {A B : Int} (a0 : 0 < A) (a1 : A ≤ 1000000) (b0 : 0 ≤ B) (b1 : B ≤ 1000000) : CMulX t (t % A + B * (c : Int)) := by
  have s := sq_le h b0 b1
  have m1 := Int.emod_nonneg t (show A ≠ 0 by omega)
  have m2 := Int.emod_lt_of_pos t a0
  exact mulx_ok (a := 64) (b := 64) (by omega) (by omega) (by decide)
variable {P : Int → Prop}
theorem q_asgI {j : Nat} (h : ∃ i, P i ∧ ED K te σ H (.int i)) (kk : ∀ i, P i → ∀ H1, Ex H H1 → tz D (σ.set j (some (.int i))) H1) : tSeq (tAsg te (gName j)) tz D σ H := by
  obtain ⟨i, hp, hd⟩ := h
  exact hd H (Ex.refl H) _ fun v H1 e1 hv => by
    cases hv
    exact kk i hp H1 e1
theorem s_asgI {j : Nat} (h : ∃ i, P i ∧ ED K te σ H (.int i)) (kk : ∀ i, P i → ∀ H1, Ex H H1 → D.nx (σ.set j (some (.int i))) H1) : tAsg te (gName j) D σ H := by
  obtain ⟨i, hp, hd⟩ := h
  exact hd H (Ex.refl H) _ fun v H1 e1 hv => by
    cases hv
    exact kk i hp H1 e1
theorem s_retI (h : ∃ i, P i ∧ ED K te σ H (.int i)) (kk : ∀ i, P i → ∀ H1, Ex H H1 → D.rt (.int i) H1) : tRet te D σ H := by
  obtain ⟨i, hp, hd⟩ := h
  exact hd H (Ex.refl H) _ fun v H1 e1 hv => by
    cases hv
    exact kk i hp H1 e1
theorem mod_in (X : Int) {u : Int} (h : 0 < u) : 0 ≤ X % u ∧ X % u < u := ⟨Int.emod_nonneg _ (by omega), Int.emod_lt_of_pos _ h⟩
theorem dpa_take : ∀ {vs : List V} {ds : List PyData} {j : Nat}, DqAll K H vs ds → DqAll K H (vs.take j) (ds.take j)
  | _, _, _, .nil => by rw [List.take_nil, List.take_nil]; exact .nil
  | _, _, 0, .cons _ _ => .nil
  | _, _, j + 1, .cons h1 h2 => .cons h1 (dpa_take h2)
theorem s_retNL {ta : TA} {a c : Int} (h : ∃ b : Int, (0 ≤ b ∧ b < 2305843009213693952) ∧ EA K ta σ H [.int a, .int b, .int c]) (a0 : 0 ≤ a) (c0 : c = 0) (kk : ∀ p H1, H p = none → Ex H H1 → PotAt p 0 H1 → D.rt (.ref p) H1) : tRet (tLst ta) D σ H := by
  obtain ⟨b, hb, h⟩ := h
  refine h H (Ex.refl H) _ fun vs H1 e1 hv => ?_
  obtain ⟨u, v, w, rfl, h1, h2, h3⟩ := dpa3 hv
  cases h1; cases h2; cases h3
  refine ⟨sz_of (by show 3 ≤ 100000; decide), fun p hp => kk p _ (none_of_ex e1 hp) (e1.trans (Ex.new hp)) ⟨a.toNat, b.toNat, 0, ?_, by omega, Nat.le_refl _⟩⟩
  rw [show ((a.toNat : Nat) : Int) = a by omega, show ((b.toNat : Nat) : Int) = b by omega, show ((0 : Nat) : Int) = c from c0.symm]
  exact upd_same
/-- x[:k] of a list of data -/
theorem ed_takeL {ds : List PyData} {j : Nat} (h : ED K te σ H (.list ds)) : ED K (tFrz (tSl (rSlL K) te tNoPart (tPart (tC (.int (j : Int)))))) σ H (.list (ds.take j)) := fun H1 e1 Q q =>
  h H1 e1 _ fun v H2 e2 hv => by
    cases hv with
    | lst hs ha =>
      rename_i a xs
      refine ⟨_, rfl, a, xs, rfl, hs.sq, fun r hr => frz_done e2 hr (Ex.new hr) upd_same ?_ q⟩
      have hl := dpa_len ha
      have e : cutV xs none (some (j : Int)) = xs.take j := by
        unfold cutV
        rw [HT.sIx_none, HT.sIx_nat, List.drop_zero, Nat.sub_zero, ← List.take_eq_take_min]
      rw [e]
      exact DqAll_ex (dpa_take ha) (Ex.new hr)
theorem abs_lt {c M : Int} (h : 0 < M) : (c % M).natAbs < M.natAbs := by
  have := mod_in c h
  omega
theorem mod_61 (X : Int) : 0 ≤ X % 2305843009213693921 ∧ X % 2305843009213693921 < 2305843009213693952 := by
  have := mod_in X (u := 2305843009213693921) (by decide)
  exact ⟨this.1, by omega⟩
end My

namespace My
open PySem PySem.Spec PyProof.Rows L2 Evl
variable {K : PySem.W.Frag} {σ : L2.St} {H H0 : Hp} {ta tb te tc tl td : TE}
/-! ### texts of numbers -/
def decI (i : Int) : Str := Str.ofString (toString i)
theorem len_ofString (s : String) : (Str.ofString s).length = s.length := PyProof.Rows.ofString_length s
theorem len_decI {i : Int} {k : Nat} (hk : 0 < k) (h : i.natAbs < 2 ^ k) : (decI i).length ≤ k + 1 := by
  unfold decI
  rw [len_ofString]
  cases i with
  | ofNat m =>
    have := PySem.nat_repr_length_le hk (show m < 2 ^ k from h)
    show (Nat.repr m).length ≤ k + 1
    omega
  | negSucc m =>
    have := PySem.nat_repr_length_le hk (show m + 1 < 2 ^ k from h)
    show ("-" ++ Nat.repr (m + 1)).length ≤ k + 1
    rw [String.length_append]
    have : "-".length = 1 := rfl
    omega
def fracText (q : Rat) : Str := if q.den = 1 then decI q.num else decI q.num ++ Str.ofString "/" ++ decI q.den
theorem len_fracText {q : Rat} {k : Nat} (hk : 0 < k) (h : Sm k q) : (fracText q).length ≤ 2 * k + 3 := by
  have a := len_decI hk h.1
  have b := len_decI (i := (q.den : Int)) hk h.2
  unfold fracText
  split
  · omega
  · rw [PySem.Str.length_append, PySem.Str.length_append]
    have : (Str.ofString "/").length = 1 := rfl
    omega
theorem log2_of {i : Int} {k : Nat} (h : i.natAbs < 2 ^ k) (hk : 0 < k) : i.natAbs.log2 < k := PySem.Flt.log2_lt_of hk h
theorem rb_str {i : Int} (h : i.natAbs.log2 < 1920) : RB K (fun xs H Q => ∃ i, xs = [.int i] ∧ i.natAbs.log2 < 1920 ∧ Q (.str (toString i)) H) [.int i] (.str (decI i)) := fun H vs hv Q q => by
  obtain ⟨v, rfl, hd⟩ := dpa1 hv
  cases hd
  exact ⟨i, rfl, h, q _ H (Ex.refl H) (.str _)⟩
theorem rd_cat {x y : Str} (h : x.length + y.length ≤ 100000) : RD K (fun x y H Q => ∃ i j, x = .str i ∧ y = .str j ∧ i.length + j.length ≤ sizeLine ∧ Q (.str (i ++ j)) H) (.str x) (.str y) (.str (x ++ y)) := fun H v w hv hw Q q => by
  cases hv; cases hw
  exact ⟨x, y, rfl, rfl, sz_of h, q _ H (Ex.refl H) (.str _)⟩
def rFracText (ds : List PyData) (d : PyData) : Prop := ∃ q, ds = [eF q] ∧ Sm 1000 q ∧ d = .str (fracText q)
abbrev spFracText (K : PySem.W.Frag) : Sp := spR K 1 rFracText
/-! ### a law's own products -/
def rLTimes (ds : List PyData) (d : PyData) : Prop := ∃ a b, ds = [eN a, eN b] ∧ Can a ∧ Can b ∧ SmN 1900 a ∧ SmN 1900 b ∧ d = eN (nmul a b)
abbrev spLTimes (K : PySem.W.Frag) : Sp := spR K 2 rLTimes
theorem ep_ltimes {a b : Num} {E : XK} (h1 : EP K ta σ H (eN a)) (h2 : ED K tb σ H (eN b)) (ca : Can a) (cb : Can b) (sa : SmN 1900 a) (sb : SmN 1900 b) : EP K (tCall (spLTimes K) [] E (tCons ta (tCons tb tNil))) σ H (eN (nmul a b)) :=
  ed_ep (ed_call (ea_cons h1.ed (ea_cons h2 ea_nil)) ⟨a, b, rfl, ca, cb, sa, sb, rfl⟩)
/-- sorted(primes(whole).items()) -/
def EPr (K : PySem.W.Frag) (te : TE) (σ : L2.St) (H : Hp) (L : List (Int × Int)) : Prop := ∀ H1, Ex H H1 → ∀ Q : VK, (∀ v H2, Ex H1 H2 → PrL K H2 v L → Q v H2) → te σ H1 Q
theorem epr_sortIt {L : List (Int × Int)} (h : EK K td σ H L) (ha : L.Pairwise fun a b => a.1 < b.1) : EPr K (tSortIt K td) σ H L := fun H1 e1 Q q =>
  h H1 e1 _ fun p H2 hp e2 h2 => ⟨p, L, rfl, .inl h2, ha, fun v H3 e3 hv => q v H3 (e2.trans e3) hv⟩
theorem nl_pairs {L : List (Int × Int)} {g : Int × Int → PyData} {i j : Nat} {vs : List Nat} (h : EPr K tl σ H L) (hz : L.length ≤ 40000) (him : ∀ x ∈ L, imm (g x) = true) (hw : ∀ a b, wipe (((wipe σ vs).set i (some a)).set j (some b)) vs = wipe σ vs)
    (turn : ∀ x ∈ L, ∀ H1, Ex H H1 → ED K te (((wipe σ vs).set i (some (.int x.1))).set j (some (.int x.2))) H1 (g x)) :
    NL K (tLc (iList K tl) (gTup K 2 (gCons (gName i) (gCons (gName j) gNil))) tYes te vs) σ H (L.map g) := fun H0 e0 Q q => h H0 e0 _ fun v H1 e1 hv => by
  obtain ⟨a, vals, rfl, hs, hlen, hall⟩ := hv
  refine ⟨a, rfl, ⟨vals, hs⟩, fun Dl hD => ?_⟩
  refine lc_list (K := K) (a := a) (xs := vals) (fun i H' => Cq K H1 Dl ((L.take i).map g) H') (cq_nil hD) (fun i H' _ p => ex_l p.2.1 hs) (fun i v H' hi p => ?_) (fun H' p => ?_)
  · have il : i < L.length := by rw [← hlen]; exact (List.getElem?_eq_some_iff.mp hi).1
    have hx : L[i]? = some (L[i]'il) := List.getElem?_eq_getElem il
    have hm := List.mem_of_getElem? hx
    generalize L[i]'il = x at hx hm
    obtain ⟨b, rfl, hb⟩ := hall i v x hi hx
    have hb' := ex_t p.2.1 hb
    refine ⟨_, _, rfl, hb', rfl, _, _, rfl, _, _, rfl, rfl, hw _ _, ?_⟩
    have key := cq_turn (K := K) (tt := tYes) (b := true) (z := g x) (te := te) (e0.trans e1) p (by rw [List.length_map, List.length_take]; omega) (fun H3 _ Q3 q3 => q3 H3 (Ex.refl H3))
      (fun _ => turn x hm H' ((e0.trans e1).trans p.2.1)) (fun _ => him x hm)
    rw [if_pos rfl] at key
    rw [List.take_succ, hx, List.map_append]
    exact key
  · obtain ⟨p1, p2, p3, acc, p4, p5⟩ := p
    rw [hlen, List.take_length] at p5
    exact q _ acc H' (none_of_ex e1 p1) (e1.trans p2) p4 p5
theorem el_pairs {L : List (Int × Int)} {g : Int × Int → PyData} {i j : Nat} {vs : List Nat} (h : EPr K tl σ H L) (hz : L.length ≤ 40000) (him : ∀ x ∈ L, imm (g x) = true) (hw : ∀ a b, wipe (((wipe σ vs).set i (some a)).set j (some b)) vs = wipe σ vs)
    (turn : ∀ x ∈ L, ∀ H1, Ex H H1 → ED K te (((wipe σ vs).set i (some (.int x.1))).set j (some (.int x.2))) H1 (g x)) :
    ED K (tFrz (tLc (iList K tl) (gTup K 2 (gCons (gName i) (gCons (gName j) gNil))) tYes te vs)) σ H (.list (L.map g)) := ed_frz (nl_pairs h hz him hw turn)
theorem ek_lprimes {n : Nat} {s : Int} {E : XK} {ta : TA} (h : EA K ta σ H [.int n, .int s]) (h1 : 1 ≤ n) (h2 : n ≤ 9999) : EK K (tCall (spLawPrimes K) [] E ta) σ H (sI s (fac n)) := fun H1 e1 Q q =>
  h H1 e1 _ fun vs H2 e2 hv => by
    obtain ⟨v, w, rfl, hd, hw⟩ := dpa2 hv
    cases hd; cases hw
    exact ⟨n, s, rfl, h1, h2, fun p H3 hp e3 h3 => q p H3 (none_of_ex e2 hp) (e2.trans e3) h3⟩
theorem asc_sI {n : Nat} (s : Int) (h : 1 ≤ n) : (sI s (fac n)).Pairwise fun a b => a.1 < b.1 := by
  unfold sI
  exact List.pairwise_map.mpr ((fac_is h).asc.imp fun {a b} q => Int.ofNat_lt.mpr q)
def nS (s : Int) (L : List (Nat × Nat)) : Num := L.map fun x => (x.1, ((s * (x.2 : Int) : Int) : Rat))
theorem eF_int (i : Int) : eF (i : Rat) = .tuple [.int i, .int 1] := by
  unfold eF
  rw [Rat.num_intCast, Rat.den_intCast]
  rfl
theorem nS_data (s : Int) (L : List (Nat × Nat)) : (sI s L).map (fun x => PyData.tuple [.int x.1, .tuple [.int x.2, .int 1]]) = (nS s L).map ePw := by
  unfold sI nS
  rw [List.map_map, List.map_map]
  apply List.map_congr_left
  intro x _
  show PyData.tuple [_, .tuple [.int (s * (x.2 : Int)), .int 1]] = PyData.tuple [_, eF _]
  rw [eF_int]
theorem ev_nS (s : Int) (L : List (Nat × Nat)) (p : Nat) : ev (nS s L) p = (s : Rat) * ev (nL L) p := by
  induction L with
  | nil => exact (Rat.mul_zero _).symm
  | cons x r ih =>
    show (if x.1 = p then ((s * (x.2 : Int) : Int) : Rat) else 0) + ev (nS s r) p = (s : Rat) * ((if x.1 = p then ((x.2 : Nat) : Rat) else 0) + ev (nL r) p)
    rw [ih, Rat.mul_add]
    split
    · rw [Rat.intCast_mul]
      rfl
    · rw [Rat.mul_zero]
theorem can_nS {n : Nat} {s : Int} (hs : s ≠ 0) (h1 : 1 ≤ n) (h2 : n ≤ 9999) : Can (nS s (fac n)) := ⟨List.pairwise_map.mpr (fac_is h1).asc, fun x hx => by
  obtain ⟨y, hy, rfl⟩ := List.mem_map.mp hx
  obtain ⟨a, b, c, d⟩ := fac_bound h1 h2 y hy
  refine ⟨b, fun z => ?_⟩
  have z : ((s * (y.2 : Int) : Int) : Rat) = 0 := z
  have z2 : ((s * (y.2 : Int) : Int) : Rat).num = 0 := by rw [z]; rfl
  rw [Rat.num_intCast] at z2
  rcases Int.mul_eq_zero.mp z2 with q | q
  · exact hs q
  · omega⟩
theorem sm_nS {n : Nat} {s : Int} (hs : s.natAbs = 1) (h1 : 1 ≤ n) (h2 : n ≤ 9999) : SmN 4 (nS s (fac n)) := fun x hx => by
  obtain ⟨y, hy, rfl⟩ := List.mem_map.mp hx
  obtain ⟨a, b, c, d⟩ := fac_bound h1 h2 y hy
  refine ⟨?_, ?_⟩
  · show ((s * (y.2 : Int) : Int) : Rat).num.natAbs < _
    rw [Rat.num_intCast, Int.natAbs_mul, hs, Nat.one_mul]
    omega
  · show ((s * (y.2 : Int) : Int) : Rat).den < _
    rw [Rat.den_intCast]
    decide
theorem nS_frac {t l : Nat} : nmul (nS 1 (fac t)) (nS (-1) (fac l)) = nfrac t l := by
  unfold nmul nfrac
  congr 1
  funext p
  rw [ev_nS, ev_nS]
  have : ((1 : Int) : Rat) = 1 := rfl
  have : (((-1) : Int) : Rat) = -1 := rfl
  grind
/-! ### the told fraction by the law's own powers -/
theorem told_up (L : PW) : prodL (L.map fun x => (x.1, (max x.2 0).toNat)) = prodL (upsOf L) ∧ prodL (L.map fun x => (x.1, (max (-x.2) 0).toNat)) = prodL (downsOf L) := by
  unfold upsOf downsOf
  induction L with
  | nil => exact ⟨rfl, rfl⟩
  | cons x r ih =>
    rw [List.filter_cons, List.filter_cons, List.map_cons, List.map_cons]
    constructor
    · show x.1 ^ (max x.2 0).toNat * prodL (r.map fun x => (x.1, (max x.2 0).toNat)) = _
      rw [ih.1]
      by_cases h : 0 < x.2
      · rw [if_pos (decide_eq_true h), show (max x.2 0).toNat = x.2.toNat by omega]
        rfl
      · rw [if_neg (by simpa using h), show (max x.2 0).toNat = 0 by omega, Nat.pow_zero, Nat.one_mul]
    · show x.1 ^ (max (-x.2) 0).toNat * prodL (r.map fun x => (x.1, (max (-x.2) 0).toNat)) = _
      rw [ih.2]
      by_cases h : x.2 < 0
      · rw [if_pos (decide_eq_true h), show (max (-x.2) 0).toNat = (-x.2).toNat by omega]
        rfl
      · rw [if_neg (by simpa using h), show (max (-x.2) 0).toNat = 0 by omega, Nat.pow_zero, Nat.one_mul]
variable {D : Ends} {tz : TS} {d : PyData}
theorem q_asgP {i : Nat} (h : EP K te σ H d) (k : ∀ v H1, Ex H H1 → Pl K H1 v d → tz D (σ.set i (some v)) H1) : tSeq (tAsg te (gName i)) tz D σ H := h H (Ex.refl H) _ fun v H1 e1 hv => k v H1 e1 hv
theorem q_par3 {i j l : Nat} {ta : TA} {x y z : PyData} (h : EA K ta σ H [x, y, z]) (k : ∀ u v w H1, Ex H H1 → Dq K H1 u x → Dq K H1 v y → Dq K H1 w z → tz D (((σ.set i (some u)).set j (some v)).set l (some w)) H1) : tSeq (tPar3 i j l ta) tz D σ H := h H (Ex.refl H) _ fun vs H1 e1 hv => by
  obtain ⟨u, v, w, rfl, h1, h2, h3⟩ := dpa3 hv
  exact ⟨u, v, w, rfl, k u v w H1 e1 h1 h2 h3⟩
theorem q_asg11 {i j : Nat} {x y : PyData} (h : ED K te σ H (.tuple [x, y])) (k : ∀ a b H1, Ex H H1 → Dq K H1 a x → Dq K H1 b y → tz D ((σ.set i (some a)).set j (some b)) H1) : tSeq (tAsg te (gTup K 2 (gCons (gName i) (gCons (gName j) gNil)))) tz D σ H := q_asg2D h k
/-- a law's own count of a whole number's powers -/
theorem mod_zI (a b : Nat) : decide ((a : Int) % (b : Int) = 0) = decide (a % b = 0) := decide_eq_decide.mpr (mod_z a b)
theorem eva_ed1 {i : Int} (h : ED K te σ H (.int i)) : EvA (tCons te tNil) σ H [.int i] := fun H1 e1 Q q => h H1 e1 _ fun v H2 e2 hv => by
  cases hv
  exact q H2 e2
theorem above_max (L : PW) : above (L.map fun x => (x.1, (max x.2 0).toNat)) ≤ bitsOf L ∧ above (L.map fun x => (x.1, (max (-x.2) 0).toNat)) ≤ bitsOf L := by
  unfold above bitsOf
  rw [List.map_map, List.map_map]
  induction L with
  | nil => exact ⟨Nat.le_refl _, Nat.le_refl _⟩
  | cons x r ih =>
    rw [List.map_cons, List.map_cons, List.map_cons, List.sum_cons, List.sum_cons, List.sum_cons]
    exact ⟨Nat.add_le_add (Nat.mul_le_mul_left _ (by show (max x.2 0).toNat ≤ x.2.natAbs; omega)) ih.1, Nat.add_le_add (Nat.mul_le_mul_left _ (by show (max (-x.2) 0).toNat ≤ x.2.natAbs; omega)) ih.2⟩
theorem bits_lt {m i : Nat} (h : i < Builtin.Int.intBits (m : Int)) : 2 ^ i ≤ m := by
  by_cases z : 2 ^ i ≤ m
  · exact z
  · have := intBits_le (a := (m : Int)) (k := i) (show m < 2 ^ i by omega)
    omega
theorem prod_lt6 {L : List (Nat × Nat)} (h : above L ≤ 4000000) (i : Nat) : prodL (L.take i) < 2 ^ 4000001 := Nat.lt_of_le_of_lt (Nat.le_trans prod_le (Nat.pow_le_pow_right (by decide) (Nat.le_trans (above_take L i) h))) (Nat.pow_lt_pow_right (by decide) (by decide))
theorem pow_lt6 {L : List (Nat × Nat)} (h : above L ≤ 4000000) {x : Nat × Nat} (hx : x ∈ L) : x.1 ^ x.2 < 2 ^ 4000001 := by
  have : x.1 ^ x.2 ≤ (2 ^ bl x.1) ^ x.2 := Nat.pow_le_pow_left (Nat.le_of_lt (lt_bl _)) _
  rw [← Nat.pow_mul] at this
  exact Nat.lt_of_le_of_lt (Nat.le_trans this (Nat.pow_le_pow_right (by decide) (Nat.le_trans (above_mem hx) h))) (Nat.pow_lt_pow_right (by decide) (by decide))
theorem step_mul {L : List (Nat × Nat)} (h : above L ≤ 4000000) {i : Nat} {x : Nat × Nat} (hx : L[i]? = some x) (h2 : 2 ≤ x.1 ∧ x.1 ≤ 9999) :
    x.2 ≤ 4000000 ∧ CMulX ((prodL (L.take i) : Nat) : Int) (((x.1 : Nat) : Int) ^ x.2) ∧ ((prodL (L.take i) : Nat) : Int) * ((x.1 : Nat) : Int) ^ x.2 = ((prodL (L.take (i + 1)) : Nat) : Int) := by
  have mx := List.mem_of_getElem? hx
  have b2 := above_mem mx
  have b3 := bl_pos (p := x.1) (by omega)
  have h3 : 1 * x.2 ≤ bl x.1 * x.2 := Nat.mul_le_mul_right _ b3
  refine ⟨by omega, ?_, ?_⟩
  · rw [← Int.natCast_pow]
    exact mulx_ok (a := 4000001) (b := 4000001) (prod_lt6 h i) (pow_lt6 h mx) (by decide)
  · rw [prod_step hx, Int.natCast_mul, Int.natCast_pow]
end My

namespace My
/-! ### products and sums over all small numbers -/
def prodR : Nat → (Nat → Nat) → Nat
  | 0, _ => 1
  | n + 1, f => prodR n f * f n
def sumR : Nat → (Nat → Nat) → Nat
  | 0, _ => 0
  | n + 1, f => sumR n f + f n
theorem prodR_congr {f g : Nat → Nat} : ∀ {n : Nat}, (∀ p, p < n → f p = g p) → prodR n f = prodR n g
  | 0, _ => rfl
  | n + 1, h => by
    show prodR n f * f n = prodR n g * g n
    rw [prodR_congr fun p hp => h p (by omega), h n (by omega)]
theorem prodR_mul {f g : Nat → Nat} : ∀ (n : Nat), prodR n (fun p => f p * g p) = prodR n f * prodR n g
  | 0 => rfl
  | n + 1 => by
    show prodR n _ * (f n * g n) = prodR n f * f n * (prodR n g * g n)
    rw [prodR_mul n, Nat.mul_assoc, Nat.mul_assoc, Nat.mul_left_comm (prodR n g)]
theorem prodR_one {f : Nat → Nat} : ∀ {n : Nat}, (∀ p, p < n → f p = 1) → prodR n f = 1
  | 0, _ => rfl
  | n + 1, h => by
    show prodR n f * f n = 1
    rw [prodR_one fun p hp => h p (by omega), h n (by omega)]
theorem prodR_pos {f : Nat → Nat} : ∀ {n : Nat}, (∀ p, p < n → 0 < f p) → 0 < prodR n f
  | 0, _ => Nat.one_pos
  | n + 1, h => Nat.mul_pos (prodR_pos fun p hp => h p (by omega)) (h n (by omega))
theorem prodR_single {f : Nat → Nat} {k : Nat} : ∀ {n : Nat}, k < n → (∀ p, p ≠ k → f p = 1) → prodR n f = f k
  | 0, h, _ => by omega
  | n + 1, h, h1 => by
    show prodR n f * f n = f k
    by_cases e : k = n
    · subst e
      rw [prodR_one fun p hp => h1 p (by omega), Nat.one_mul]
    · rw [prodR_single (by omega) h1, h1 n (by omega), Nat.mul_one]
theorem prodR_sq {f : Nat → Nat} {k : Nat} : ∀ (n : Nat), prodR n (fun p => f p ^ k) = prodR n f ^ k
  | 0 => (Nat.one_pow k).symm
  | n + 1 => by
    show prodR n _ * f n ^ k = (prodR n f * f n) ^ k
    rw [prodR_sq n, Nat.mul_pow]
theorem cop_prodR {f : Nat → Nat} {a : Nat} : ∀ {n : Nat}, (∀ p, p < n → Nat.Coprime (f p) a) → Nat.Coprime (prodR n f) a
  | 0, _ => Nat.gcd_one_left a
  | n + 1, h => Nat.Coprime.mul_left (cop_prodR fun p hp => h p (by omega)) (h n (by omega))
theorem cop_prodR2 {f g : Nat → Nat} {n : Nat} (h : ∀ p q, p < n → q < n → Nat.Coprime (f p) (g q)) : Nat.Coprime (prodR n f) (prodR n g) :=
  cop_prodR fun p hp => (cop_prodR fun q hq => (h p q hp hq).symm).symm
theorem sumR_le {f g : Nat → Nat} : ∀ {n : Nat}, (∀ p, p < n → f p ≤ g p) → sumR n f ≤ sumR n g
  | 0, _ => Nat.le_refl _
  | n + 1, h => Nat.add_le_add (sumR_le fun p hp => h p (by omega)) (h n (by omega))
theorem sumR_add {f g : Nat → Nat} : ∀ (n : Nat), sumR n (fun p => f p + g p) = sumR n f + sumR n g
  | 0 => rfl
  | n + 1 => by
    show sumR n _ + (f n + g n) = sumR n f + f n + (sumR n g + g n)
    rw [sumR_add n]; omega
theorem sumR_mul {f : Nat → Nat} (k : Nat) : ∀ (n : Nat), sumR n (fun p => k * f p) = k * sumR n f
  | 0 => rfl
  | n + 1 => by
    show sumR n _ + k * f n = k * (sumR n f + f n)
    rw [sumR_mul k n, Nat.mul_add]
theorem sumR_zero {f : Nat → Nat} : ∀ {n : Nat}, (∀ p, p < n → f p = 0) → sumR n f = 0
  | 0, _ => rfl
  | n + 1, h => by
    show sumR n f + f n = 0
    rw [sumR_zero fun p hp => h p (by omega), h n (by omega)]
theorem sumR_single {f : Nat → Nat} {k : Nat} : ∀ {n : Nat}, k < n → (∀ p, p ≠ k → f p = 0) → sumR n f = f k
  | 0, h, _ => by omega
  | n + 1, h, h1 => by
    show sumR n f + f n = f k
    by_cases e : k = n
    · subst e
      rw [sumR_zero fun p hp => h1 p (by omega), Nat.zero_add]
    · rw [sumR_single (by omega) h1, h1 n (by omega), Nat.add_zero]
theorem sumR_mem {f : Nat → Nat} {k : Nat} : ∀ {n : Nat}, k < n → f k ≤ sumR n f
  | 0, h => by omega
  | n + 1, h => by
    show f k ≤ sumR n f + f n
    by_cases e : k = n
    · subst e; omega
    · have := sumR_mem (f := f) (k := k) (n := n) (by omega)
      omega
/-- how often p stands in a list of powers -/
def mult : List (Nat × Nat) → Nat → Nat
  | [], _ => 0
  | x :: r, p => (if x.1 = p then x.2 else 0) + mult r p
theorem prodL_R {L : List (Nat × Nat)} {n : Nat} (h : ∀ x ∈ L, x.1 < n) : prodL L = prodR n fun p => p ^ mult L p := by
  induction L with
  | nil => exact (prodR_one fun p _ => rfl).symm
  | cons x r ih =>
    have hx := h x List.mem_cons_self
    have e : (prodR n fun p => p ^ mult (x :: r) p) = prodR n fun p => p ^ (if x.1 = p then x.2 else 0) * p ^ mult r p := prodR_congr fun p _ => by
      show p ^ ((if x.1 = p then x.2 else 0) + mult r p) = _
      rw [Nat.pow_add]
    rw [e, prodR_mul, ← ih fun y hy => h y (List.mem_cons_of_mem _ hy), prodR_single (k := x.1) hx fun p hp => by rw [if_neg (fun z => hp z.symm), Nat.pow_zero], if_pos rfl]
    rfl
theorem above_R {L : List (Nat × Nat)} {n : Nat} (h : ∀ x ∈ L, x.1 < n) : above L = sumR n fun p => bl p * mult L p := by
  induction L with
  | nil => exact (sumR_zero fun p _ => Nat.mul_zero _).symm
  | cons x r ih =>
    have hx := h x List.mem_cons_self
    have e : (sumR n fun p => bl p * mult (x :: r) p) = sumR n fun p => bl p * (if x.1 = p then x.2 else 0) + bl p * mult r p := by
      congr 1
      funext p
      show bl p * ((if x.1 = p then x.2 else 0) + mult r p) = _
      rw [Nat.mul_add]
    rw [e, sumR_add, ← ih fun y hy => h y (List.mem_cons_of_mem _ hy), sumR_single (k := x.1) hx fun p hp => by rw [if_neg (fun z => hp z.symm), Nat.mul_zero], if_pos rfl]
    rfl
theorem ev_nL (L : List (Nat × Nat)) (p : Nat) : ev (nL L) p = ((mult L p : Nat) : Rat) := by
  induction L with
  | nil => rfl
  | cons x r ih =>
    show (if x.1 = p then ((x.2 : Nat) : Rat) else 0) + ev (nL r) p = (((if x.1 = p then x.2 else 0) + mult r p : Nat) : Rat)
    rw [ih, Rat.natCast_add]
    split <;> rfl
/-! ### numbers told by all their powers -/
def upR (e : Nat → Rat) : Nat := prodR 10000 fun p => p ^ (e p).num.toNat
def dnR (e : Nat → Rat) : Nat := prodR 10000 fun p => p ^ (-(e p).num).toNat
theorem mult_ups {n : Num} (h : Asc n) (p : Nat) : mult (upsOf (numsL n)) p = (ev n p).num.toNat ∧ mult (downsOf (numsL n)) p = (-(ev n p).num).toNat := by
  induction n with
  | nil => exact ⟨rfl, rfl⟩
  | cons x r ih =>
    have h' := List.pairwise_cons.mp h
    obtain ⟨i1, i2⟩ := ih h'.2
    have hev : ev (x :: r) p = (if x.1 = p then x.2 else 0) + ev r p := rfl
    have hr : x.1 = p → ev r p = 0 := fun e => ev_none fun y hy => by have := h'.1 y hy; omega
    constructor
    · have e : mult (upsOf (numsL (x :: r))) p = (if x.1 = p then x.2.num.toNat else 0) + mult (upsOf (numsL r)) p := by
        unfold upsOf numsL
        rw [List.map_cons, List.filter_cons]
        by_cases z : 0 < x.2.num
        · rw [if_pos (by simpa using z)]; rfl
        · rw [if_neg (by simpa using z)]
          have : x.2.num.toNat = 0 := by omega
          rw [this]
          split <;> exact (Nat.zero_add _).symm
      rw [e, i1, hev]
      by_cases q : x.1 = p
      · rw [if_pos q, if_pos q, hr q, Rat.add_zero]
        rfl
      · rw [if_neg q, if_neg q, Rat.zero_add, Nat.zero_add]
    · have e : mult (downsOf (numsL (x :: r))) p = (if x.1 = p then (-x.2.num).toNat else 0) + mult (downsOf (numsL r)) p := by
        unfold downsOf numsL
        rw [List.map_cons, List.filter_cons]
        by_cases z : x.2.num < 0
        · rw [if_pos (by simpa using z)]; rfl
        · rw [if_neg (by simpa using z)]
          have : (-x.2.num).toNat = 0 := by omega
          rw [this]
          split <;> exact (Nat.zero_add _).symm
      rw [e, i2, hev]
      by_cases q : x.1 = p
      · rw [if_pos q, if_pos q, hr q, Rat.add_zero]
        rfl
      · rw [if_neg q, if_neg q, Rat.zero_add, Nat.zero_add]
theorem keys_ups {n : Num} (h : Can n) : (∀ x ∈ upsOf (numsL n), x.1 < 10000) ∧ ∀ x ∈ downsOf (numsL n), x.1 < 10000 := by
  constructor
  · intro x hx
    obtain ⟨y, hy, rfl⟩ := List.mem_map.mp hx
    obtain ⟨z, hz, rfl⟩ := List.mem_map.mp (List.mem_filter.mp hy).1
    have := (h.w z hz).1
    show z.1 < 10000
    omega
  · intro x hx
    obtain ⟨y, hy, rfl⟩ := List.mem_map.mp hx
    obtain ⟨z, hz, rfl⟩ := List.mem_map.mp (List.mem_filter.mp hy).1
    have := (h.w z hz).1
    show z.1 < 10000
    omega
theorem prod_ups {n : Num} (h : Can n) : prodL (upsOf (numsL n)) = upR (ev n) ∧ prodL (downsOf (numsL n)) = dnR (ev n) := by
  obtain ⟨k1, k2⟩ := keys_ups h
  constructor
  · rw [prodL_R k1]
    exact prodR_congr fun p _ => by rw [(mult_ups h.asc p).1]
  · rw [prodL_R k2]
    exact prodR_congr fun p _ => by rw [(mult_ups h.asc p).2]
/-- all powers whole -/
def IntN (e : Nat → Rat) : Prop := ∀ p, (e p).den = 1
theorem int_num {q : Rat} (h : q.den = 1) : q = (q.num : Rat) := by
  exact Rat.ext (Rat.num_intCast _).symm (h.trans (Rat.den_intCast _).symm)
theorem num_add {a b : Rat} (ha : a.den = 1) (hb : b.den = 1) : (a + b).num = a.num + b.num ∧ (a + b).den = 1 := by
  rw [int_num ha, int_num hb, ← Rat.intCast_add]
  exact ⟨Rat.num_intCast _, Rat.den_intCast _⟩
theorem num_sub {a b : Rat} (ha : a.den = 1) (hb : b.den = 1) : (a - b).num = a.num - b.num ∧ (a - b).den = 1 := by
  rw [int_num ha, int_num hb, ← Rat.intCast_sub]
  exact ⟨Rat.num_intCast _, Rat.den_intCast _⟩
theorem num_mulI {a : Rat} {i : Int} (ha : a.den = 1) : (a * (i : Rat)).num = a.num * i ∧ (a * (i : Rat)).den = 1 := by
  rw [int_num ha, ← Rat.intCast_mul]
  exact ⟨Rat.num_intCast _, Rat.den_intCast _⟩
/-- e stands for a / b -/
def Ratio (e : Nat → Rat) (a b : Nat) : Prop := upR e * b = a * dnR e
theorem up_pos (e : Nat → Rat) (h : e 0 = 0) : 0 < upR e ∧ 0 < dnR e := by
  constructor
  · refine prodR_pos fun p _ => ?_
    by_cases z : p = 0
    · subst z; rw [h]; decide
    · exact Nat.pow_pos (by omega)
  · refine prodR_pos fun p _ => ?_
    by_cases z : p = 0
    · subst z; rw [h]; decide
    · exact Nat.pow_pos (by omega)
theorem ratio_add {e f : Nat → Rat} {a b c d : Nat} (ie : IntN e) (jf : IntN f) (e0 : e 0 = 0) (f0 : f 0 = 0) (h1 : Ratio e a b) (h2 : Ratio f c d) : Ratio (fun p => e p + f p) (a * c) (b * d) := by
  have key : upR (fun p => e p + f p) * (dnR e * dnR f) = upR e * upR f * dnR (fun p => e p + f p) := by
    unfold upR dnR
    rw [← prodR_mul, ← prodR_mul, ← prodR_mul, ← prodR_mul]
    refine prodR_congr fun p _ => ?_
    rw [← Nat.pow_add, ← Nat.pow_add, ← Nat.pow_add, ← Nat.pow_add, (num_add (ie p) (jf p)).1]
    congr 1
    omega
  obtain ⟨p1, p2⟩ := up_pos e e0
  obtain ⟨p3, p4⟩ := up_pos f f0
  unfold Ratio at *
  have : upR (fun p => e p + f p) * (b * d) * (dnR e * dnR f) = a * c * dnR (fun p => e p + f p) * (dnR e * dnR f) := by
    calc upR (fun p => e p + f p) * (b * d) * (dnR e * dnR f) = (upR (fun p => e p + f p) * (dnR e * dnR f)) * (b * d) := by ac_rfl
      _ = (upR e * b) * (upR f * d) * dnR (fun p => e p + f p) := by rw [key]; ac_rfl
      _ = a * c * dnR (fun p => e p + f p) * (dnR e * dnR f) := by rw [h1, h2]; ac_rfl
  exact Nat.eq_of_mul_eq_mul_right (Nat.mul_pos p2 p4) this
theorem ratio_neg {e : Nat → Rat} {a b : Nat} (h : Ratio e a b) : Ratio (fun p => -(e p)) b a := by
  have h1 : upR (fun p => -(e p)) = dnR e := prodR_congr fun p _ => by show p ^ (-(e p)).num.toNat = _; rw [Rat.neg_num]
  have h2 : dnR (fun p => -(e p)) = upR e := prodR_congr fun p _ => by show p ^ (-(-(e p)).num).toNat = _; rw [Rat.neg_num, Int.neg_neg]
  unfold Ratio at *
  rw [h1, h2, Nat.mul_comm, ← h, Nat.mul_comm]
theorem ratio_fac {t : Nat} (h1 : 1 ≤ t) (h2 : t ≤ 9999) : Ratio (ev (nL (fac t))) t 1 := by
  have hk : ∀ x ∈ fac t, x.1 < 10000 := fun x hx => by have := (fac_bound h1 h2 x hx).2.1; omega
  have e1 : upR (ev (nL (fac t))) = t := by
    have := prodL_R hk
    rw [(fac_is h1).prod] at this
    refine Eq.trans ?_ this.symm
    exact prodR_congr fun p _ => by rw [ev_nL, Rat.num_natCast, Int.toNat_natCast]
  have e2 : dnR (ev (nL (fac t))) = 1 := prodR_one fun p _ => by
    rw [ev_nL, Rat.num_natCast, show (-((mult (fac t) p : Nat) : Int)).toNat = 0 by omega, Nat.pow_zero]
  unfold Ratio
  rw [e1, e2]
theorem int_fac (t : Nat) : IntN (ev (nL (fac t))) := fun p => by rw [ev_nL, Rat.den_natCast]
theorem NumOk.ev0 {n : Num} (h : NumOk n) : ev n 0 = 0 := ev_none fun x hx => by have := (h.pr x hx).1.1; omega
theorem upR_congr {e f : Nat → Rat} (h : ∀ p, p < 10000 → e p = f p) : upR e = upR f ∧ dnR e = dnR f := ⟨prodR_congr fun p hp => by rw [h p hp], prodR_congr fun p hp => by rw [h p hp]⟩
theorem ratio_congr {e f : Nat → Rat} {a b : Nat} (h : ∀ p, p < 10000 → e p = f p) (r : Ratio e a b) : Ratio f a b := by
  unfold Ratio at *
  rw [← (upR_congr h).1, ← (upR_congr h).2]
  exact r
theorem ratio_nfrac {t l : Nat} (t1 : 1 ≤ t) (t2 : t ≤ 9999) (l1 : 1 ≤ l) (l2 : l ≤ 9999) : Ratio (ev (nfrac t l)) t l := by
  have h0 := (can_fac t1 t2).ev0
  have h0' := (can_fac l1 l2).ev0
  have := ratio_add (int_fac t) (f := fun p => -(ev (nL (fac l)) p)) (fun p => (Rat.neg_den _).trans (int_fac l p)) h0 (by rw [h0']; rfl) (ratio_fac t1 t2) (ratio_neg (ratio_fac l1 l2))
  rw [Nat.mul_one, Nat.one_mul] at this
  refine ratio_congr (fun p hp => ?_) this
  unfold nfrac
  rw [ev_canE hp, Rat.sub_eq_add_neg]
theorem int_canE {e : Nat → Rat} (h : IntN e) : IntN (ev (canE e)) := fun p => by
  by_cases hp : p < 10000
  · rw [ev_canE hp]; exact h p
  · rw [ev_big (can_canE e) (by omega)]; rfl
theorem int_nf (t l : Nat) : IntN (ev (nfrac t l)) := int_canE fun p => (num_sub (int_fac t p) (int_fac l p)).2
theorem int_nmul {a b : Num} (h1 : IntN (ev a)) (h2 : IntN (ev b)) : IntN (ev (nmul a b)) := int_canE fun p => (num_add (h1 p) (h2 p)).2
theorem int_ndiv {a b : Num} (h1 : IntN (ev a)) (h2 : IntN (ev b)) : IntN (ev (ndiv a b)) := int_canE fun p => (num_sub (h1 p) (h2 p)).2
theorem int_npowI {a : Num} {i : Int} (h1 : IntN (ev a)) : IntN (ev (npow a (i : Rat))) := int_canE fun p => (num_mulI (h1 p)).2
theorem ratio_nmul {m n : Num} {a b c d : Nat} (om : NumOk m) (on : NumOk n) (im : IntN (ev m)) (iN : IntN (ev n)) (h1 : Ratio (ev m) a b) (h2 : Ratio (ev n) c d) : Ratio (ev (nmul m n)) (a * c) (b * d) :=
  ratio_congr (fun p hp => by unfold nmul; rw [ev_canE hp]) (ratio_add im iN om.ev0 on.ev0 h1 h2)
theorem ratio_ndiv {m n : Num} {a b c d : Nat} (om : NumOk m) (on : NumOk n) (im : IntN (ev m)) (iN : IntN (ev n)) (h1 : Ratio (ev m) a b) (h2 : Ratio (ev n) c d) : Ratio (ev (ndiv m n)) (a * d) (b * c) :=
  ratio_congr (fun p hp => by unfold ndiv; rw [ev_canE hp, Rat.sub_eq_add_neg]) (ratio_add im (f := fun p => -(ev n p)) (fun p => (Rat.neg_den _).trans (iN p)) om.ev0 (by rw [on.ev0]; rfl) h1 (ratio_neg h2))
theorem cop_ups {n : Num} (h : NumOk n) : Nat.Coprime (upR (ev n)) (dnR (ev n)) := cop_prodR2 fun p q _ _ => by
  by_cases z : (ev n p).num.toNat = 0
  · rw [z, Nat.pow_zero]; exact Nat.gcd_one_left _
  · by_cases z2 : (-(ev n q).num).toNat = 0
    · rw [z2, Nat.pow_zero]; exact Nat.gcd_one_right _
    · have np : ev n p ≠ 0 := fun e => z (by rw [e]; rfl)
      have nq : ev n q ≠ 0 := fun e => z2 (by rw [e]; rfl)
      have ne : p ≠ q := by rintro rfl; omega
      have pp := h.ev_pr np
      have pq := h.ev_pr nq
      exact Nat.Coprime.pow _ _ (pr_cop pp fun d => ne (pr_eq pp pq d))
theorem isPl_of {n : Num} (h : Asc n) (hi : IntN (ev n)) : isPl n = true := List.all_eq_true.mpr fun x hx => by
  have := hi x.1
  rw [ev_mem h hx] at this
  exact decide_eq_true this
theorem told_of {n : Num} (h : NumOk n) (hi : IntN (ev n)) : told n = .tuple [.int (upR (ev n)), .int (dnR (ev n))] := by
  unfold told
  rw [if_pos (isPl_of h.asc hi), (prod_ups h.can).1, (prod_ups h.can).2]
/-- the told fraction is the one that the number stands for -/
theorem told_ratio {n : Num} {a : Int} {b : Nat} (h : NumOk n) (hi : IntN (ev n)) (ha : 0 ≤ a) (hb : b ≠ 0) (hr : Ratio (ev n) a.toNat b) : told n = eF (mkRat a b) ∧ (mkRat a b).num = upR (ev n) ∧ (mkRat a b).den = dnR (ev n) := by
  have hd := (up_pos (ev n) h.ev0).2
  have c := cop_ups h
  unfold Ratio at hr
  have e : mkRat a b = mkRat (upR (ev n) : Int) (dnR (ev n)) := by
    refine (Rat.mkRat_eq_iff hb (by omega)).mpr ?_
    have := congrArg (fun x : Nat => (x : Int)) hr
    simp only [Int.natCast_mul] at this
    rw [show ((a.toNat : Nat) : Int) = a by omega] at this
    exact this.symm
  have n1 := norm_num (upR (ev n) : Int) (dnR (ev n)) (by omega)
  have d1 := norm_den (upR (ev n) : Int) (dnR (ev n)) (by omega)
  have g1 : Int.gcd (upR (ev n) : Int) (dnR (ev n) : Int) = 1 := c
  rw [g1] at n1 d1
  have n2 : (mkRat a b).num = upR (ev n) := by rw [e, n1]; exact Int.ediv_one _
  have d2 : (mkRat a b).den = dnR (ev n) := by
    have : (((mkRat a b).den : Nat) : Int) = (dnR (ev n) : Int) := by rw [e, d1]; exact Int.ediv_one _
    exact Int.ofNat.inj this
  refine ⟨?_, n2, d2⟩
  rw [told_of h hi]
  unfold eF
  rw [n2, d2]
/-- the sign of a quotient's powers -/
theorem lcm_one {n : Num} (h : Asc n) (hi : IntN (ev n)) : lcmN n = 1 := by
  unfold lcmN
  have : ∀ (m : Num), (∀ x ∈ m, x.2.den = 1) → m.foldl (fun l x => Nat.lcm l x.2.den) 1 = 1 := by
    intro m
    induction m with
    | nil => intro _; rfl
    | cons x r ih =>
      intro hm
      show r.foldl (fun l x => Nat.lcm l x.2.den) (Nat.lcm 1 x.2.den) = 1
      rw [hm x List.mem_cons_self]
      exact ih fun y hy => hm y (List.mem_cons_of_mem _ hy)
  exact this n fun x hx => by
    have := hi x.1
    rw [ev_mem h hx] at this
    exact this
theorem wholes_int {n : Num} (h : Asc n) (hi : IntN (ev n)) : wholesL n = numsL n := by
  unfold wholesL numsL
  rw [lcm_one h hi]
  apply List.map_congr_left
  intro x hx
  have := hi x.1
  rw [ev_mem h hx] at this
  rw [this]
  show (x.1, x.2.num * (((1 : Nat) : Int) / ((1 : Nat) : Int))) = _
  rw [show ((1 : Nat) : Int) / ((1 : Nat) : Int) = 1 from rfl, Int.mul_one]
theorem lvl_lt {a b : Num} {t1 l1 t2 l2 : Nat} (oa : NumOk a) (ob : NumOk b) (ia : IntN (ev a)) (ib : IntN (ev b)) (h1 : Ratio (ev a) t1 l1) (h2 : Ratio (ev b) t2 l2) (p1 : 0 < l1 * t2) : decide (lvl a b < 0) = decide ((t1 : Int) * (l2 : Int) < (t2 : Int) * (l1 : Int)) := by
  have hr := ratio_ndiv oa ob ia ib h1 h2
  have hid := int_ndiv ia ib
  have oc := ok_ndiv oa ob
  have dp := (up_pos (ev (ndiv a b)) oc.ev0).2
  refine decide_eq_decide.mpr ?_
  unfold lvl sgnL
  rw [wholes_int oc.asc hid, (prod_ups oc.can).1, (prod_ups oc.can).2]
  unfold Ratio at hr
  generalize upR (ev (ndiv a b)) = u at hr
  generalize dnR (ev (ndiv a b)) = d at hr dp
  have e : ((t1 : Int) * (l2 : Int) < (t2 : Int) * (l1 : Int)) ↔ t1 * l2 < l1 * t2 := by
    rw [← Int.natCast_mul, ← Int.natCast_mul, Int.ofNat_lt, Nat.mul_comm t2 l1]
  rw [e]
  unfold sgnN
  constructor
  · intro h
    by_cases z : t1 * l2 < l1 * t2
    · exact z
    · exfalso
      have le : d ≤ u := by
        by_cases q : d ≤ u
        · exact q
        · have a1 : u * (l1 * t2) < d * (l1 * t2) := Nat.mul_lt_mul_of_pos_right (by omega) p1
          have a2 : d * (l1 * t2) ≤ d * (t1 * l2) := Nat.mul_le_mul_left _ (by omega)
          rw [Nat.mul_comm d (t1 * l2)] at a2
          omega
      have n : ¬ u < d := by omega
      rw [if_neg n] at h
      split at h <;> omega
  · intro h
    have lt : u < d := by
      by_cases q : u < d
      · exact q
      · have a1 : d * (l1 * t2) ≤ u * (l1 * t2) := Nat.mul_le_mul_right _ (by omega)
        have a2 : d * (t1 * l2) < d * (l1 * t2) := Nat.mul_lt_mul_of_pos_left h dp
        rw [Nat.mul_comm d (t1 * l2)] at a2
        omega
    rw [if_neg (by omega), if_pos lt]
    decide
/-- squares turned over -/
theorem told_sq {n : Num} (h : NumOk n) (hi : IntN (ev n)) : told (npow n (((-2 : Int)) : Rat)) = .tuple [.int ((dnR (ev n) : Int) ^ 2), .int ((upR (ev n) : Int) ^ 2)] := by
  rw [told_of (ok_npow h) (int_npowI hi)]
  have e : ∀ p, p < 10000 → ev (npow n (((-2 : Int)) : Rat)) p = ev n p * (((-2 : Int)) : Rat) := fun p hp => by unfold npow; rw [ev_canE hp]
  have u : upR (ev (npow n (((-2 : Int)) : Rat))) = dnR (ev n) ^ 2 := by
    unfold dnR
    rw [← prodR_sq]
    refine prodR_congr fun p hp => ?_
    rw [e p hp, (num_mulI (hi p)).1, ← Nat.pow_mul]
    congr 1
    omega
  have d : dnR (ev (npow n (((-2 : Int)) : Rat))) = upR (ev n) ^ 2 := by
    unfold upR
    rw [← prodR_sq]
    refine prodR_congr fun p hp => ?_
    rw [e p hp, (num_mulI (hi p)).1, ← Nat.pow_mul]
    congr 1
    omega
  rw [u, d, Int.natCast_pow, Int.natCast_pow]
end My

namespace My
open PySem PySem.Spec PyProof.Rows L2 Evl
variable {K : PySem.W.Frag} {σ : L2.St} {H H0 : Hp} {ta tb te tc tl td : TE} {p : Addr} {m n k : Nat} {P R : PyData → Prop}
theorem eg_ci {i : Int} (h : P (.int i)) : EG K p (tC (.int i)) σ H0 m m P := eg_mono eg_i fun d e => by rw [e]; exact h
/-- whole numbers from 1 to 9999 -/
def Gr (d : PyData) : Prop := ∃ i : Int, 1 ≤ i ∧ i ≤ 9999 ∧ d = .int i
theorem gr_imm (d : PyData) (h : Gr d) : imm d = true := by
  obtain ⟨i, _, _, rfl⟩ := h
  rfl
theorem int_imm {d : PyData} {Q : Int → Prop} (h : ∃ i, Q i ∧ d = .int i) : imm d = true := by
  obtain ⟨i, _, rfl⟩ := h
  rfl
abbrev spGreat (K : PySem.W.Frag) : Sp := spP K 0 2 (fun _ => True) (fun _ d => Gr d)
theorem eg_take {u : Nat} {i : Nat} {E : XK} (hi : σ[i]? = some (some (.ref p))) (h : ∀ H, Go p H0 H → ED K te σ H (.int u)) (u1 : 1 ≤ u) (u2 : u < 2 ^ 64) (hk : m + 1 ≤ 1000000) : EG K p (tCall (spTake K) [] E (tCons (tVar i) (tCons te tNil))) σ H0 m (m + 1) (fun d => ∃ x : Nat, x < u ∧ d = .int x) :=
  eg_mono (eg_pcall hi (ega_ea fun H g => ea_cons (h H g) ea_nil) hk fun ds e => by subst e; exact ⟨rfl, rfl, u, rfl, u1, u2⟩) fun d hd => by
    obtain ⟨ds, rfl, u', x, eu, rfl, lt⟩ := hd
    have eu : ((u : Nat) : Int) = (u' : Int) := PyData.int.inj (List.cons.inj eu).1
    exact ⟨x, by omega, rfl⟩
theorem eg_pcall0 {Pre : List PyData → Prop} {Post : List PyData → PyData → Prop} {E : XK} {i : Nat} (hi : σ[i]? = some (some (.ref p))) (hk : m + k ≤ 1000000) (hr : Pre []) :
    EG K p (tCall (spP K 0 k Pre Post) [] E (tCons (tVar i) tNil)) σ H0 m (m + k) (fun d => Post [] d) := eg_mono (eg_pcall hi ega_nil hk fun ds e => by subst e; exact ⟨rfl, rfl, hr⟩) fun d hd => by
  obtain ⟨ds, rfl, h⟩ := hd
  exact h
/-- fractions of twelfths -/
def Tw (b : Nat) (q : Rat) : Prop := ∃ z : Int, q = (z : Rat) / 12 ∧ z.natAbs ≤ b
theorem Tw.mono {b c : Nat} {q : Rat} (h : Tw b q) (e : b ≤ c) : Tw c q := by
  obtain ⟨z, h1, h2⟩ := h
  exact ⟨z, h1, Nat.le_trans h2 e⟩
theorem tw_zero : Tw 0 0 := ⟨0, by grind, Nat.le_refl _⟩
theorem tw_add {a b : Nat} {x y : Rat} (h : Tw a x) (h' : Tw b y) : Tw (a + b) (x + y) := by
  obtain ⟨z, rfl, h2⟩ := h
  obtain ⟨w, rfl, h3⟩ := h'
  refine ⟨z + w, ?_, by omega⟩
  rw [Rat.intCast_add]
  grind
theorem tw_int {i : Int} {b : Nat} (h : i.natAbs ≤ b) : Tw (12 * b) (i : Rat) := by
  refine ⟨12 * i, ?_, by omega⟩
  rw [Rat.intCast_mul]
  have : ((12 : Int) : Rat) = 12 := rfl
  grind
theorem mk_div (t : Int) (l : Nat) : mkRat t l = (t : Rat) / ((l : Nat) : Rat) := by
  rw [Rat.mkRat_eq_div]
/-- what stands over 12 -/
theorem tw_mk {t : Int} {l c b : Nat} (hl : l * c = 12) (h : t.natAbs * c ≤ b) : Tw b (mkRat t l) := by
  refine ⟨t * c, ?_, by rw [Int.natAbs_mul]; exact h⟩
  have l0 : l ≠ 0 := by rintro rfl; omega
  have c0 : c ≠ 0 := by rintro rfl; omega
  have e : mkRat t l = mkRat (t * c) (l * c) := (Rat.mkRat_mul_right c0).symm
  rw [e, hl, mk_div]
  rfl
theorem tw_mul {b : Nat} {q : Rat} {i : Int} {c : Nat} (h : Tw b q) (hi : i.natAbs ≤ c) : Tw (c * b) ((i : Rat) * q) := by
  obtain ⟨z, rfl, h2⟩ := h
  refine ⟨i * z, ?_, by rw [Int.natAbs_mul]; exact Nat.mul_le_mul hi h2⟩
  rw [Rat.intCast_mul]
  grind
theorem tw_den {b : Nat} {q : Rat} (h : Tw b q) : q.den ∣ 12 ∧ q.num.natAbs ≤ b ∧ (q.den = 1 → 12 * q.num.natAbs ≤ b) := by
  obtain ⟨z, e, h2⟩ := h
  have e2 : q = mkRat z 12 := by rw [mk_div]; exact e
  have d1 := norm_den z 12 (by decide)
  have n1 := norm_num z 12 (by decide)
  rw [← e2] at d1 n1
  have g1 : (Int.gcd z (12 : Nat)) ∣ 12 := by
    have := Int.gcd_dvd_right z ((12 : Nat) : Int)
    exact Int.natCast_dvd_natCast.mp this
  obtain ⟨c, hc⟩ := g1
  have gp : 0 < Int.gcd z (12 : Nat) := Nat.pos_of_ne_zero fun z0 => by rw [z0, Nat.zero_mul] at hc; cases hc
  have d2 : q.den = c := by
    have : ((q.den : Nat) : Int) = (c : Int) := by
      rw [d1]
      have e3 : ((12 : Nat) : Int) = ((Int.gcd z (12 : Nat) : Nat) : Int) * (c : Int) := by rw [← Int.natCast_mul, ← hc]
      generalize Int.gcd z (12 : Nat) = g at e3 gp
      rw [e3]
      exact Int.mul_ediv_cancel_left _ (by omega)
    exact Int.ofNat.inj this
  refine ⟨⟨Int.gcd z (12 : Nat), by rw [d2, Nat.mul_comm]; exact hc⟩, ?_, fun h1 => ?_⟩
  · rw [n1]
    exact Nat.le_trans (Int.natAbs_ediv_le_natAbs _ _) h2
  · rw [d2] at h1
    have g12 : Int.gcd z (12 : Nat) = 12 := by
      rw [h1, Nat.mul_one] at hc
      exact hc.symm
    rw [g12] at n1
    have : z = 12 * q.num := by
      have := Int.gcd_dvd_left z ((12 : Nat) : Int)
      rw [g12] at this
      rw [n1]
      exact (Int.mul_ediv_cancel' this).symm
    omega
theorem tw_sm {b k : Nat} {q : Rat} (h : Tw b q) (hb : b < 2 ^ k) (hk : 4 ≤ k) : Sm k q := by
  obtain ⟨h1, h2, _⟩ := tw_den h
  have := Nat.le_of_dvd (by decide) h1
  have : 2 ^ 4 ≤ 2 ^ k := Nat.pow_le_pow_right (by decide) hk
  exact ⟨by omega, by omega⟩
theorem mk_ne {t : Int} {l : Nat} (h : t ≠ 0) (hl : l ≠ 0) : mkRat t l ≠ 0 := fun z => h ((Rat.mkRat_eq_zero hl).mp z)
theorem mk_num_le {t : Int} {l b : Nat} (h : t.natAbs ≤ b) (hl : l ≠ 0) : (mkRat t l).num.natAbs ≤ b := by
  rw [norm_num t l hl]
  exact Nat.le_trans (Int.natAbs_ediv_le_natAbs _ _) h
/-- powers of a drawn number -/
def PowQ (d : PyData) : Prop := ∃ q : Rat, (Tw 144 q ∧ q ≠ 0 ∧ q.num.natAbs ≤ 12) ∧ d = eF q
abbrev spPowerDrawn (K : PySem.W.Frag) : Sp := spP K 0 3 (fun _ => True) (fun _ d => PowQ d)
/-! ### how heavy numbers are: powers as twelfths, weighed by their primes' bits -/
structure TwN (w : Nat) (n : Num) : Prop where
  ok : NumOk n
  z : ∃ z : Nat → Int, (∀ p, ev n p = (z p : Rat) / 12) ∧ sumR 10000 (fun p => bl p * (z p).natAbs) ≤ w
theorem TwN.of {w : Nat} {n : Num} (ok : NumOk n) (f : Nat → Int) (h1 : ∀ p, p < 10000 → ev n p = (f p : Rat) / 12) (h2 : sumR 10000 (fun p => bl p * (f p).natAbs) ≤ w) : TwN w n := by
  refine ⟨ok, fun p => if p < 10000 then f p else 0, fun p => ?_, Nat.le_trans (sumR_le fun p hp => ?_) h2⟩
  · show ev n p = ((if p < 10000 then f p else 0 : Int) : Rat) / 12
    by_cases hp : p < 10000
    · rw [if_pos hp]
      exact h1 p hp
    · rw [ev_big ok.can (by omega), if_neg hp]
      have : ((0 : Int) : Rat) = 0 := rfl
      grind
  · show bl p * (if p < 10000 then f p else 0 : Int).natAbs ≤ _
    rw [if_pos hp]
    exact Nat.le_refl _
theorem TwN.tw {w : Nat} {n : Num} (h : TwN w n) (p : Nat) : Tw w (ev n p) := by
  obtain ⟨z, h1, h2⟩ := h.z
  by_cases hp : p < 10000
  · by_cases p0 : p = 0
    · subst p0
      rw [h.ok.ev0]
      exact tw_zero.mono (Nat.zero_le _)
    · have a := sumR_mem (f := fun p => bl p * (z p).natAbs) hp
      have b := bl_pos (p := p) (by omega)
      have c : 1 * (z p).natAbs ≤ bl p * (z p).natAbs := Nat.mul_le_mul_right _ b
      exact ⟨z p, h1 p, Nat.le_trans (by omega) (Nat.le_trans a h2)⟩
  · rw [ev_big h.ok.can (by omega)]
    exact tw_zero.mono (Nat.zero_le _)
theorem TwN.sm {b k : Nat} {n : Num} (h : TwN b n) (hb : b < 2 ^ k) (hk : 4 ≤ k) : SmN k n := fun x hx => by
  have := h.tw x.1
  rw [ev_mem h.ok.asc hx] at this
  exact tw_sm this hb hk
theorem TwN.mono {b c : Nat} {n : Num} (h : TwN b n) (e : b ≤ c) : TwN c n := by
  obtain ⟨z, h1, h2⟩ := h.z
  exact ⟨h.ok, z, h1, Nat.le_trans h2 e⟩
theorem TwN.mul {b b' : Nat} {n n' : Num} (h : TwN b n) (h' : TwN b' n') : TwN (b + b') (nmul n n') := by
  obtain ⟨z, h1, h2⟩ := h.z
  obtain ⟨y, h3, h4⟩ := h'.z
  refine TwN.of (ok_nmul h.ok h'.ok) (fun p => z p + y p) (fun p hp => ?_) ?_
  · unfold nmul
    rw [ev_canE hp, h1, h3, Rat.intCast_add]
    grind
  · refine Nat.le_trans (sumR_le (g := fun p => bl p * (z p).natAbs + bl p * (y p).natAbs) fun p hp => ?_) ?_
    · rw [← Nat.mul_add]
      exact Nat.mul_le_mul_left _ (Int.natAbs_add_le _ _)
    · rw [sumR_add]
      omega
theorem TwN.div {b b' : Nat} {n n' : Num} (h : TwN b n) (h' : TwN b' n') : TwN (b + b') (ndiv n n') := by
  obtain ⟨z, h1, h2⟩ := h.z
  obtain ⟨y, h3, h4⟩ := h'.z
  refine TwN.of (ok_ndiv h.ok h'.ok) (fun p => z p - y p) (fun p hp => ?_) ?_
  · unfold ndiv
    rw [ev_canE hp, h1, h3, Rat.intCast_sub]
    grind
  · refine Nat.le_trans (sumR_le (g := fun p => bl p * (z p).natAbs + bl p * (y p).natAbs) fun p hp => ?_) ?_
    · rw [← Nat.mul_add]
      exact Nat.mul_le_mul_left _ (by omega)
    · rw [sumR_add]
      omega
theorem above_fac {n : Nat} (h1 : 1 ≤ n) (h2 : n ≤ 9999) : above (fac n) ≤ 26 := by
  have hf := fac_is h1
  have a : ∀ {L : List (Nat × Nat)}, (∀ x ∈ L, 2 ≤ x.1) → above L ≤ 2 * below L := by
    intro L
    induction L with
    | nil => intro _; exact Nat.zero_le _
    | cons x r ih =>
      intro h
      have := ih fun y hy => h y (List.mem_cons_of_mem _ hy)
      have b := lt_bl x.1
      have h2 := h x List.mem_cons_self
      have c : 2 ≤ bl x.1 := by
        by_cases q : 2 ≤ bl x.1
        · exact q
        · have : 2 ^ bl x.1 ≤ 2 ^ 1 := Nat.pow_le_pow_right (by decide) (by omega)
          omega
      show bl x.1 * x.2 + above r ≤ 2 * ((bl x.1 - 1) * x.2 + below r)
      have d : bl x.1 * x.2 ≤ 2 * ((bl x.1 - 1) * x.2) := by
        rw [← Nat.mul_assoc]
        exact Nat.mul_le_mul_right _ (by omega)
      omega
  have b := le_prod (L := fac n) fun x hx => by have := (hf.pr x hx).1.1; omega
  rw [hf.prod] at b
  have c := a (L := fac n) fun x hx => (hf.pr x hx).1.1
  by_cases q : below (fac n) ≤ 13
  · omega
  · have : 2 ^ 14 ≤ 2 ^ below (fac n) := Nat.pow_le_pow_right (by decide) (by omega)
    omega
theorem ev_nfrac {t l : Nat} {p : Nat} (hp : p < 10000) : ev (nfrac t l) p = (((mult (fac t) p : Nat) : Int) - ((mult (fac l) p : Nat) : Int) : Int) := by
  unfold nfrac
  rw [ev_canE hp, ev_nL, ev_nL, Rat.intCast_sub]
  rfl
theorem sum_nfrac {t l : Nat} (t1 : 1 ≤ t) (t2 : t ≤ 9999) (l1 : 1 ≤ l) (l2 : l ≤ 9999) : sumR 10000 (fun p => bl p * (((mult (fac t) p : Nat) : Int) - ((mult (fac l) p : Nat) : Int)).natAbs) ≤ 52 := by
  have kt : ∀ x ∈ fac t, x.1 < 10000 := fun x hx => by have := (fac_bound t1 t2 x hx).2.1; omega
  have kl : ∀ x ∈ fac l, x.1 < 10000 := fun x hx => by have := (fac_bound l1 l2 x hx).2.1; omega
  have a := above_fac t1 t2
  have b := above_fac l1 l2
  rw [above_R kt] at a
  rw [above_R kl] at b
  refine Nat.le_trans (sumR_le (g := fun p => bl p * mult (fac t) p + bl p * mult (fac l) p) fun p hp => ?_) ?_
  · rw [← Nat.mul_add]
    exact Nat.mul_le_mul_left _ (by omega)
  · rw [sumR_add]
    omega
theorem tw_nfrac {t l : Nat} (t1 : 1 ≤ t) (t2 : t ≤ 9999) (l1 : 1 ≤ l) (l2 : l ≤ 9999) : TwN 624 (nfrac t l) := by
  refine TwN.of (nfrac_ok t1 t2 l1 l2) (fun p => 12 * (((mult (fac t) p : Nat) : Int) - ((mult (fac l) p : Nat) : Int))) (fun p hp => ?_) ?_
  · rw [ev_nfrac hp, Rat.intCast_mul]
    have : ((12 : Int) : Rat) = 12 := rfl
    grind
  · have a := sum_nfrac t1 t2 l1 l2
    refine Nat.le_trans (sumR_le (g := fun p => 12 * (bl p * (((mult (fac t) p : Nat) : Int) - ((mult (fac l) p : Nat) : Int)).natAbs)) fun p hp => ?_) ?_
    · rw [Int.natAbs_mul, Nat.mul_left_comm]
      exact Nat.le_refl _
    · rw [sumR_mul]
      omega
theorem tw_npow {t l : Nat} {q : Rat} (t1 : 1 ≤ t) (t2 : t ≤ 9999) (l1 : 1 ≤ l) (l2 : l ≤ 9999) (hq : Tw 144 q) : TwN 7488 (npow (nfrac t l) q) := by
  obtain ⟨y, hy, hb⟩ := hq
  refine TwN.of (ok_npow (nfrac_ok t1 t2 l1 l2)) (fun p => y * (((mult (fac t) p : Nat) : Int) - ((mult (fac l) p : Nat) : Int))) (fun p hp => ?_) ?_
  · unfold npow
    rw [ev_canE hp, ev_nfrac hp, Rat.intCast_mul, hy]
    grind
  · have a := sum_nfrac t1 t2 l1 l2
    refine Nat.le_trans (sumR_le (g := fun p => 144 * (bl p * (((mult (fac t) p : Nat) : Int) - ((mult (fac l) p : Nat) : Int)).natAbs)) fun p hp => ?_) ?_
    · rw [Int.natAbs_mul, Nat.mul_left_comm]
      exact Nat.mul_le_mul_right _ hb
    · rw [sumR_mul]
      omega
theorem tw_npowI {n : Num} {b c : Nat} (h : TwN b n) (hc : c ≤ 12) : TwN (12 * b) (npow n (((c : Nat) : Int) : Rat)) := by
  obtain ⟨z, h1, h2⟩ := h.z
  refine TwN.of (ok_npow h.ok) (fun p => (c : Int) * z p) (fun p hp => ?_) ?_
  · unfold npow
    rw [ev_canE hp, h1, Rat.intCast_mul]
    grind
  · refine Nat.le_trans (sumR_le (g := fun p => 12 * (bl p * (z p).natAbs)) fun p hp => ?_) ?_
    · rw [Int.natAbs_mul, Nat.mul_left_comm]
      exact Nat.mul_le_mul_right _ hc
    · rw [sumR_mul]
      omega
theorem tw_nil : TwN 0 [] := ⟨⟨.nil, fun x h => by cases h⟩, fun _ => 0, fun p => by
  have : ((0 : Int) : Rat) = 0 := rfl
  show (0 : Rat) = _
  grind, Nat.le_of_eq (sumR_zero fun p _ => (show bl p * (0 : Int).natAbs = 0 from Nat.mul_zero _))⟩
/-- the bits of a number's numerators -/
theorem bits_R {n : Num} (h : Can n) : bitsOf (numsL n) = sumR 10000 fun p => bl p * (ev n p).num.natAbs := by
  obtain ⟨k1, k2⟩ := keys_ups h
  rw [← above_ups, above_R k1, above_R k2, ← sumR_add]
  congr 1
  funext p
  rw [(mult_ups h.asc p).1, (mult_ups h.asc p).2, ← Nat.mul_add]
  congr 1
  omega
theorem TwN.bits {b : Nat} {n : Num} (h : TwN b n) : bitsOf (numsL n) ≤ b := by
  obtain ⟨z, h1, h2⟩ := h.z
  rw [bits_R h.ok.can]
  refine Nat.le_trans (sumR_le fun p _ => Nat.mul_le_mul_left _ ?_) h2
  exact (tw_den (b := (z p).natAbs) ⟨z p, h1 p, Nat.le_refl _⟩).2.1
theorem TwN.bits12 {b : Nat} {n : Num} (h : TwN b n) (hi : IntN (ev n)) : 12 * bitsOf (numsL n) ≤ b := by
  obtain ⟨z, h1, h2⟩ := h.z
  rw [bits_R h.ok.can, ← sumR_mul]
  refine Nat.le_trans (sumR_le fun p _ => ?_) h2
  rw [Nat.mul_left_comm]
  exact Nat.mul_le_mul_left _ ((tw_den (b := (z p).natAbs) ⟨z p, h1 p, Nat.le_refl _⟩).2.2 (hi p))
theorem isPl_int {n : Num} (h : Can n) (hp : isPl n = true) : IntN (ev n) := fun p => by
  rcases ev_or h.asc p with e | e
  · rw [e]; rfl
  · exact of_decide_eq_true (List.all_eq_true.mp hp _ e)
theorem TwN.lcm {b : Nat} {n : Num} (h : TwN b n) : lcmN n ∣ 12 := by
  unfold lcmN
  have : ∀ (m : Num) (l : Nat), l ∣ 12 → (∀ x ∈ m, x.2.den ∣ 12) → m.foldl (fun l x => Nat.lcm l x.2.den) l ∣ 12 := by
    intro m
    induction m with
    | nil => intro l hl _; exact hl
    | cons x r ih => intro l hl hm; exact ih _ (Nat.lcm_dvd hl (hm x List.mem_cons_self)) fun y hy => hm y (List.mem_cons_of_mem _ hy)
  refine this n 1 (Nat.one_dvd _) fun x hx => ?_
  have := h.tw x.1
  rw [ev_mem h.ok.asc hx] at this
  exact (tw_den this).1
theorem den_dvd_lcm : ∀ {n : Num} {x : Nat × Rat}, x ∈ n → x.2.den ∣ lcmN n := by
  have up : ∀ (m : Num) (l : Nat), l ∣ m.foldl (fun l x => Nat.lcm l x.2.den) l := by
    intro m
    induction m with
    | nil => intro l; exact Nat.dvd_refl _
    | cons x r ih => intro l; exact Nat.dvd_trans (Nat.dvd_lcm_left _ _) (ih _)
  have go : ∀ (m : Num) (l : Nat) (x : Nat × Rat), x ∈ m → x.2.den ∣ m.foldl (fun l x => Nat.lcm l x.2.den) l := by
    intro m
    induction m with
    | nil => intro l x h; cases h
    | cons y r ih =>
      intro l x h
      rcases List.mem_cons.mp h with rfl | h
      · exact Nat.dvd_trans (Nat.dvd_lcm_right _ _) (up _ _)
      · exact ih _ x h
  intro n x h
  exact go n 1 x h
theorem mul_den {q : Rat} {l : Nat} (h : q.den ∣ l) : (q * (((l : Nat) : Int) : Rat)).den = 1 := by
  obtain ⟨c, rfl⟩ := h
  have e : q * (((q.den * c : Nat) : Int) : Rat) = ((q.num * c : Int) : Rat) := by
    have h1 : q = (q.num : Rat) / ((q.den : Nat) : Rat) := by
      rw [← mk_div, Rat.mkRat_self]
    have h2 : ((q.den : Nat) : Rat) ≠ 0 := natCast_ne (den_pos q)
    have h3 : (((q.den * c : Nat) : Int) : Rat) = ((q.den : Nat) : Rat) * ((c : Nat) : Rat) := by
      rw [← Rat.natCast_mul]; rfl
    have h4 : ((q.num * c : Int) : Rat) = (q.num : Rat) * ((c : Nat) : Rat) := by
      rw [Rat.intCast_mul]; rfl
    rw [h3, h4]
    generalize ((q.den : Nat) : Rat) = d at h1 h2 ⊢
    generalize (q.num : Rat) = u at h1 ⊢
    rw [h1]
    grind
  rw [e]
  exact Rat.den_intCast _
theorem int_lcm {n : Num} (h : NumOk n) : IntN (ev (npow n ((((lcmN n) : Nat) : Int) : Rat))) := int_canE fun p => by
  rcases ev_or h.asc p with e | e
  · rw [e, Rat.zero_mul]; rfl
  · exact mul_den (den_dvd_lcm e)
def Fct (d : PyData) : Prop := ∃ (x : Str) (n : Num), x.length ≤ 300 ∧ TwN 7488 n ∧ d = .tuple [.str x, eN n]
abbrev spFactor (K : PySem.W.Frag) : Sp := spP K 0 8 (fun _ => True) (fun _ d => Fct d)
def TxtN (d : PyData) : Prop := ∃ (x : Str) (n : Num), TwN 14976 n ∧ d = .tuple [.str x, eN n]
abbrev spTextN (K : PySem.W.Frag) : Sp := spP K 1 17 (fun ds => ds = [.int 2]) (fun _ d => TxtN d)
/-! ### lists of drawn things -/
theorem go_list {H1 H4 : Hp} {D : Addr} {o : HO} (g : Go p H H1) (hD : H1 D = none) (ne : D ≠ p) (g4 : Go p H H4) : Go p H (upd H4 D o) := fun a u n e => by
  have : a ≠ D := by
    rintro rfl
    have := g _ _ n e
    rw [hD] at this
    cases this
  rw [upd_ne this]
  exact g4 a u n e
theorem eg_lcR {te0 : TE} {N kk i : Nat} {vs : List Nat} {Px : Nat → Prop} (h : EG K p te0 σ H0 m n (fun d => ∃ x : Nat, (x ≤ N ∧ Px x) ∧ d = .int x)) (hN : N ≤ 40000) (hw : ∀ a, wipe ((wipe σ vs).set i (some a)) vs = wipe σ vs) (hlim : n + kk * N ≤ 1000000) (hi : ∀ d, R d → imm d = true)
    (turn : ∀ (a : V) (m' : Nat), m' + kk ≤ 1000000 → EG K p te ((wipe σ vs).set i (some a)) H0 m' (m' + kk) R) :
    EG K p (tFrz (tLc (iRng1 (tCons te0 tNil)) (gName i) tYes te vs)) σ H0 m (n + kk * N) (fun d => ∃ ds, d = .list ds ∧ (ds.length ≤ N ∧ Px ds.length) ∧ ∀ x ∈ ds, R x) := fun H g hp Q q =>
  h H g hp _ fun v H1 d g1 hp1 hd hv => by
    obtain ⟨x, ⟨hx, hpx⟩, rfl⟩ := hd
    cases hv
    refine ⟨x, rfl, by omega, by omega, fun Dl hD => ?_⟩
    have ne : Dl ≠ p := by
      rintro rfl
      obtain ⟨_, _, _, z, _⟩ := hp1
      rw [z] at hD; cases hD
    have en : ((x : Nat) : Int).toNat = x := Int.toNat_natCast x
    rw [en]
    have pot_upd : ∀ {H' : Hp} {M : Nat} {o : HO}, PotAt p M H' → PotAt p M (upd H' Dl o) := by
      intro H' M o h
      obtain ⟨a, b, c, h1, h2, h3⟩ := h
      exact ⟨a, b, c, by rw [upd_ne (Ne.symm ne)]; exact h1, h2, h3⟩
    refine lc_range (lo := 0) (n := x) (fun j H' => Go p H H' ∧ PotAt p (n + kk * j) H' ∧ ∃ acc ds, H' Dl = some (.lst acc) ∧ DqAll K H' acc ds ∧ ds.length = j ∧ ∀ y ∈ ds, R y) ⟨go_list g1 hD ne g1, by rw [Nat.mul_zero, Nat.add_zero]; exact pot_upd hp1, [], [], upd_same, .nil, rfl, fun y h => by cases h⟩ (fun j H' hj P => ?_) (fun H' P => ?_)
    · obtain ⟨g2, hp2, acc, ds, h2, hd2, hl, hR⟩ := P
      refine ⟨hw _, ?_⟩
      simp only [tYes, if_true]
      have le : n + kk * j + kk ≤ 1000000 := by
        have : kk * (j + 1) ≤ kk * N := Nat.mul_le_mul_left _ (by omega)
        rw [Nat.mul_succ] at this
        omega
      refine turn _ (n + kk * j) le H' (g.trans g2) hp2 _ fun y H4 z g4 hp4 hz hy => ?_
      have him : immAll ds = true := immAll_of fun d hd => hi d (hR d hd)
      have h4 : H4 Dl = some (.lst acc) := g4 Dl _ ne h2
      have hd4 := hp2.dpa g4 hd2 him
      have gD : Go Dl H4 (upd H4 Dl (.lst (acc ++ [y]))) := fun a o n h => by rw [upd_ne n]; exact h
      refine ⟨acc, h4, sz_lt (by rw [dpa_len hd2]; omega), go_list g1 hD ne (g2.trans g4), by rw [Nat.mul_succ, ← Nat.add_assoc]; exact pot_upd hp4, acc ++ [y], ds ++ [z], upd_same, dpa_app (dpa_go gD h4 ds acc him hd4) (.cons (Dq_go hy gD h4 (hi z hz)) .nil), by rw [List.length_append, hl]; rfl, fun w hw => ?_⟩
      rcases List.mem_append.mp hw with hw | hw
      · exact hR w hw
      · rw [List.mem_singleton.mp hw]; exact hz
    · obtain ⟨g2, hp2, acc, ds, h2, hd2, hl, hR⟩ := P
      exact ⟨Dl, _, rfl, h2, trivial, fun od => q _ _ _ (go_list g1 hD ne g2) (pot_upd (hp2.mono (Nat.add_le_add_left (Nat.mul_le_mul_left _ hx) _))) ⟨ds, rfl, ⟨by omega, by rw [hl]; exact hpx⟩, hR⟩ (.lst (.inl ⟨od, upd_same⟩) (dpa_go (p := Dl) (fun a o n x => by rw [upd_ne n]; exact x) h2 ds acc rfl hd2))⟩
def eTx (x : Str × Num) : PyData := .tuple [.str x.1, eN x.2]
theorem fct_list : ∀ {ds : List PyData}, (∀ d ∈ ds, Fct d) → ∃ L : List (Str × Num), ds = L.map eTx ∧ ∀ x ∈ L, x.1.length ≤ 300 ∧ TwN 7488 x.2
  | [], _ => ⟨[], rfl, fun x h => by cases h⟩
  | d :: ds, h => by
    obtain ⟨x, n, h1, h2, e⟩ := h d List.mem_cons_self
    obtain ⟨L, e2, h3⟩ := fct_list (ds := ds) fun y hy => h y (List.mem_cons_of_mem _ hy)
    refine ⟨(x, n) :: L, by rw [e, e2]; rfl, fun y hy => ?_⟩
    rcases List.mem_cons.mp hy with rfl | hy
    · exact ⟨h1, h2⟩
    · exact h3 y hy
theorem fct_imm (d : PyData) (h : Fct d) : imm d = true := by
  obtain ⟨x, n, _, _, rfl⟩ := h
  show (true && (imm (eN n) && true)) = true
  rfl
variable {D : Ends} {tz : TS}
theorem q_par3G {i j l : Nat} {ta : TA} {R2 : List PyData → Prop} (hp : PotAt p m H) (h : EGA K p ta σ H m n R2) (hl : ∀ ds, R2 ds → ds.length = 3) (kk : ∀ ds u v w H1, Go p H H1 → PotAt p n H1 → R2 ds → DqAll K H1 [u, v, w] ds → tz D (((σ.set i (some u)).set j (some v)).set l (some w)) H1) : tSeq (tPar3 i j l ta) tz D σ H :=
  h H (Go.refl H) hp _ fun vs H1 ds g1 hp1 hd hv => by
    have e := (dpa_len hv).trans (hl ds hd)
    match vs, e with
    | [u, v, w], _ => exact ⟨u, v, w, rfl, kk ds u v w H1 g1 hp1 hd hv⟩
theorem s_asgP {i : Nat} {d : PyData} (h : EP K te σ H d) (k : ∀ v H1, Ex H H1 → Pl K H1 v d → D.nx (σ.set i (some v)) H1) : tAsg te (gName i) D σ H := h H (Ex.refl H) _ fun v H1 e1 hv => k v H1 e1 hv
def rJoin (K : PySem.W.Frag) : V → List V → Hp → VK → Prop := fun x xs H Q => ∃ a p, ∃ ys : List Str, x = .str a ∧ xs = [.ref p] ∧ (SqL K H p (ys.map V.str) ∨ SqT K H p (ys.map V.str)) ∧
    (ys.map (·.length)).sum + ys.length * a.length ≤ 16777216 ∧ Q (.str (Txt.join a ys)) H
theorem pe_joinK {X : Cx} (hK : X.K = K) {o e : Expr} {to te : TE} {apos pos : Pos} (ho : PE X o to) (he : PE X e te) (hs : starEach [e] X.env = [(false, eval e X.env)] := by rfl) (hbase : attributeBase o "join" X.env (eval o X.env) = eval o X.env := by rfl) (hline : (apos.endLine == pos.line) = true := by rfl) :
    PE X (.Call (.Attribute o "join" apos) [e] [] pos) (tM1 (rJoin K) to te) := by
  subst hK
  exact pe_join ho he hs hbase hline
theorem ed_join {a : Str} {ys : List Str} (h : ED K te σ H (.list (ys.map PyData.str))) (hz : (ys.map (·.length)).sum + ys.length * a.length ≤ 16777216) : ED K (tM1 (rJoin K) (tC (.str a)) te) σ H (.str (Txt.join a ys)) := fun H1 e1 Q q =>
  ⟨⟨a, rfl⟩, h H1 e1 _ fun v H2 e2 hv => by
    cases hv with
    | lst hs ha =>
      rw [dpa_strs ha] at hs
      exact ⟨a, _, ys, rfl, rfl, .inl hs.sq, hz, q _ H2 e2 (.str _)⟩⟩
theorem ed_joinM {a : Str} {ys : List Str} (h : EM K te σ H (ys.map PyData.str)) (hz : (ys.map (·.length)).sum + ys.length * a.length ≤ 16777216) : ED K (tM1 (rJoin K) (tC (.str a)) te) σ H (.str (Txt.join a ys)) := fun H1 e1 Q q =>
  ⟨⟨a, rfl⟩, h H1 e1 _ fun b xs H2 e2 hs ha => by
    rw [dpa_strs ha] at hs
    exact ⟨a, _, ys, rfl, rfl, .inl hs.sq, hz, q _ H2 e2 (.str _)⟩⟩
end My

namespace My
open PySem PySem.Spec PyProof.Rows L2 Evl
variable {K : PySem.W.Frag} {σ : L2.St} {H H0 : Hp} {ta tb te tc tl td : TE}
/-! ### repr of data -/
structure Shw (m b : Nat) (d : PyData) : Prop where
  sh : d.showable = true
  nd : d.hasDict = false
  dp : d.depth ≤ m
  ln : d.shown.length ≤ b
  ns : ∀ x, d ≠ .str x
def rReprD (K : PySem.W.Frag) : List V → Hp → VK → Prop := fun xs H Q => ∃ v d, xs = [v] ∧ Dq K H v d ∧ Shw 50 16000000 d ∧ Q (.str d.shown) H
theorem call_reprDK {X : Cx} (hK : X.K = K) (hg : X.A.guards = some []) (hu : X.A.units + 64 < cLine) : CallR X (.builtin "repr") (rReprD K) := by
  subst hK
  intro pins s σ H xs us Q I r h
  obtain ⟨v, d, rfl, hd, hs, q⟩ := h
  obtain ⟨u, rfl, ru⟩ := vals1 r
  have hz : d.shown.length ≤ sizeLine := Nat.le_trans hs.ln (by rw [sizeLine_eq]; decide)
  have hdp := hs.dp
  cases d with
  | none =>
    cases hd
    cases (show u = Value.none from ru)
    exact PySem.P.repr_of_none ⟨.str _, H, I.tok _, ⟨_, rfl⟩, q⟩
  | bool b =>
    cases hd
    cases (show u = Value.bool b from ru)
    exact PySem.P.repr_of_bool ⟨.str _, H, I.tok _, ⟨_, rfl⟩, q⟩
  | int i =>
    cases hd
    obtain ⟨t, rfl⟩ := ru
    exact PySem.P.repr_of_int (of_decide_eq_true hs.sh) ⟨.str _, H, I.tok _, ⟨_, rfl⟩, q⟩
  | str x => exact absurd rfl (hs.ns x)
  | list ds =>
    obtain ⟨as, hr⟩ := Dp.reads I (.list ds) v u hd.dp ru
    cases hd with
    | lst hq ha =>
      cases ru
      refine repr_of_reads' hr hs.sh (fun z => by rw [hs.nd] at z; cases z) hg (by omega) (fun _ _ e => e) (fun h' u tk hk => ?_) hz
      exact ⟨.str _, H, I.kept hk, ⟨_, rfl⟩, q⟩
  | tuple ds =>
    obtain ⟨as, hr⟩ := Dp.reads I (.tuple ds) v u hd.dp ru
    cases hd with
    | tup hq ha =>
      cases ru
      refine repr_of_reads' hr hs.sh (fun z => by rw [hs.nd] at z; cases z) hg (by omega) (fun _ _ e => e) (fun h' u tk hk => ?_) hz
      exact ⟨.str _, H, I.kept hk, ⟨_, rfl⟩, q⟩
  | dict kvs => cases hd
theorem rb_repr {d : PyData} (h : Shw 50 16000000 d) : RB K (rReprD K) [d] (.str d.shown) := fun H vs hv Q q => by
  obtain ⟨v, rfl, hd⟩ := dpa1 hv
  exact ⟨v, d, rfl, hd, h, q _ H (Ex.refl H) (.str _)⟩
theorem Shw.mono {m b m' b' : Nat} {d : PyData} (h : Shw m b d) (h1 : m ≤ m') (h2 : b ≤ b') : Shw m' b' d := ⟨h.sh, h.nd, Nat.le_trans h.dp h1, Nat.le_trans h.ln h2, h.ns⟩
theorem shw_int {i : Int} {k : Nat} (hk : 0 < k) (h : i.natAbs < 2 ^ k) (h2 : k ≤ 1920) : Shw 0 (k + 1) (.int i) := by
  have l := log2_of h hk
  refine ⟨?_, rfl, Nat.le_refl _, len_decI hk h, fun x e => by cases e⟩
  show decide (i.natAbs.log2 < 1920) = true
  exact decide_eq_true (by omega)
theorem shw_bool (b : Bool) : Shw 0 5 (.bool b) := ⟨rfl, rfl, Nat.le_refl _, by cases b <;> decide, fun x e => by cases e⟩
theorem shw_none : Shw 0 4 .none := ⟨rfl, rfl, Nat.le_refl _, by decide, fun x e => by cases e⟩
theorem shw_tup {m b k : Nat} {ds : List PyData} (h : ∀ d ∈ ds, Shw m b d) (hk : ds.length ≤ k) : Shw (m + 1) ((b + 2) * k + 3) (.tuple ds) := by
  have all : PyData.showableAll ds = true ∧ PyData.hasDictAll ds = false ∧ PyData.depthAll ds ≤ m ∧ (PyData.shownAll ds).length = ds.length ∧ ((PyData.shownAll ds).map (·.length)).sum ≤ b * ds.length := by
    clear hk
    induction ds with
    | nil => exact ⟨rfl, rfl, Nat.zero_le _, rfl, Nat.le_refl _⟩
    | cons d ds ih =>
      obtain ⟨h1, h2, h3, h4, h5⟩ := ih fun x hx => h x (List.mem_cons_of_mem _ hx)
      have hd := h d List.mem_cons_self
      refine ⟨?_, ?_, ?_, ?_, ?_⟩
      · show (d.showable && PyData.showableAll ds) = true
        rw [hd.sh, h1]; rfl
      · show (d.hasDict || PyData.hasDictAll ds) = false
        rw [hd.nd, h2]; rfl
      · show max d.depth (PyData.depthAll ds) ≤ m
        have := hd.dp
        omega
      · show (PyData.shownAll ds).length + 1 = ds.length + 1
        rw [h4]
      · show d.shown.length + ((PyData.shownAll ds).map (·.length)).sum ≤ b * (ds.length + 1)
        have := hd.ln
        rw [Nat.mul_succ]
        omega
  obtain ⟨h1, h2, h3, h4, h5⟩ := all
  refine ⟨h1, h2, Nat.succ_le_succ h3, ?_, fun x e => by cases e⟩
  show (tupleText (PyData.shownAll ds)).length ≤ _
  have t := tupleText_len_le (PyData.shownAll ds)
  have u : (b + 2) * ds.length ≤ (b + 2) * k := Nat.mul_le_mul_left _ hk
  rw [Nat.add_mul] at u
  omega
theorem shw_eF {q : Rat} {k : Nat} (hk : 0 < k) (h : Sm k q) (h2 : k ≤ 1920) : Shw 1 ((k + 1 + 2) * 2 + 3) (eF q) := shw_tup (fun d hd => by
  rcases List.mem_cons.mp hd with rfl | hd
  · exact shw_int hk h.1 h2
  · rw [List.mem_singleton.mp hd]
    exact shw_int hk h.2 h2) (Nat.le_refl _)
theorem shw_eN {n : Num} (h : Can n) (s : SmN 60 n) : Shw 3 2670003 (eN n) := by
  have := shw_tup (m := 2) (b := 265) (k := 10000) (ds := n.map ePw) (fun d hd => by
    obtain ⟨x, hx, rfl⟩ := List.mem_map.mp hd
    have a := shw_eF (by decide) (s x hx) (by decide)
    have b := shw_int (i := (x.1 : Int)) (k := 14) (by decide) (by have := (h.w x hx).1; show x.1 < _; omega) (by decide)
    refine (shw_tup (m := 1) (b := 129) (k := 2) (fun d hd => ?_) (Nat.le_refl _)).mono (by decide) (by decide)
    rcases List.mem_cons.mp hd with rfl | hd
    · exact b.mono (by decide) (by decide)
    · rw [List.mem_singleton.mp hd]
      exact a.mono (by decide) (by decide)) (by rw [List.length_map]; exact h.len)
  exact this.mono (by decide) (by decide)
/-! ### comparing texts, None -/
theorem rd_neS {a b : Str} : RD K rNe (.str a) (.str b) (.bool (!decide (a = b))) := fun H x y hx hy Q q => by
  cases hx; cases hy
  refine ⟨rfl, ?_⟩
  have e : decide (V.str a = V.str b) = decide (a = b) := decide_eq_decide.mpr ⟨fun h => by cases h; rfl, fun h => by rw [h]⟩
  rw [e]
  exact q _ H (Ex.refl H) (.bl _)
theorem ne_same (a : Str) : (PyData.bool (!decide (a = a))) = .bool false := by simp
def isNonD : PyData → Bool
  | .none => true
  | _ => false
theorem rd_isN {d : PyData} : RD K (fun x y H Q => y = .non ∧ Q (.bl (decide (x = .non))) H) d .none (.bool (isNonD d)) := fun H x y hx hy Q q => by
  cases hy
  refine ⟨rfl, ?_⟩
  have e : decide (x = V.non) = isNonD d := by
    cases hx <;> first | rfl | simp
  rw [e]
  exact q _ H (Ex.refl H) (.bl _)
theorem rd_notN {d : PyData} : RD K (fun x y H Q => y = .non ∧ Q (.bl (!decide (x = .non))) H) d .none (.bool (!isNonD d)) := fun H x y hx hy Q q => by
  cases hy
  refine ⟨rfl, ?_⟩
  have e : decide (x = V.non) = isNonD d := by
    cases hx <;> first | rfl | simp
  rw [e]
  exact q _ H (Ex.refl H) (.bl _)
/-! ### unpacking a list -/
theorem pg_unlK {X : Cx} (h : X.K = K) {es : List Expr} {k : Nat} {t : TGs} {pos : Pos} {n : Nat} (hc : X.calm = true) (h2 : PGs X es t)
    (hn : (assignEach es X.env).length = n := by rfl) (hst : (assignEach es X.env).findIdx? (·.1) = none := by rfl) : PG X (.Tuple es k pos) (gUnl K n t) := by
  subst h
  exact pg_unl hc h2 hn hst
variable {D : Ends} {tz : TS}
theorem q_unl2 {i j : Nat} {x y : PyData} (h : ED K te σ H (.list [x, y])) (k : ∀ a b H1, Ex H H1 → Dq K H1 a x → Dq K H1 b y → tz D ((σ.set i (some a)).set j (some b)) H1) : tSeq (tAsg te (gUnl K 2 (gCons (gName i) (gCons (gName j) gNil)))) tz D σ H :=
  h H (Ex.refl H) _ fun v H1 e1 hv => by
    cases hv with
    | lst hs ha =>
      obtain ⟨u, w, rfl, h1, h2⟩ := dpa2 ha
      exact ⟨_, _, rfl, hs.sq, rfl, _, _, rfl, _, _, rfl, rfl, k u w H1 e1 h1 h2⟩
theorem ed_reprNe {d : PyData} (ha : ED K ta σ H d) (hb : ED K tb σ H d) (hs : Shw 50 16000000 d) : ED K (tOp rNe (tCB (rReprD K) (tCons ta tNil)) (tCB (rReprD K) (tCons tb tNil))) σ H (.bool false) :=
  ed_is (ed_op (ed_cb (ea_cons ha ea_nil) (rb_repr hs)) (ed_cb (ea_cons hb ea_nil) (rb_repr hs)) rd_neS) (ne_same _)
/-! ### law k05's facts -/
def FrQ (q : Rat) : Prop := 1 ≤ q.num ∧ q.num ≤ 9999 ∧ q.den ≤ 9999
theorem fr_mk {t l : Nat} (t1 : 1 ≤ t) (t2 : t ≤ 9999) (l1 : 1 ≤ l) (l2 : l ≤ 9999) : FrQ (mkRat t l) := by
  have n1 := norm_num (t : Int) l (by omega)
  have d1 := norm_den (t : Int) l (by omega)
  have g0 : 0 < Int.gcd (t : Int) (l : Int) := Nat.gcd_pos_of_pos_left _ (by omega)
  have gle : Int.gcd (t : Int) (l : Int) ∣ t := Nat.gcd_dvd_left t l
  generalize Int.gcd (t : Int) (l : Int) = g at n1 d1 g0 gle
  have e1 : (t : Int) / (g : Int) = ((t / g : Nat) : Int) := (Int.natCast_ediv t g).symm
  have e2 : (l : Int) / (g : Int) = ((l / g : Nat) : Int) := (Int.natCast_ediv l g).symm
  rw [e1] at n1
  rw [e2] at d1
  have a1 := Nat.div_le_self t g
  have a2 := Nat.div_le_self l g
  have a3 : 1 ≤ t / g := Nat.div_pos (Nat.le_of_dvd (by omega) gle) g0
  exact ⟨by omega, by omega, by omega⟩
noncomputable def nOf (q : Rat) : Num := nfrac q.num.toNat q.den
section
variable {q r : Rat}
theorem FrQ.t1 (h : FrQ q) : 1 ≤ q.num.toNat := by have := h.1; omega
theorem FrQ.t2 (h : FrQ q) : q.num.toNat ≤ 9999 := by have := h.2.1; omega
theorem FrQ.tw (h : FrQ q) : TwN 624 (nOf q) := tw_nfrac h.t1 h.t2 (den_pos q) h.2.2
theorem FrQ.ratio (h : FrQ q) : Ratio (ev (nOf q)) q.num.toNat q.den := ratio_nfrac h.t1 h.t2 (den_pos q) h.2.2
theorem FrQ.int (h : FrQ q) : IntN (ev (nOf q)) := int_nf _ _
theorem fr_told (h : FrQ q) : told (nOf q) = eF q ∧ q.num = upR (ev (nOf q)) ∧ q.den = dnR (ev (nOf q)) := by
  have := told_ratio (a := q.num) (b := q.den) h.tw.ok h.int (by have := h.1; omega) q.den_nz h.ratio
  rw [Rat.mkRat_self] at this
  exact this
theorem fr_times (h : FrQ q) (h' : FrQ r) : told (nmul (nOf q) (nOf r)) = eF (q * r) := by
  have a := h.1
  have b := h'.1
  have hr := ratio_nmul h.tw.ok h'.tw.ok h.int h'.int h.ratio h'.ratio
  have e : (q.num * r.num).toNat = q.num.toNat * r.num.toNat := Int.toNat_mul (by omega) (by omega)
  rw [← e] at hr
  have := told_ratio (a := q.num * r.num) (b := q.den * r.den) (ok_nmul h.tw.ok h'.tw.ok) (int_nmul h.int h'.int) (Int.mul_nonneg (by omega) (by omega)) (dens_ne q r) hr
  rw [mul_mk]
  exact this.1
theorem fr_sq (h : FrQ q) : told (npow (nOf q) (((-2 : Int)) : Rat)) = .tuple [.int ((q.den : Int) ^ 2), .int (q.num ^ 2)] := by
  obtain ⟨_, e1, e2⟩ := fr_told h
  rw [told_sq h.tw.ok h.int, e1, e2]
theorem fr_less (h : FrQ q) (h' : FrQ r) : decide (lvl (nOf q) (nOf r) < 0) = decide (q.num * (r.den : Int) < r.num * (q.den : Int)) := by
  have a := h.1
  have b := h'.1
  have := lvl_lt h.tw.ok h'.tw.ok h.int h'.int h.ratio h'.ratio (Nat.mul_pos (den_pos q) h'.t1)
  rw [show ((q.num.toNat : Nat) : Int) = q.num by omega, show ((r.num.toNat : Nat) : Int) = r.num by omega] at this
  exact this
theorem sm_big {n : Num} {b : Nat} (h : TwN b n) (hb : b ≤ 16000) : SmN 14 n := h.sm (Nat.lt_of_le_of_lt hb (by decide)) (by decide)
theorem fr_lv (h : FrQ q) (h' : FrQ r) : LvOk (nOf q) (nOf r) := by
  have hd := int_ndiv h.int h'.int
  have od := ok_ndiv h.tw.ok h'.tw.ok
  refine ⟨h.tw.ok, h'.tw.ok, (sm_big h.tw (by decide)).mono (by decide), (sm_big h'.tw (by decide)).mono (by decide), ?_, ?_⟩
  · rw [lcm_one od.asc hd]
    exact Nat.lt_of_lt_of_le (show 1 < 2 ^ 1 by decide) (Nat.pow_le_pow_right (by decide) (by decide))
  · rw [wholes_int od.asc hd]
    exact Nat.le_trans (h.tw.div h'.tw).bits (by decide)
theorem fr_sm (h : FrQ q) : Sm 14 q := ⟨by have := h.1; have := h.2.1; omega, by have := h.2.2; omega⟩
end
theorem tw_two : Tw 144 (((-2 : Int)) : Rat) := ⟨-24, by
  have : ((-24 : Int) : Rat) = -24 := rfl
  have : ((-2 : Int) : Rat) = -2 := rfl
  grind, by decide⟩
theorem shw_told {n : Num} (h : TwN 14976 n) : Shw 50 16000000 (told n) := by
  unfold told
  by_cases hp : isPl n = true
  · rw [if_pos hp]
    have hb := h.bits12 (isPl_int h.ok.can hp)
    have ab := above_ups (numsL n)
    have l1 : prodL (upsOf (numsL n)) < 2 ^ 1900 := Nat.lt_of_le_of_lt prod_le (Nat.pow_lt_pow_right (by decide) (by omega))
    have l2 : prodL (downsOf (numsL n)) < 2 ^ 1900 := Nat.lt_of_le_of_lt prod_le (Nat.pow_lt_pow_right (by decide) (by omega))
    refine (shw_tup (m := 0) (b := 1901) (k := 2) (fun d hd => ?_) (Nat.le_refl _)).mono (by decide) (by decide)
    rcases List.mem_cons.mp hd with rfl | hd
    · exact shw_int (by decide) l1 (by decide)
    · rw [List.mem_singleton.mp hd]
      exact shw_int (by decide) l2 (by decide)
  · rw [if_neg hp]
    exact shw_none.mono (by decide) (by decide)
theorem told_some {n : Num} (h : isPl n = true) : isNonD (told n) = false := by
  unfold told
  rw [if_pos h]
  rfl
/-- two, and its root -/
def twoN : Num := [(2, 1)]
theorem pr_two : Pr 2 := ⟨by decide, by decide⟩
theorem ok_two : NumOk twoN := ⟨List.pairwise_singleton _ _, fun x hx => by
  rw [List.mem_singleton.mp hx]
  exact ⟨pr_two, by decide, by decide⟩⟩
theorem two_data : eN twoN = .tuple [.tuple [.int 2, .tuple [.int 1, .int 1]]] := rfl
theorem half_data : eF (mkRat 1 2) = .tuple [.int 1, .int 2] := by
  have n1 := norm_num 1 2 (by decide)
  have d1 := norm_den 1 2 (by decide)
  unfold eF
  rw [n1, d1]
  rfl
theorem half_none : told (npow twoN (mkRat 1 2)) = .none := by
  unfold told
  rw [if_neg]
  intro h
  have hi := isPl_int (can_canE _) h 2
  have e : ev (canE fun p => ev twoN p * mkRat 1 2) 2 = mkRat 1 2 := by
    rw [ev_canE (by decide)]
    have : ev twoN 2 = 1 := by
      show (if (2 : Nat) = 2 then (1 : Rat) else 0) + 0 = 1
      rw [if_pos rfl, Rat.add_zero]
    rw [this, Rat.one_mul]
  rw [e] at hi
  have d1 := norm_den 1 2 (by decide)
  rw [hi] at d1
  exact absurd d1 (by decide)
theorem sm_half : Sm 4 (mkRat 1 2) := mk_sm (by decide) (by decide) (by decide)
theorem sm_twoN : SmN 4 twoN := fun x hx => by
  rw [List.mem_singleton.mp hx]
  exact ⟨by decide, by decide⟩
/-- a drawn fraction -/
def FrD (d : PyData) : Prop := ∃ q : Rat, FrQ q ∧ d = eF q
theorem frd_imm (d : PyData) (h : FrD d) : imm d = true := by
  obtain ⟨q, _, rfl⟩ := h
  rfl
def spRight (K : PySem.W.Frag) : Sp := fun vs H Q _ => ∃ p, vs = [.ref p] ∧ PotAt p 0 H ∧ ∀ H', Go p H H' → Q (.bl true) H'
theorem len_spRight {vs : List V} {Q : VK} {E : XK} (h : spRight K vs H Q E) : vs.length = 1 := by
  obtain ⟨p, rfl, _⟩ := h
  rfl
def rCells (ds : List PyData) (d : PyData) : Prop := ∃ (ns : List Int) (l : Nat), ds = [.list (ns.map PyData.int), .int l] ∧ ns.length ≤ 64 ∧ d = .list ((List.range (max 1 (min l ns.length))).map fun n : Nat => PyData.int n)
abbrev spCells (K : PySem.W.Frag) : Sp := spR K 2 rCells
def spLaw (K : PySem.W.Frag) : Sp := fun vs H Q _ => ∃ (a : Addr) (ns : List Int), vs = [.ref a] ∧ FqL K H a (ns.map V.int) ∧ ns.length ≤ 64 ∧ ∀ H', Ex H H' → Q (.bl true) H'
theorem len_spLaw {vs : List V} {Q : VK} {E : XK} (h : spLaw K vs H Q E) : vs.length = 1 := by
  obtain ⟨a, ns, rfl, _⟩ := h
  rfl
/-- a fresh pot, and what is told of it -/
theorem ed_right {E1 E2 : XK} {i j : Nat} {a : Addr} {ns : List Int} {n : Nat} (h1 : σ[i]? = some (some (.ref a))) (hs : FqL K H a (ns.map V.int)) (hl : ns.length ≤ 64) (h2 : σ[j]? = some (some (.int n))) (hn : n ≤ 64) :
    ED K (tCall (spRight K) [] E1 (tCons (tCall (spPot K) [] E2 (tCons (tVar i) (tCons (tVar j) tNil))) tNil)) σ H (.bool true) := fun H1 e1 Q q =>
  ⟨_, h1, _, h2, a, ns, n, rfl, hs.ex e1, hl, hn, fun p H2 hp e2 pot => ⟨p, rfl, pot, fun H3 g3 => q _ H3 (fun b o hb => g3 b o (fun z => by rw [z, hp] at hb; cases hb) (e2 b o hb)) (.bl true)⟩⟩
theorem dpa_map {α : Type} {f : α → V} {g : α → PyData} (h : ∀ x, Dq K H (f x) (g x)) : ∀ xs : List α, DqAll K H (xs.map f) (xs.map g)
  | [] => .nil
  | x :: xs => .cons (h x) (dpa_map h xs)
theorem ed_range {n : Nat} (h : ED K te σ H (.int n)) (hn : n ≤ 1000) : ED K (tFrz (tLstRg (tRg1 te))) σ H (.list ((List.range n).map fun n : Nat => PyData.int n)) := fun H1 e1 Q q =>
  h H1 e1 _ fun v H2 e2 hv => by
    cases hv
    refine ⟨n, rfl, RgOk.of_le (by decide) (by omega) (by decide) (by omega), fun a ha => frz_done e2 ha (Ex.new ha) upd_same ?_ q⟩
    unfold rgV
    rw [show ((n : Int) - 0).toNat = n by omega]
    exact dpa_map (fun i => by rw [Int.zero_add]; exact .int _) _
theorem lt_8000 {t : Nat} (h : t ≤ 9999) : t < 2 ^ 8000 := Nat.lt_of_lt_of_le (show t < 2 ^ 14 by omega) (Nat.pow_le_pow_right (by decide) (by decide))
theorem shw_q {q : Rat} (h : Sm 28 q) : Shw 50 16000000 (eF q) := (shw_eF (by decide) h (by decide)).mono (by decide) (by decide)
theorem shw_n {n : Num} (h : TwN 624 n) : Shw 50 16000000 (eN n) := (shw_eN h.ok.can ((sm_big h (by decide)).mono (by decide))).mono (by decide) (by decide)
theorem shw_sq {q : Rat} (h : FrQ q) : Shw 50 16000000 (.tuple [.int ((q.den : Int) ^ 2), .int (q.num ^ 2)]) := by
  have a := fr_sm h
  have p : ∀ i : Int, i.natAbs < 2 ^ 14 → (i ^ 2).natAbs < 2 ^ 28 := fun i hi => by
    rw [Int.natAbs_pow]
    have := Nat.pow_lt_pow_left hi (show 2 ≠ 0 by decide)
    exact this
  refine (shw_tup (m := 0) (b := 29) (k := 2) (fun d hd => ?_) (Nat.le_refl _)).mono (by decide) (by decide)
  rcases List.mem_cons.mp hd with rfl | hd
  · exact shw_int (by decide) (p _ a.2) (by decide)
  · rw [List.mem_singleton.mp hd]
    exact shw_int (by decide) (p _ a.1) (by decide)
theorem fr_mul_lt {q r : Rat} (h : FrQ q) (h' : FrQ r) : CMulX q.num (r.den : Int) := mulx_ok (a := 14) (b := 14) (fr_sm h).1 (fr_sm h').2 (by decide)
theorem fr_pow {q : Rat} (h : FrQ q) : CPow q.num 2 ∧ CPow (q.den : Int) 2 := by
  have a := fr_sm h
  refine ⟨⟨by decide, by decide, ?_⟩, ⟨by decide, by decide, ?_⟩⟩
  · have := a.1; omega
  · have := a.2; show q.den < _; omega
theorem eF_neg2 : eF (((-2 : Int)) : Rat) = .tuple [.int (-2), .int 1] := eF_int (-2)
theorem lcm_le {b : Nat} {n : Num} (h : TwN b n) (i : Nat) : lcmN (n.take i) ≤ 12 ∧ 0 < lcmN (n.take i) := ⟨Nat.le_trans (lcm_take n i).1 (Nat.le_of_dvd (by decide) h.lcm), (lcm_take n i).2⟩
theorem den_le {b : Nat} {n : Num} (h : TwN b n) {x : Nat × Rat} (hx : x ∈ n) : x.2.den ≤ 12 := by
  have := h.tw x.1
  rw [ev_mem h.ok.asc hx] at this
  exact Nat.le_of_dvd (by decide) (tw_den this).1
end My

namespace My
open PySem PySem.Spec PyProof.Rows L2 He
/-! ### the head's facts, and one Bool of one's own about the written part -/
abbrev AlM : Type := AlD × Bool
def obsM (n : Nat) (fa : List Fa) (fn : List DefD) (ex : PySem.W.Frag → Bool) (g : Addr → Option Obj) : AlM := (obsDG n fa fn g, ex (frG g (asD g n)))
def hookM (n : Nat) (fa : List Fa) (fn : List DefD) (ex : PySem.W.Frag → Bool) : PySem.W.Hook where
  α := AlM
  obs := fun s => obsM n fa fn ex s.heap.get?
  val := fun _ => (valD fn, true)
  says := fun _ h => ∃ K : PySem.W.Frag, K.In h ∧ SaysD fa fn K ∧ ex K = true
  of := fun _ _ e => ⟨_, frG_in, congrArg (fun z : AlM => z.1) e, congrArg (fun z : AlM => z.2) e⟩
  keeps := fun _ _ _ ⟨K, hK, c⟩ k => ⟨K, PySem.W.Frag.In.keeps hK k, c⟩
theorem obsM_eq {n : Nat} {fa : List Fa} {fn : List DefD} {ex : PySem.W.Frag → Bool} {g : Addr → Option Obj} {s : Shared} (h : ∀ a, g a = s.heap.get? a) : obsM n fa fn ex g = (hookM n fa fn ex).obs s := by
  have same : g = s.heap.get? := funext h
  subst same
  rfl
/-! ### constants of the text: plain data -/
def cAll (f : PyData → Value → Bool) : List PyData → List Value → Bool
  | [], [] => true
  | d :: ds, u :: us => f d u && cAll f ds us
  | _, _ => false
def cV (K : PySem.W.Frag) : Nat → PyData → Value → Bool
  | 0, _, _ => false
  | n + 1, d, u => match d, u with
    | .none, .none => true
    | .bool b, .bool c => b == c
    | .int i, .int j _ => decide (i = j)
    | .str x, .str y _ => decide (x = y)
    | .tuple ds, .ref a => (match K.lookup a with
      | some ⟨.type c, none, .seq its _, _⟩ => decide (c = "tuple") && (decide (its.size ≤ sizeLine) && cAll (cV K n) ds its.toList)
      | _ => false)
    | _, _ => false
theorem cAll_ok {K : PySem.W.Frag} {f : PyData → Value → Bool} (hf : ∀ d u, f d u = true → ∃ v, RelV v u ∧ ∀ H, Dq K H v d) : ∀ (ds : List PyData) (us : List Value), cAll f ds us = true → ∃ vs, Vals vs us ∧ ∀ H, DqAll K H vs ds
  | [], [], _ => ⟨[], .nil, fun _ => .nil⟩
  | [], _ :: _, h => by cases h
  | _ :: _, [], h => by cases h
  | d :: ds, u :: us, h => by
    have h : (f d u && cAll f ds us) = true := h
    rw [Bool.and_eq_true] at h
    obtain ⟨v, r, hd⟩ := hf d u h.1
    obtain ⟨vs, rs, hds⟩ := cAll_ok hf ds us h.2
    exact ⟨v :: vs, .cons r rs, fun H => .cons (hd H) (hds H)⟩
theorem cV_ok {K : PySem.W.Frag} : ∀ (n : Nat) (d : PyData) (u : Value), cV K n d u = true → ∃ v, RelV v u ∧ ∀ H, Dq K H v d
  | 0, _, _, h => by cases h
  | n + 1, d, u, h => by
    cases d with
    | none =>
      cases u with
      | none => exact ⟨.non, rfl, fun _ => .non⟩
      | _ => cases h
    | bool b =>
      cases u with
      | bool c =>
        have : b = c := by simpa [cV] using h
        subst this
        exact ⟨.bl b, rfl, fun _ => .bl b⟩
      | _ => cases h
    | int i =>
      cases u with
      | int j t =>
        have : i = j := by simpa [cV] using h
        subst this
        exact ⟨.int i, ⟨t, rfl⟩, fun _ => .int i⟩
      | _ => cases h
    | str x =>
      cases u with
      | str y t =>
        have : x = y := by simpa [cV] using h
        subst this
        exact ⟨.str x, ⟨t, rfl⟩, fun _ => .str x⟩
      | _ => cases h
    | tuple ds =>
      cases u with
      | ref a =>
        unfold cV at h
        simp only at h
        cases q : K.lookup a with
        | none =>
          rw [q] at h
          cases h
        | some o =>
          obtain ⟨oc, od, dt, osl⟩ := o
          rw [q] at h
          cases oc with
          | type c =>
            cases od with
            | none =>
              cases dt with
              | seq its m =>
                have h : (decide (c = "tuple") && (decide (its.size ≤ sizeLine) && cAll (cV K n) ds its.toList)) = true := h
                rw [Bool.and_eq_true, Bool.and_eq_true] at h
                obtain ⟨h1, h3, h4⟩ := h
                obtain ⟨vs, r, hd⟩ := cAll_ok (cV_ok n) ds its.toList h4
                exact ⟨.ref a, rfl, fun H => .tup (.inr ⟨_, its, m, q, congrArg Value.type (of_decide_eq_true h1), rfl, of_decide_eq_true h3, r, rfl⟩) (hd H)⟩
              | _ => cases h
            | some a => cases dt <;> cases h
          | _ => cases od <;> cases dt <;> cases h
      | _ => cases h
    | list _ => cases u <;> cases h
    | dict _ => cases u <;> cases h
/-- the module's name x is a plain tuple of these -/
def tupC (K : PySem.W.Frag) (x : Str) (ds : List PyData) : Bool := cV K 8 (.tuple ds) (.ref (He.ga K x))
theorem tupC_ok {K : PySem.W.Frag} {x : Str} {ds : List PyData} (h : tupC K x ds = true) (H : Hp) : Dq K H (.ref (He.ga K x)) (.tuple ds) := by
  obtain ⟨v, r, hd⟩ := cV_ok _ _ _ h
  have e : v = .ref (He.ga K x) := by
    cases hd H with
    | tup _ _ => cases r; rfl
  rw [← e]
  exact hd H
end My

namespace My
open PySem PySem.Spec PyProof.Rows L2 Evl TL
variable {K : PySem.W.Frag} {σ : L2.St} {H H0 : Hp} {ta tb te tc tl' td : TE} {tt : TT} {D : Ends} {tu tz : TS} {vs : List Nat} {g : TG}
/-! ### texts as lists of signs -/
def mkS (l : List Nat) : Str := ⟨l.toArray⟩
theorem tl_mkS (l : List Nat) : tl (mkS l) = l := rfl
theorem mkS_tl (x : Str) : mkS (tl x) = x := mk_tl x
theorem mkS_len (l : List Nat) : (mkS l).length = l.length := by
  rw [len_tl, tl_mkS]
theorem mkS_inj {a b : List Nat} : (mkS a = mkS b) ↔ a = b := ⟨fun h => by have := congrArg tl h; exact this, fun h => by rw [h]⟩
theorem eqS_iff {x y : Str} : x = y ↔ tl x = tl y := ⟨fun h => by rw [h], fun h => ext_tl h⟩
/-! rules -/
theorem rd_eqS {a b : Str} : RD K rEq (.str a) (.str b) (.bool (decide (a = b))) := fun H x y hx hy Q q => by
  cases hx; cases hy
  refine ⟨rfl, ?_⟩
  have e : decide (V.str a = V.str b) = decide (a = b) := decide_eq_decide.mpr ⟨fun h => by cases h; rfl, fun h => by rw [h]⟩
  rw [e]
  exact q _ H (Ex.refl H) (.bl _)
theorem rd_inS {c : Nat} {z : Str} : RD K (fun x y H Q => ∃ (c : Nat) (z : Str), x = .str ⟨#[c]⟩ ∧ y = .str z ∧ Q (.bl (decide (c ∈ z.cps.toList))) H) (.str (mkS [c])) (.str z) (.bool (decide (c ∈ tl z))) := fun H x y hx hy Q q => by
  cases hx; cases hy
  exact ⟨c, z, rfl, rfl, q _ H (Ex.refl H) (.bl _)⟩
theorem rd_ixS {z : Str} {i c : Nat} (h : (tl z)[i]? = some c) (hz : z.length ≤ 1000000) : RD K rIxS (.str z) (.int (i : Int)) (.str (mkS [c])) := fun H x y hx hy Q q => by
  cases hx; cases hy
  exact ⟨z, _, c, rfl, rfl, Nat.le_trans hz (by rw [sizeLine_eq]; decide), atI_nat h, q _ H (Ex.refl H) (.str _)⟩
theorem ed_slS1 {z : Str} {i : Nat} (h : ED K te σ H (.str z)) (hz : z.length ≤ 1000000) : ED K (tSl rSlS te (tPart (tC (.int (i : Int)))) tNoPart) σ H (.str (mkS ((tl z).drop i))) := fun H1 e1 Q q =>
  h H1 e1 _ fun v H2 e2 hv => by
    cases hv
    refine ⟨_, rfl, z, rfl, Nat.le_trans hz (by rw [sizeLine_eq]; decide), ?_⟩
    have e : cutS z (some (i : Int)) none = mkS ((tl z).drop i) := by
      unfold cutS mkS
      rw [HT.sIx_nat, HT.sIx_none, List.take_of_length_le]
      · congr 2
        show List.drop (min i z.length) (tl z) = _
        rw [len_tl]
        by_cases hi : i ≤ (tl z).length
        · rw [Nat.min_eq_left hi]
        · rw [Nat.min_eq_right (by omega), List.drop_of_length_le (Nat.le_refl _), List.drop_of_length_le (by omega)]
      · rw [List.length_drop]
        have := len_tl z
        show (tl z).length - _ ≤ _
        omega
    rw [e]
    exact q _ H2 e2 (.str _)
theorem ed_slS2 {z : Str} {i : Nat} (h : ED K te σ H (.str z)) (hz : z.length ≤ 1000000) : ED K (tSl rSlS te tNoPart (tPart (tC (.int (i : Int))))) σ H (.str (mkS ((tl z).take i))) := fun H1 e1 Q q =>
  h H1 e1 _ fun v H2 e2 hv => by
    cases hv
    refine ⟨_, rfl, z, rfl, Nat.le_trans hz (by rw [sizeLine_eq]; decide), ?_⟩
    have e : cutS z none (some (i : Int)) = mkS ((tl z).take i) := by
      unfold cutS mkS
      rw [HT.sIx_nat, HT.sIx_none, List.drop_zero, Nat.sub_zero]
      congr 2
      show List.take (min i z.length) (tl z) = _
      rw [len_tl, ← List.take_eq_take_min]
    rw [e]
    exact q _ H2 e2 (.str _)
/-- for c in text -/
theorem q_forS {z : Str} {j : Nat} (h : ED K te σ H (.str z)) (Pv : Nat → L2.St → Hp → Prop) (h0 : ∀ H1, Ex H H1 → Pv 0 σ H1)
    (hs : ∀ i c σ' H', (tl z)[i]? = some c → Pv i σ' H' → tu { D with nx := Pv (i + 1), ct := Pv (i + 1), bk := tz D } (σ'.set j (some (.str (mkS [c])))) H') (hd : ∀ σ' H', Pv (tl z).length σ' H' → tz D σ' H') : tSeq (tFor (iStr te) (gName j) tu) tz D σ H :=
  h H (Ex.refl H) _ fun v H1 e1 hv => by
    cases hv
    refine ⟨z, rfl, ?_⟩
    have hz : z.cps.size = (tl z).length := by rw [← len_tl]; rfl
    refine ⟨fun i m σ' H' => m = (tl z).length - i ∧ i ≤ (tl z).length ∧ Pv i σ' H', ⟨_, rfl, Nat.zero_le _, h0 H1 e1⟩, ?_⟩
    rintro i m σ' H' ⟨rfl, hi, P⟩
    by_cases hlt : i < (tl z).length
    · refine .inr ⟨by show i < z.cps.size; omega, Pv (i + 1), fun σ2 H2 p2 => ⟨_, by omega, rfl, hlt, p2⟩, ?_⟩
      rintro x H2 ⟨rfl, c, hc, rfl⟩
      exact hs i c σ' H2 (by rw [← hc]; exact (Array.getElem?_toList).symm ▸ rfl) P
    · refine .inl ⟨by show z.cps.size ≤ i; omega, ?_⟩
      have : i = (tl z).length := by omega
      subst this
      exact hd _ _ P
/-- [.. for c in text] -/
theorem nl_str {z : Str} {j : Nat} (g : Nat → PyData) (h : ED K te σ H (.str z)) (hz : (tl z).length ≤ 40000) (him : ∀ c, imm (g c) = true) (hw : ∀ a, wipe ((wipe σ vs).set j (some a)) vs = wipe σ vs)
    (turn : ∀ c ∈ tl z, ∀ H1, Ex H H1 → ED K ta ((wipe σ vs).set j (some (.str (mkS [c])))) H1 (g c)) : NL K (tLc (iStr te) (gName j) tYes ta vs) σ H ((tl z).map g) := fun H0 e0 Q q => h H0 e0 _ fun v H1 e1 hv => by
  cases hv
  refine ⟨z, rfl, fun Dl hD => ?_⟩
  have hzs : z.cps.size = (tl z).length := by rw [← len_tl]; rfl
  refine ⟨fun i m H' => m = (tl z).length - i ∧ i ≤ (tl z).length ∧ Cq K H1 Dl (((tl z).take i).map g) H', ⟨_, rfl, Nat.zero_le _, cq_nil hD⟩, ?_⟩
  rintro i m H' ⟨rfl, hi, p⟩
  by_cases hlt : i < (tl z).length
  · refine .inr ⟨by show i < z.cps.size; omega, fun H2 => Cq K H1 Dl (((tl z).take (i + 1)).map g) H2, fun H2 p2 => ⟨_, by omega, rfl, hlt, p2⟩, ?_⟩
    rintro x H2 ⟨rfl, c, hc, rfl⟩
    have hc2 : (tl z)[i]? = some c := by rw [← hc]; exact (Array.getElem?_toList).symm ▸ rfl
    refine ⟨hw _, ?_⟩
    have key := cq_turn (K := K) (tt := tYes) (b := true) (z := g c) (te := ta) (e0.trans e1) p (by rw [List.length_map, List.length_take]; omega) (fun H3 _ Q3 q3 => q3 H3 (Ex.refl H3))
      (fun _ => turn c (List.mem_of_getElem? hc2) H2 ((e0.trans e1).trans p.2.1)) (fun _ => him c)
    rw [if_pos rfl] at key
    rw [List.take_succ, hc2, List.map_append]
    exact key
  · refine .inl ⟨by show z.cps.size ≤ i; omega, ?_⟩
    obtain ⟨p1, p2, p3, acc, p4, p5⟩ := p
    rw [List.take_of_length_le (by omega)] at p5
    exact q _ acc H' (none_of_ex e1 p1) (e1.trans p2) p4 p5
theorem el_str {z : Str} {j : Nat} (g : Nat → PyData) (h : ED K te σ H (.str z)) (hz : (tl z).length ≤ 40000) (him : ∀ c, imm (g c) = true) (hw : ∀ a, wipe ((wipe σ vs).set j (some a)) vs = wipe σ vs)
    (turn : ∀ c ∈ tl z, ∀ H1, Ex H H1 → ED K ta ((wipe σ vs).set j (some (.str (mkS [c])))) H1 (g c)) : ED K (tFrz (tLc (iStr te) (gName j) tYes ta vs)) σ H (.list ((tl z).map g)) := ed_frz (nl_str g h hz him hw turn)
theorem es_partition {x y : Str} (h : ED K te σ H (.str x)) (h2 : ED K ta σ H (.str y)) (hy : (y.length == 0) = false) (hx : x.length ≤ 16000000) : ES K (tM1 (fun x xs H Q => ∃ a b, x = .str a ∧ xs = [.str b] ∧ (b.length == 0) = false ∧ a.length ≤ sizeLine ∧
    ∀ p, H p = none → Q (.ref p) (upd H p (.tup [.str (Txt.partition a b).1, .str (Txt.partition a b).2.1, .str (Txt.partition a b).2.2]))) te ta) σ H [.str (Txt.partition x y).1, .str (Txt.partition x y).2.1, .str (Txt.partition x y).2.2] := fun H1 e1 Q q =>
  h H1 e1 _ fun v H2 e2 hv => by
    cases hv
    refine ⟨⟨x, rfl⟩, h2 H2 (e1.trans e2) _ fun w H3 e3 hw => ?_⟩
    cases hw
    exact ⟨x, y, rfl, rfl, hy, Nat.le_trans hx (by rw [sizeLine_eq]; decide), fun p hp => q _ _ _ ((e2.trans e3).trans (Ex.new hp)) (st_of upd_same) (.cons (.str _) (.cons (.str _) (.cons (.str _) .nil)))⟩
theorem ed_split {x y : Str} (h : ED K te σ H (.str x)) (h2 : ED K ta σ H (.str y)) (hy : (y.length == 0) = false) (hx : x.length ≤ 16000000) : ED K (tFrz (tM1 (fun x xs H Q => ∃ a b, x = .str a ∧ xs = [.str b] ∧ (b.length == 0) = false ∧ a.length + 2 ≤ sizeLine ∧ rNewStrs (Txt.split a b) H Q) te ta)) σ H (.list ((Txt.split x y).map PyData.str)) := fun H1 e1 Q q =>
  h H1 e1 _ fun v H2 e2 hv => by
    cases hv
    refine ⟨⟨x, rfl⟩, h2 H2 (e1.trans e2) _ fun w H3 e3 hw => ?_⟩
    cases hw
    exact ⟨x, y, rfl, rfl, hy, by rw [sizeLine_eq]; omega, fun p hp => frz_done (e2.trans e3) hp (Ex.new hp) upd_same (dpa_map (fun s => .str s) _) q⟩
/-! ### whole numbers in texts -/
def dig (c : Nat) : Bool := decide (48 ≤ c) && decide (c ≤ 57)
def valL (l : List Nat) : Int := l.foldl (fun (a : Int) (c : Nat) => 10 * a + ((c : Int) - 48)) 0
def figsL (L : List Nat) : List Nat := if L.take 1 = [45] then L.drop 1 else L
def wholeL (L : List Nat) : Option Int :=
  if figsL L = [] ∨ (figsL L).all dig = false then none
  else if (figsL L)[0]? = some 48 ∧ L ≠ [48] then none
  else some (if figsL L = L then valL (figsL L) else -valL (figsL L))
def oI : Option Int → PyData
  | none => .none
  | some i => .int i
def rWholeIn (ds : List PyData) (d : PyData) : Prop := ∃ w : Str, ds = [.str w] ∧ w.length ≤ 5000 ∧ d = oI (wholeL (tl w))
abbrev spWholeIn (K : PySem.W.Frag) : Sp := spR K 1 rWholeIn
theorem fig_mem (c : Nat) : decide (c ∈ tl (Str.ofString "0123456789")) = dig c := by
  have e : tl (Str.ofString "0123456789") = [48, 49, 50, 51, 52, 53, 54, 55, 56, 57] := by rw [tl_ofString]; rfl
  rw [e]
  unfold dig
  rw [Bool.eq_iff_iff]
  simp
  omega
theorem fig_index (c : Nat) (h : dig c = true) : ∃ rest, Builtin.Str.occurrences (Str.ofString "0123456789") (mkS [c]) 0 (Str.ofString "0123456789").length 1 = (c - 48) :: rest := by
  unfold dig at h
  rw [Bool.and_eq_true] at h
  have h1 := of_decide_eq_true h.1
  have h2 := of_decide_eq_true h.2
  have : c = 48 ∨ c = 49 ∨ c = 50 ∨ c = 51 ∨ c = 52 ∨ c = 53 ∨ c = 54 ∨ c = 55 ∨ c = 56 ∨ c = 57 := by omega
  rcases this with rfl | rfl | rfl | rfl | rfl | rfl | rfl | rfl | rfl | rfl <;> exact ⟨[], by decide +kernel⟩
theorem ed_index {c : Nat} (h : ED K te σ H (.str (Str.ofString "0123456789"))) (h2 : ED K ta σ H (.str (mkS [c]))) (hc : dig c = true) : ED K (tM1 (fun x xs H Q => ∃ a b i rest, x = .str a ∧ xs = [.str b] ∧ Builtin.Str.occurrences a b 0 a.length 1 = i :: rest ∧ Q (.int (i : Nat)) H) te ta) σ H (.int ((c : Int) - 48)) := fun H1 e1 Q q =>
  h H1 e1 _ fun v H2 e2 hv => by
    cases hv
    refine ⟨⟨_, rfl⟩, h2 H2 (e1.trans e2) _ fun w H3 e3 hw => ?_⟩
    cases hw
    obtain ⟨rest, hr⟩ := fig_index c hc
    refine ⟨_, _, c - 48, rest, rfl, rfl, hr, ?_⟩
    have : ((c - 48 : Nat) : Int) = (c : Int) - 48 := by
      unfold dig at hc
      rw [Bool.and_eq_true] at hc
      have := of_decide_eq_true hc.1
      omega
    rw [this]
    exact q _ H3 (e2.trans e3) (.int _)
theorem val_lt : ∀ (l : List Nat), l.all dig = true → 0 ≤ valL l ∧ (valL l).natAbs < 2 ^ (4 * l.length + 1) := by
  have go : ∀ (l : List Nat) (a : Int) (k : Nat), 0 ≤ a → a.natAbs < 2 ^ k → l.all dig = true → 0 ≤ l.foldl (fun (a : Int) (c : Nat) => 10 * a + ((c : Int) - 48)) a ∧ (l.foldl (fun (a : Int) (c : Nat) => 10 * a + ((c : Int) - 48)) a).natAbs < 2 ^ (4 * l.length + k) := by
    intro l
    induction l with
    | nil => intro a k h0 h1 _; exact ⟨h0, by rw [List.length_nil, Nat.mul_zero, Nat.zero_add]; exact h1⟩
    | cons c r ih =>
      intro a k h0 h1 hd
      rw [List.all_cons, Bool.and_eq_true] at hd
      have hc := hd.1
      unfold dig at hc
      rw [Bool.and_eq_true] at hc
      have c1 := of_decide_eq_true hc.1
      have c2 := of_decide_eq_true hc.2
      have := ih (10 * a + ((c : Int) - 48)) (k + 4) (by omega) (by
        rw [Nat.pow_add]
        have : (2 : Nat) ^ 4 = 16 := rfl
        omega) hd.2
      rw [List.length_cons, show 4 * (r.length + 1) + k = 4 * r.length + (k + 4) by omega]
      exact this
  intro l h
  exact go l 0 1 (by decide) (by decide) h
theorem mkS_eq {l m : List Nat} {s : String} (h : tl (Str.ofString s) = m) : decide (mkS l = Str.ofString s) = decide (l = m) := decide_eq_decide.mpr (by rw [eqS_iff, h, tl_mkS])
theorem tl_eq {x : Str} {m : List Nat} {s : String} (h : tl (Str.ofString s) = m) : decide (x = Str.ofString s) = decide (tl x = m) := decide_eq_decide.mpr (by rw [eqS_iff, h])
theorem tl_dash : tl (Str.ofString "-") = [45] := by rw [tl_ofString]; rfl
theorem tl_nil : tl (Str.ofString "") = [] := by rw [tl_ofString]; rfl
theorem tl_zero : tl (Str.ofString "0") = [48] := by rw [tl_ofString]; rfl
theorem tl_slash : tl (Str.ofString "/") = [47] := by rw [tl_ofString]; rfl
theorem tl_star : tl (Str.ofString "*") = [42] := by rw [tl_ofString]; rfl
theorem tl_roof : tl (Str.ofString "^") = [94] := by rw [tl_ofString]; rfl
theorem figs_len (L : List Nat) : (figsL L).length ≤ L.length := by
  unfold figsL
  split
  · rw [List.length_drop]; omega
  · exact Nat.le_refl _
theorem val_step {l : List Nat} {i c : Nat} (h : l[i]? = some c) : valL (l.take (i + 1)) = 10 * valL (l.take i) + ((c : Int) - 48) := by
  unfold valL
  rw [List.take_succ, h, List.foldl_append]
  rfl
theorem all_take {l : List Nat} (h : l.all dig = true) (i : Nat) : (l.take i).all dig = true := List.all_eq_true.mpr fun x hx => List.all_eq_true.mp h x (List.mem_of_mem_take hx)
end My

namespace My
open PySem PySem.Spec PyProof.Rows L2 Evl TL
variable {K : PySem.W.Frag} {σ : L2.St} {H H0 : Hp} {ta tb te tc td : TE}
/-! ### what the texts' readers tell -/
def intL (lo hi : Int) (L : List Nat) : Option Int := match wholeL L with
  | some i => if lo ≤ i ∧ i ≤ hi then some i else none
  | none => none
def sSl : Str := Str.ofString "/"
def sRf : Str := Str.ofString "^"
def sSt : Str := Str.ofString "*"
def fracS (w : Str) : Option Rat := match wholeL (tl (Txt.partition w sSl).1), (if tl (Txt.partition w sSl).2.1 = [] then some 1 else wholeL (tl (Txt.partition w sSl).2.2)) with
  | some a, some b => if tl (Txt.partition w sSl).2.1 ≠ [] ∧ b < 2 then none else if isFracD (.tuple [.int a, .int b]) = true then some (mkRat a b.toNat) else none
  | _, _ => none
def powS (w : Str) : Option Rat := match fracS w with
  | some q => if q.num = 0 then none else some q
  | none => none
noncomputable def factS (w : Str) : Option Num := match intL 1 9999 (tl (Txt.partition (Txt.partition w sRf).1 sSl).1), (if tl (Txt.partition (Txt.partition w sRf).1 sSl).2.1 = [] then some 1 else intL 1 9999 (tl (Txt.partition (Txt.partition w sRf).1 sSl).2.2)) with
  | some a, some b => if tl (Txt.partition w sRf).2.1 ≠ [] ∧ tl (Txt.partition (Txt.partition w sRf).1 sSl).2.1 ≠ [] then none
    else if tl (Txt.partition w sRf).2.1 = [] then some (nfrac a.toNat b.toNat)
    else match powS (Txt.partition w sRf).2.2 with
      | none => none
      | some q => some (npow (nfrac a.toNat b.toNat) q)
  | _, _ => none
noncomputable def numF (acc : Num) : List Str → Option Num
  | [] => some acc
  | p :: ps => match factS p with
    | none => none
    | some f => numF (nmul acc f) ps
def oQ : Option Rat → PyData
  | none => .none
  | some q => eF q
def oN : Option Num → PyData
  | none => .none
  | some n => eN n
def rIntegerIn (ds : List PyData) (d : PyData) : Prop := ∃ (w : Str) (lo hi : Int), ds = [.str w, .int lo, .int hi] ∧ w.length ≤ 5000 ∧ d = oI (intL lo hi (tl w))
def rFractionIn (ds : List PyData) (d : PyData) : Prop := ∃ w : Str, ds = [.str w] ∧ w.length ≤ 5000 ∧ d = oQ (fracS w)
def rPowerIn (ds : List PyData) (d : PyData) : Prop := ∃ w : Str, ds = [.str w] ∧ w.length ≤ 5000 ∧ d = oQ (powS w)
def rFactorIn (ds : List PyData) (d : PyData) : Prop := ∃ w : Str, ds = [.str w] ∧ w.length ≤ 400 ∧ d = oN (factS w)
structure TxtOk (t : Str) : Prop where
  len : t.length ≤ 16000000
  parts : ∀ p ∈ Txt.split t sSt, p.length ≤ 400 ∧ PySem.PyData.canLay0 (.str p) = true
  sm : ∀ i acc, numF [] ((Txt.split t sSt).take i) = some acc → SmN 1900 acc
def rNumberOrNone (ds : List PyData) (d : PyData) : Prop := ∃ t : Str, ds = [.str t] ∧ TxtOk t ∧ d = oN (numF [] (Txt.split t sSt))
def rNumberIn (ds : List PyData) (d : PyData) : Prop := ∃ (t : Str) (n : Num), ds = [.str t] ∧ TxtOk t ∧ numF [] (Txt.split t sSt) = some n ∧ d = eN n
abbrev spIntegerIn (K : PySem.W.Frag) : Sp := spR K 3 rIntegerIn
abbrev spFractionIn (K : PySem.W.Frag) : Sp := spR K 1 rFractionIn
abbrev spPowerIn (K : PySem.W.Frag) : Sp := spR K 1 rPowerIn
abbrev spFactorIn (K : PySem.W.Frag) : Sp := spR K 1 rFactorIn
abbrev spNumberOrNone (K : PySem.W.Frag) : Sp := spR K 1 rNumberOrNone
abbrev spNumberIn (K : PySem.W.Frag) : Sp := spR K 1 rNumberIn
/-! ### facts about them -/
theorem part_len (w y : Str) : (Txt.partition w y).1.length ≤ w.length ∧ (Txt.partition w y).2.2.length ≤ w.length := by
  have h := PySem.StrLaws.partition_sum w y
  have := congrArg Str.length h
  rw [PySem.Str.length_append, PySem.Str.length_append] at this
  omega
theorem oI_none (o : Option Int) : isNonD (oI o) = o.isNone := by cases o <;> rfl
theorem oQ_none (o : Option Rat) : isNonD (oQ o) = o.isNone := by cases o <;> rfl
theorem oN_none (o : Option Num) : isNonD (oN o) = o.isNone := by cases o <;> rfl
theorem frac_of {a b : Int} (h : isFracD (.tuple [.int a, .int b]) = true) : PyData.tuple [.int a, .int b] = eF (mkRat a b.toNat) := by
  have h : (decide (1 ≤ b) && decide (Int.gcd a b = 1)) = true := h
  rw [Bool.and_eq_true] at h
  have h1 := of_decide_eq_true h.1
  have h2 := of_decide_eq_true h.2
  have n1 := norm_num a b.toNat (by omega)
  have d1 := norm_den a b.toNat (by omega)
  rw [show ((b.toNat : Nat) : Int) = b by omega, h2] at n1 d1
  unfold eF
  rw [n1, d1]
  show _ = PyData.tuple [.int (a / 1), .int (b / 1)]
  rw [Int.ediv_one, Int.ediv_one]
theorem whole_lt {L : List Nat} {i : Int} (h : wholeL L = some i) : i.natAbs < 2 ^ (4 * L.length + 1) := by
  unfold wholeL at h
  split at h
  · cases h
  · rename_i h1
    split at h
    · cases h
    · have al : (figsL L).all dig = true := by
        cases z : (figsL L).all dig with
        | true => rfl
        | false => exact absurd (.inr z) h1
      have v := val_lt _ al
      have fl := figs_len L
      have up : 2 ^ (4 * (figsL L).length + 1) ≤ 2 ^ (4 * L.length + 1) := Nat.pow_le_pow_right (by decide) (by omega)
      have e := Option.some.inj h
      rw [← e]
      split
      · exact Nat.lt_of_lt_of_le v.2 up
      · rw [Int.natAbs_neg]
        exact Nat.lt_of_lt_of_le v.2 up
theorem frac_sm {w : Str} {q : Rat} {k : Nat} (h : fracS w = some q) (hl : 4 * w.length + 1 ≤ k) (hk : 1 ≤ k) : Sm k q := by
  unfold fracS at h
  have pl := part_len w sSl
  split at h
  · rename_i a b ha hb
    split at h
    · cases h
    · split at h
      · rename_i hf
        have e := Option.some.inj h
        rw [← e]
        have hf2 : (decide (1 ≤ b) && decide (Int.gcd a b = 1)) = true := hf
        rw [Bool.and_eq_true] at hf2
        have b1 := of_decide_eq_true hf2.1
        have la := whole_lt ha
        have l1 : 2 ^ (4 * (tl (Txt.partition w sSl).1).length + 1) ≤ 2 ^ k := Nat.pow_le_pow_right (by decide) (by rw [← len_tl]; omega)
        have lb : b.natAbs < 2 ^ k := by
          split at hb
          · cases hb
            have : 2 ^ 1 ≤ 2 ^ k := Nat.pow_le_pow_right (by decide) hk
            show 1 < 2 ^ k
            omega
          · have := whole_lt hb
            exact Nat.lt_of_lt_of_le this (Nat.pow_le_pow_right (by decide) (by rw [← len_tl]; omega))
        exact mk_sm (Nat.lt_of_lt_of_le la l1) (by omega) (by omega)
      · cases h
  · cases h
theorem intL_in {lo hi i : Int} {L : List Nat} (h : intL lo hi L = some i) : lo ≤ i ∧ i ≤ hi := by
  unfold intL at h
  split at h
  · split at h
    · rename_i z
      cases h
      exact z
    · cases h
  · cases h
theorem pow_ok {w : Str} {q : Rat} (h : powS w = some q) : fracS w = some q ∧ q.num ≠ 0 := by
  unfold powS at h
  split at h
  · split at h
    · cases h
    · rename_i e z
      cases h
      exact ⟨e, z⟩
  · cases h
theorem fact_ok {w : Str} {f : Num} (h : factS w = some f) (hl : w.length ≤ 400) : NumOk f ∧ SmN 1700 f := by
  unfold factS at h
  split at h
  · rename_i a b ha hb
    have a1 := intL_in ha
    have b1 : 1 ≤ b ∧ b ≤ 9999 := by
      split at hb
      · cases hb; exact ⟨by decide, by decide⟩
      · exact intL_in hb
    split at h
    · cases h
    · split at h
      · cases h
        exact ⟨nfrac_ok (by omega) (by omega) (by omega) (by omega), (nfrac_sm (by omega) (by omega) (by omega) (by omega)).mono (by decide)⟩
      · split at h
        · cases h
        · rename_i q hq
          cases h
          have pl := part_len w sRf
          have sq := frac_sm (k := 1601) (pow_ok hq).1 (by omega) (by decide)
          have ok := nfrac_ok (t := a.toNat) (l := b.toNat) (by omega) (by omega) (by omega) (by omega)
          exact ⟨ok_npow ok, (sm_npow ok.can (nfrac_sm (by omega) (by omega) (by omega) (by omega)) (by decide) sq).mono (by decide)⟩
  · cases h
theorem numF_app (acc : Num) : ∀ (ps qs : List Str), numF acc (ps ++ qs) = (numF acc ps).bind fun a => numF a qs
  | [], qs => rfl
  | p :: ps, qs => by
    show (match factS p with
      | none => none
      | some f => numF (nmul acc f) (ps ++ qs)) = _
    show _ = (match factS p with
      | none => none
      | some f => numF (nmul acc f) ps).bind fun a => numF a qs
    cases factS p with
    | none => rfl
    | some f => exact numF_app (nmul acc f) ps qs
theorem numF_step {ps : List Str} {i : Nat} {p : Str} {acc : Num} (h : ps[i]? = some p) (ha : numF [] (ps.take i) = some acc) : numF [] (ps.take (i + 1)) = (factS p).map fun f => nmul acc f := by
  rw [List.take_succ, h]
  show numF [] (ps.take i ++ [p]) = _
  rw [numF_app, ha]
  show (match factS p with
    | none => none
    | some f => numF (nmul acc f) []) = _
  cases factS p <;> rfl
theorem numF_none {ps : List Str} {i : Nat} {p : Str} {acc : Num} (h : ps[i]? = some p) (ha : numF [] (ps.take i) = some acc) (hf : factS p = none) : numF [] ps = none := by
  have e : ps = ps.take (i + 1) ++ ps.drop (i + 1) := (List.take_append_drop _ _).symm
  rw [e, numF_app, numF_step h ha, hf]
  rfl
/-! ### rules -/
theorem op_in_seqK {X : Cx} (h : X.K = K) : OpR X (compareOp .In) (rIn K false) := h ▸ op_in_seq
theorem op_niseqK {X : Cx} (h : X.K = K) : OpR X (compareOp .NotIn) (rIn K true) := h ▸ op_notIn_seq
theorem flat_oI {os : List (Option Int)} {vs : List V} (h : DqAll K H vs (os.map oI)) : vs.all flatV = true ∧ inV V.non vs = os.any Option.isNone := by
  induction os generalizing vs with
  | nil => cases h; exact ⟨rfl, rfl⟩
  | cons o os ih =>
    cases h with
    | cons h1 h2 =>
      obtain ⟨a, b⟩ := ih h2
      cases o with
      | none =>
        cases h1
        exact ⟨by rw [List.all_cons, a]; rfl, rfl⟩
      | some i =>
        cases h1
        exact ⟨by rw [List.all_cons, a]; rfl, b⟩
theorem rd_inNoneL {os : List (Option Int)} : RD K (rIn K false) .none (.list (os.map oI)) (.bool (os.any Option.isNone)) := fun H x y hx hy Q q => by
  cases hx
  cases hy with
  | lst hs ha =>
    obtain ⟨a, b⟩ := flat_oI ha
    exact ⟨_, _, rfl, .inl hs.sq, rfl, a, by rw [if_neg (by decide), b]; exact q _ H (Ex.refl H) (.bl _)⟩
theorem rd_inNoneT {os : List (Option Int)} : RD K (rIn K false) .none (.tuple (os.map oI)) (.bool (os.any Option.isNone)) := fun H x y hx hy Q q => by
  cases hx
  cases hy with
  | tup hs ha =>
    obtain ⟨a, b⟩ := flat_oI ha
    exact ⟨_, _, rfl, .inr hs.sq, rfl, a, by rw [if_neg (by decide), b]; exact q _ H (Ex.refl H) (.bl _)⟩
theorem shaped_strs {ps : List Str} (h : ∀ p ∈ ps, PySem.PyData.canLay0 (.str p) = true) : SeqAt.shaped (.list (ps.map PyData.str)) = true := by
  have : PyData.canLayAll0 (ps.map PyData.str) = true ∧ PyData.depthAll (ps.map PyData.str) = 0 := by
    induction ps with
    | nil => exact ⟨rfl, rfl⟩
    | cons p ps ih =>
      obtain ⟨a, b⟩ := ih fun x hx => h x (List.mem_cons_of_mem _ hx)
      refine ⟨?_, ?_⟩
      · show (PyData.canLay0 (.str p) && PyData.canLayAll0 (ps.map PyData.str)) = true
        rw [h p List.mem_cons_self, a]; rfl
      · show max 0 (PyData.depthAll (ps.map PyData.str)) = 0
        rw [b]; rfl
  show (PyData.canLayAll0 _ && decide (PyData.depthAll _ + 1 ≤ 64)) = true
  rw [this.1, this.2]; rfl
theorem eqv_strs (ps : List Str) : PyData.eqv (.list (ps.map PyData.str)) (.list []) = decide (ps = []) := by
  cases ps with
  | nil => rfl
  | cons x r => rfl
theorem ne_nilS {x : Str} : (PyData.bool (!decide (x = Str.ofString ""))) = .bool (!decide (tl x = [])) := congrArg (fun b => PyData.bool (!b)) (tl_eq tl_nil)
theorem eq_nilS {x : Str} : (PyData.bool (decide (x = Str.ofString ""))) = .bool (decide (tl x = [])) := congrArg PyData.bool (tl_eq tl_nil)
end My

namespace My
open PySem PySem.Spec PyProof.Rows L2 Evl TL
/-! ### numbers as texts, and back: plain -/
theorem tl_dec (n : Nat) : tl (decI (n : Int)) = numL n := tl_num n
theorem tl_neg {n : Nat} (h : 1 ≤ n) : tl (decI (-(n : Int))) = 45 :: numL n := by
  obtain ⟨m, rfl⟩ : ∃ m, n = m + 1 := ⟨n - 1, by omega⟩
  have e : toString (-((m + 1 : Nat) : Int)) = "-" ++ Nat.repr (m + 1) := rfl
  unfold decI
  rw [e, tl_ofString, String.toList_append, List.map_append]
  have e2 := tl_num (m + 1)
  rw [tl_ofString] at e2
  have e3 : toString ((m + 1 : Nat) : Int) = Nat.repr (m + 1) := rfl
  rw [e3] at e2
  rw [e2]
  rfl
theorem num_dig (n : Nat) : (numL n).all dig = true := List.all_eq_true.mpr fun c hc => by
  have h := numL_digits n
  have a : 48 ≤ c := by
    by_cases z : 48 ≤ c
    · exact z
    · exact absurd hc (numL_free (.inl (by omega)))
  have b : c ≤ 57 := by
    by_cases z : c ≤ 57
    · exact z
    · exact absurd hc (numL_free (.inr (by omega)))
  unfold dig
  rw [decide_eq_true a, decide_eq_true b]
  rfl
theorem num_head (n : Nat) : 1 ≤ n → (numL n)[0]? ≠ some 48 := by
  induction n using Nat.strongRecOn with
  | _ n ih =>
    intro h
    by_cases z : n < 10
    · rw [numL_lt z]
      intro e
      have : 48 + n = 48 := Option.some.inj e
      omega
    · rw [numL_step (by omega)]
      have := ih (n / 10) (by omega) (by omega)
      cases q : numL (n / 10) with
      | nil => exact absurd q (numL_ne _)
      | cons c r =>
        rw [q] at this
        exact this
theorem val_num (n : Nat) : valL (numL n) = (n : Int) := by
  have := fold_num n
  unfold valL
  rw [← this]
  congr 1
  funext t c
  rw [Int.mul_comm]
theorem figs_num (n : Nat) : figsL (numL n) = numL n := by
  unfold figsL
  rw [if_neg]
  intro h
  cases q : numL n with
  | nil => exact absurd q (numL_ne n)
  | cons c r =>
    rw [q] at h
    have e : c = 45 := (List.cons.inj h).1
    have d := num_dig n
    rw [q, List.all_cons, e] at d
    exact absurd d (by simp [dig])
theorem whole_num (n : Nat) : wholeL (numL n) = some (n : Int) := by
  unfold wholeL
  rw [figs_num, if_neg, if_neg, if_pos rfl, val_num]
  · rintro ⟨h1, h2⟩
    by_cases z : n = 0
    · subst z
      exact h2 (numL_lt (by decide))
    · exact num_head n (by omega) h1
  · rintro (h | h)
    · exact numL_ne n h
    · rw [num_dig] at h; cases h
theorem whole_neg {n : Nat} (h : 1 ≤ n) : wholeL (45 :: numL n) = some (-(n : Int)) := by
  have f : figsL (45 :: numL n) = numL n := by
    have e : List.take 1 (45 :: numL n) = [45] := rfl
    unfold figsL
    rw [if_pos e]
    rfl
  unfold wholeL
  rw [f, if_neg, if_neg, if_neg, val_num]
  · intro e
    have := congrArg List.length e
    rw [List.length_cons] at this
    omega
  · rintro ⟨h1, _⟩
    exact num_head n h h1
  · rintro (z | z)
    · exact numL_ne n z
    · rw [num_dig] at z; cases z
theorem whole_dec (i : Int) : wholeL (tl (decI i)) = some i := by
  by_cases h : 0 ≤ i
  · obtain ⟨n, rfl⟩ : ∃ n : Nat, i = n := ⟨i.toNat, by omega⟩
    rw [tl_dec, whole_num]
  · obtain ⟨n, rfl⟩ : ∃ n : Nat, i = -(n : Int) := ⟨(-i).toNat, by omega⟩
    rw [tl_neg (by omega), whole_neg (by omega)]
/-- signs of a text of a whole number -/
theorem dec_free {i : Int} {s : Nat} (h : s < 45 ∨ 57 < s ∨ s = 47) : s ∉ tl (decI i) := by
  by_cases z : 0 ≤ i
  · obtain ⟨n, rfl⟩ : ∃ n : Nat, i = n := ⟨i.toNat, by omega⟩
    rw [tl_dec]
    exact numL_free (by omega)
  · obtain ⟨n, rfl⟩ : ∃ n : Nat, i = -(n : Int) := ⟨(-i).toNat, by omega⟩
    rw [tl_neg (by omega)]
    intro hm
    rcases List.mem_cons.mp hm with e | hm
    · omega
    · exact numL_free (by omega) hm
theorem frac_free {q : Rat} {s : Nat} (h : s < 45 ∨ 57 < s) : s ∉ tl (fracText q) := by
  unfold fracText
  split
  · exact dec_free (by omega)
  · rw [tl_append, tl_append, tl_slash]
    intro hm
    rcases List.mem_append.mp hm with hm | hm
    · rcases List.mem_append.mp hm with hm | hm
      · exact dec_free (by omega) hm
      · have := List.mem_singleton.mp hm; omega
    · exact dec_free (by omega) hm
theorem isFrac_num (q : Rat) : isFracD (.tuple [.int q.num, .int q.den]) = true := isFrac_eF q
theorem tl_empty : tl Str.empty = [] := rfl
theorem frac_text (q : Rat) : fracS (fracText q) = some q := by
  have fr := isFrac_num q
  have mk : mkRat q.num (((q.den : Nat) : Int).toNat) = q := by rw [Int.toNat_natCast, Rat.mkRat_self]
  by_cases h : q.den = 1
  · have e : fracText q = decI q.num := by unfold fracText; exact if_pos h
    have p := partition_none (y := sSl) (S := []) tl_slash (a := decI q.num) (dec_free (s := 47) (by omega))
    unfold fracS
    rw [e, p]
    show (match wholeL (tl (decI q.num)), (if tl Str.empty = [] then some 1 else wholeL (tl Str.empty)) with
      | some a, some b => if tl Str.empty ≠ [] ∧ b < 2 then none else if isFracD (.tuple [.int a, .int b]) = true then some (mkRat a b.toNat) else none
      | _, _ => none) = some q
    rw [whole_dec, if_pos tl_empty]
    show (if tl Str.empty ≠ [] ∧ (1 : Int) < 2 then none else if isFracD (.tuple [.int q.num, .int 1]) = true then some (mkRat q.num (1 : Int).toNat) else none) = some q
    rw [if_neg (fun z => z.1 tl_empty), if_pos (by rw [h] at fr; exact fr)]
    rw [h] at mk
    exact congrArg some mk
  · have e : fracText q = decI q.num ++ sSl ++ decI q.den := by unfold fracText; exact if_neg h
    have p := partition_app (y := sSl) (S := []) tl_slash (a := decI q.num) (b := decI q.den) (dec_free (s := 47) (by omega))
    have dp := den_pos q
    unfold fracS
    rw [e, p]
    show (match wholeL (tl (decI q.num)), (if tl sSl = [] then some 1 else wholeL (tl (decI q.den))) with
      | some a, some b => if tl sSl ≠ [] ∧ b < 2 then none else if isFracD (.tuple [.int a, .int b]) = true then some (mkRat a b.toNat) else none
      | _, _ => none) = some q
    have ne : ¬ tl sSl = [] := by rw [show tl sSl = [47] from tl_slash]; simp
    rw [whole_dec, if_neg ne, whole_dec]
    show (if tl sSl ≠ [] ∧ ((q.den : Nat) : Int) < 2 then none else if isFracD (.tuple [.int q.num, .int q.den]) = true then some (mkRat q.num ((q.den : Nat) : Int).toNat) else none) = some q
    rw [if_neg (fun z => by have := z.2; omega), if_pos fr, mk]
theorem pow_text {q : Rat} (h : q ≠ 0) : powS (fracText q) = some q := by
  unfold powS
  rw [frac_text]
  exact if_neg (num_ne h)
/-- prime ^ power -/
def factText (p : Nat) (q : Rat) : Str := decI p ++ sRf ++ fracText q
theorem fac_prime {p : Nat} (h : Pr p) (h2 : p ≤ 9999) : nfrac p 1 = [(p, 1)] := by
  have f1 : fac p = [(p, 1)] := (fac_eq (by have := h.1; omega) ⟨List.pairwise_singleton _ _, fun x hx => by rw [List.mem_singleton.mp hx]; exact ⟨h, Nat.le_refl _⟩, by show p ^ 1 * 1 = p; rw [Nat.pow_one, Nat.mul_one]⟩).symm
  have f2 : fac 1 = [] := (fac_eq (Nat.le_refl _) ⟨.nil, fun x hx => absurd hx (List.not_mem_nil), rfl⟩).symm
  refine (can_eq (n := [(p, (1 : Rat))]) (e := fun r => ev (nL (fac p)) r - ev (nL (fac 1)) r) ⟨List.pairwise_singleton _ _, fun x hx => ?_⟩ fun r _ => ?_).symm
  · rw [List.mem_singleton.mp hx]
    exact ⟨h2, show (1 : Rat) ≠ 0 by decide⟩
  · rw [f1, f2]
    show (if p = r then (1 : Rat) else 0) + 0 = ((if p = r then ((1 : Nat) : Rat) else 0) + 0) - 0
    have : ((1 : Nat) : Rat) = 1 := rfl
    rw [this]
    grind
theorem pow_prime {p : Nat} {q : Rat} (h : Pr p) (h2 : p ≤ 9999) (hq : q ≠ 0) : npow (nfrac p 1) q = [(p, q)] := by
  rw [fac_prime h h2]
  refine (can_eq (n := [(p, q)]) (e := fun r => ev [(p, (1 : Rat))] r * q) ⟨List.pairwise_singleton _ _, fun x hx => ?_⟩ fun r _ => ?_).symm
  · rw [List.mem_singleton.mp hx]
    exact ⟨h2, hq⟩
  · show (if p = r then q else 0) + 0 = ((if p = r then (1 : Rat) else 0) + 0) * q
    split <;> grind
theorem int_dec {p : Nat} (h1 : 1 ≤ p) (h2 : p ≤ 9999) : intL 1 9999 (tl (decI p)) = some (p : Int) := by
  unfold intL
  rw [whole_dec]
  exact if_pos ⟨by omega, by omega⟩
/-- a whole number by itself -/
theorem fact_plain {p : Nat} (h1 : 1 ≤ p) (h2 : p ≤ 9999) : factS (decI p) = some (nfrac p 1) := by
  have p1 := partition_none (y := sRf) (S := []) tl_roof (a := decI p) (dec_free (s := 94) (by omega))
  have p2 := partition_none (y := sSl) (S := []) tl_slash (a := decI p) (dec_free (s := 47) (by omega))
  unfold factS
  rw [p1]
  show (match intL 1 9999 (tl (Txt.partition (decI p) sSl).1), (if tl (Txt.partition (decI p) sSl).2.1 = [] then some 1 else intL 1 9999 (tl (Txt.partition (decI p) sSl).2.2)) with
    | some a, some b => if tl Str.empty ≠ [] ∧ tl (Txt.partition (decI p) sSl).2.1 ≠ [] then none
      else if tl Str.empty = [] then some (nfrac a.toNat b.toNat)
      else match powS Str.empty with
        | none => none
        | some q => some (npow (nfrac a.toNat b.toNat) q)
    | _, _ => none) = _
  rw [p2]
  show (match intL 1 9999 (tl (decI p)), (if tl Str.empty = [] then some 1 else intL 1 9999 (tl Str.empty)) with
    | some a, some b => if tl Str.empty ≠ [] ∧ tl Str.empty ≠ [] then none
      else if tl Str.empty = [] then some (nfrac a.toNat b.toNat)
      else match powS Str.empty with
        | none => none
        | some q => some (npow (nfrac a.toNat b.toNat) q)
    | _, _ => none) = _
  rw [int_dec h1 h2, if_pos tl_empty]
  show (if tl Str.empty ≠ [] ∧ tl Str.empty ≠ [] then none
      else if tl Str.empty = [] then some (nfrac ((p : Nat) : Int).toNat (1 : Int).toNat)
      else match powS Str.empty with
        | none => none
        | some q => some (npow (nfrac ((p : Nat) : Int).toNat (1 : Int).toNat) q)) = _
  rw [if_neg (fun z => z.1 tl_empty), if_pos tl_empty, Int.toNat_natCast]
  rfl
/-- one by another one -/
theorem fact_over {p r : Nat} (h1 : 1 ≤ p) (h2 : p ≤ 9999) (h3 : 1 ≤ r) (h4 : r ≤ 9999) : factS (decI p ++ sSl ++ decI r) = some (nfrac p r) := by
  have fr : (94 : Nat) ∉ tl (decI p ++ sSl ++ decI r) := by
    rw [tl_append, tl_append, show tl sSl = [47] from tl_slash]
    intro hm
    rcases List.mem_append.mp hm with hm | hm
    · rcases List.mem_append.mp hm with hm | hm
      · exact dec_free (by omega) hm
      · have := List.mem_singleton.mp hm; omega
    · exact dec_free (by omega) hm
  have p1 := partition_none (y := sRf) (S := []) tl_roof (a := decI p ++ sSl ++ decI r) fr
  have p2 := partition_app (y := sSl) (S := []) tl_slash (a := decI p) (b := decI r) (dec_free (s := 47) (by omega))
  have ne : ¬ tl sSl = [] := by rw [show tl sSl = [47] from tl_slash]; simp
  unfold factS
  rw [p1]
  show (match intL 1 9999 (tl (Txt.partition (decI p ++ sSl ++ decI r) sSl).1), (if tl (Txt.partition (decI p ++ sSl ++ decI r) sSl).2.1 = [] then some 1 else intL 1 9999 (tl (Txt.partition (decI p ++ sSl ++ decI r) sSl).2.2)) with
    | some a, some b => if tl Str.empty ≠ [] ∧ tl (Txt.partition (decI p ++ sSl ++ decI r) sSl).2.1 ≠ [] then none
      else if tl Str.empty = [] then some (nfrac a.toNat b.toNat)
      else match powS Str.empty with
        | none => none
        | some q => some (npow (nfrac a.toNat b.toNat) q)
    | _, _ => none) = _
  rw [p2]
  show (match intL 1 9999 (tl (decI p)), (if tl sSl = [] then some 1 else intL 1 9999 (tl (decI r))) with
    | some a, some b => if tl Str.empty ≠ [] ∧ tl sSl ≠ [] then none
      else if tl Str.empty = [] then some (nfrac a.toNat b.toNat)
      else match powS Str.empty with
        | none => none
        | some q => some (npow (nfrac a.toNat b.toNat) q)
    | _, _ => none) = _
  rw [int_dec h1 h2, if_neg ne, int_dec h3 h4]
  show (if tl Str.empty ≠ [] ∧ tl sSl ≠ [] then none
      else if tl Str.empty = [] then some (nfrac ((p : Nat) : Int).toNat ((r : Nat) : Int).toNat)
      else match powS Str.empty with
        | none => none
        | some q => some (npow (nfrac ((p : Nat) : Int).toNat ((r : Nat) : Int).toNat) q)) = _
  rw [if_neg (fun z => z.1 tl_empty), if_pos tl_empty, Int.toNat_natCast, Int.toNat_natCast]
/-- a whole number raised -/
theorem fact_pow {p : Nat} {q : Rat} (h1 : 1 ≤ p) (h2 : p ≤ 9999) (hq : q ≠ 0) : factS (factText p q) = some (npow (nfrac p 1) q) := by
  have p1 := partition_app (y := sRf) (S := []) tl_roof (a := decI p) (b := fracText q) (dec_free (s := 94) (by omega))
  have p2 := partition_none (y := sSl) (S := []) tl_slash (a := decI p) (dec_free (s := 47) (by omega))
  have ne : ¬ tl sRf = [] := by rw [show tl sRf = [94] from tl_roof]; simp
  unfold factS factText
  rw [p1]
  show (match intL 1 9999 (tl (Txt.partition (decI p) sSl).1), (if tl (Txt.partition (decI p) sSl).2.1 = [] then some 1 else intL 1 9999 (tl (Txt.partition (decI p) sSl).2.2)) with
    | some a, some b => if tl sRf ≠ [] ∧ tl (Txt.partition (decI p) sSl).2.1 ≠ [] then none
      else if tl sRf = [] then some (nfrac a.toNat b.toNat)
      else match powS (fracText q) with
        | none => none
        | some q => some (npow (nfrac a.toNat b.toNat) q)
    | _, _ => none) = _
  rw [p2]
  show (match intL 1 9999 (tl (decI p)), (if tl Str.empty = [] then some 1 else intL 1 9999 (tl Str.empty)) with
    | some a, some b => if tl sRf ≠ [] ∧ tl Str.empty ≠ [] then none
      else if tl sRf = [] then some (nfrac a.toNat b.toNat)
      else match powS (fracText q) with
        | none => none
        | some q => some (npow (nfrac a.toNat b.toNat) q)
    | _, _ => none) = _
  rw [int_dec h1 h2, if_pos tl_empty]
  show (if tl sRf ≠ [] ∧ tl Str.empty ≠ [] then none
      else if tl sRf = [] then some (nfrac ((p : Nat) : Int).toNat (1 : Int).toNat)
      else match powS (fracText q) with
        | none => none
        | some q => some (npow (nfrac ((p : Nat) : Int).toNat (1 : Int).toNat) q)) = _
  rw [if_neg (fun z => z.2 tl_empty), if_neg ne, pow_text hq, Int.toNat_natCast]
  rfl
/-! ### joined -/
theorem numF_all : ∀ {ps : List Str} {fs : List Num} (acc : Num), ps.map factS = fs.map some → numF acc ps = some (fs.foldl nmul acc)
  | [], [], acc, _ => rfl
  | [], f :: fs, _, h => by cases h
  | p :: ps, [], _, h => by cases h
  | p :: ps, f :: fs, acc, h => by
    have h1 : factS p = some f := (List.cons.inj h).1
    have h2 : ps.map factS = fs.map some := (List.cons.inj h).2
    show (match factS p with
      | none => none
      | some f => numF (nmul acc f) ps) = _
    rw [h1]
    exact numF_all (nmul acc f) h2
def evs (fs : List Num) (p : Nat) : Rat := (fs.map fun f => ev f p).sum
theorem ev_fold {p : Nat} (hp : p < 10000) : ∀ (fs : List Num) (acc : Num), ev (fs.foldl nmul acc) p = ev acc p + evs fs p
  | [], acc => by
    show ev acc p = ev acc p + 0
    rw [Rat.add_zero]
  | f :: fs, acc => by
    show ev (fs.foldl nmul (nmul acc f)) p = ev acc p + (ev f p + evs fs p)
    rw [ev_fold hp fs]
    unfold nmul
    rw [ev_canE hp, Rat.add_assoc]
theorem ok_fold (fs : List Num) : ∀ {acc : Num}, NumOk acc → (∀ f ∈ fs, NumOk f) → NumOk (fs.foldl nmul acc) := by
  induction fs with
  | nil => intro acc h _; exact h
  | cons f fs ih => intro acc h hf; exact ih (ok_nmul h (hf f List.mem_cons_self)) fun g hg => hf g (List.mem_cons_of_mem _ hg)
/-! ### lists that grow -/
section
variable {K : PySem.W.Frag} {σ : L2.St} {H H0 : Hp} {ta tb te tc td : TE} {D : Ends} {tz : TS} {l : Addr} {ds es : List PyData} {d : PyData}
theorem cq_ex {H' : Hp} (p : Cq K H0 l ds H) (e : Ex H H') : Cq K H0 l ds H' := by
  obtain ⟨p1, p2, p3, acc, p4, p5⟩ := p
  exact ⟨p1, p2.trans e, p3, acc, e _ _ p4, DqAll_ex p5 e⟩
theorem s_appD (p : Cq K H0 l ds H) (ha : Ev ta σ H (.ref l)) (h : ED K te σ H d) (hi : imm d = true) (hz : ds.length < 50000) (k : ∀ H1, Cq K H0 l (ds ++ [d]) H1 → D.nx σ H1) : tDrop (tBM K "list" rAppend ta (tCons te tNil)) D σ H := ha H (Ex.refl H) _ fun H1 e1 => by
  have p1 := cq_ex p e1
  obtain ⟨a1, a2, a3, acc, a4, a5⟩ := p1
  refine ⟨Or.inl ⟨rfl, acc, sq_of a4⟩, h H1 e1 _ fun v H2 e2 hv => ?_⟩
  have b4 := e2 _ _ a4
  have b5 := DqAll_ex a5 e2
  refine ⟨l, acc, v, rfl, rfl, b4, sz_lt (by rw [dpa_len b5]; omega), k _ ⟨a1, Ex.mut (a2.trans e2) a1, ?_, acc ++ [v], upd_same, ?_⟩⟩
  · rfl
  · have g : Go l H2 (upd H2 l (.lst (acc ++ [v]))) := fun a o n h => by rw [upd_ne n]; exact h
    exact dpa_app (dpa_go g b4 ds acc a3 b5) (.cons (Dq_go hv g b4 hi) .nil)
theorem q_appD (p : Cq K H0 l ds H) (ha : Ev ta σ H (.ref l)) (h : ED K te σ H d) (hi : imm d = true) (hz : ds.length < 50000) (k : ∀ H1, Cq K H0 l (ds ++ [d]) H1 → tz D σ H1) : tSeq (tDrop (tBM K "list" rAppend ta (tCons te tNil))) tz D σ H := s_appD (D := { D with nx := tz D }) p ha h hi hz k
theorem s_extD {tb : TA} (p : Cq K H0 l ds H) (ha : Ev ta σ H (.ref l)) (h : EA K tb σ H es) (hi : immAll es = true) (hz : ds.length + es.length < 50000) (k : ∀ H1, Cq K H0 l (ds ++ es) H1 → D.nx σ H1) : tDrop (tBM K "list" rExtend ta (tCons (tLst tb) tNil)) D σ H := ha H (Ex.refl H) _ fun H1 e1 => by
  have p1 := cq_ex p e1
  obtain ⟨a1, a2, a3, acc, a4, a5⟩ := p1
  refine ⟨Or.inl ⟨rfl, acc, sq_of a4⟩, h H1 e1 _ fun vs H2 e2 hv => ⟨sz_of (by rw [dpa_len hv]; omega), fun b hb => ?_⟩⟩
  have e3 : Ex H2 (upd H2 b (.lst vs)) := Ex.new hb
  have b4 := e3 _ _ (e2 _ _ a4)
  have b5 := DqAll_ex (DqAll_ex a5 e2) e3
  have hv3 := DqAll_ex hv e3
  have hb3 : (upd H2 b (.lst vs)) b = some (.lst vs) := upd_same
  generalize upd H2 b (.lst vs) = H3 at e3 b4 b5 hv3 hb3
  refine ⟨l, b, acc, vs, rfl, rfl, b4, hb3, sz_of (by rw [dpa_len b5, dpa_len hv3]; omega), k _ ⟨a1, Ex.mut ((a2.trans e2).trans e3) a1, ?_, acc ++ vs, upd_same, ?_⟩⟩
  · rfl
  · have g : Go l H3 (upd H3 l (.lst (acc ++ vs))) := fun a o n h => by rw [upd_ne n]; exact h
    exact dpa_app (dpa_go g b4 ds acc a3 b5) (dpa_go g b4 es vs hi hv3)
theorem em_cq {i : Nat} (p : Cq K H0 l ds H) (h : σ[i]? = some (some (.ref l))) : EM K (tVar i) σ H ds := by
  obtain ⟨a1, a2, a3, acc, a4, a5⟩ := p
  exact em_var h a4 a5
/-- the end of a list that grew: it is locked -/
theorem s_retL {i : Nat} (p : Cq K H0 l ds H) (h : σ[i]? = some (some (.ref l))) (k : ∀ v H1, Ex H0 H1 → Dq K H1 v (.list ds) → D.rt v H1) : tRet (tFrz (tVar i)) D σ H := by
  obtain ⟨a1, a2, a3, acc, a4, a5⟩ := p
  exact ⟨_, h, frz_done (Q := D.rt) (Ex.refl H0) a1 a2 a4 a5 k⟩
theorem q_newL {i : Nat} (k : ∀ l H1, H l = none → Cq K H l [] H1 → tz D (σ.set i (some (.ref l))) H1) : tSeq (tAsg (tLst tNil) (gName i)) tz D σ H := ⟨sz_of (by decide), fun p hp => k p _ hp (cq_nil hp)⟩
theorem q_parL {i j : Nat} (h : ∀ H1, Ex H H1 → ED K te σ H1 d) (k : ∀ l v H1, H l = none → Cq K H l [] H1 → Dq K H1 v d → tz D ((σ.set i (some (.ref l))).set j (some v)) H1) : tSeq (tPar i j (tCons (tLst tNil) (tCons te tNil))) tz D σ H :=
  ⟨sz_of (by decide), fun p hp => h _ (Ex.new hp) _ (Ex.refl _) _ fun v H2 e2 hv => ⟨_, _, rfl, k p v H2 hp (cq_ex (cq_nil hp) e2) hv⟩⟩
theorem pe_revLK {X : Cx} (hK : X.K = K) {e : Expr} {te : TE} {k : Nat} {p1 p2 p3 pos : Pos} (he : PE X e te) : PE X (.Subscript e (.Slice none none (some (.UnaryOp .USub (.Constant (.int 1) k p1) p2)) p3) pos) (tRevL K te) := by
  subst hK
  exact pe_revL he
theorem dpa_rev : ∀ {vs : List V} {ds : List PyData}, DqAll K H vs ds → DqAll K H vs.reverse ds.reverse
  | _, _, .nil => .nil
  | _, _, .cons h1 h2 => by
    rw [List.reverse_cons, List.reverse_cons]
    exact dpa_app (dpa_rev h2) (.cons h1 .nil)
theorem ed_revM (h : EM K te σ H ds) : ED K (tFrz (tRevL K te)) σ H (.list ds.reverse) := fun H1 e1 Q q =>
  h H1 e1 _ fun a xs H2 e2 hs ha => ⟨_, _, rfl, hs.sq, fun p hp => frz_done e2 hp (Ex.new hp) upd_same (DqAll_ex (dpa_rev ha) (Ex.new hp)) q⟩
theorem ed_rev (h : ED K te σ H (.list ds)) : ED K (tFrz (tRevL K te)) σ H (.list ds.reverse) := ed_revM h.em
end
/-! ### what the writers tell -/
def rWholeText (ds : List PyData) (d : PyData) : Prop := ∃ i : Int, ds = [.int i] ∧ i.natAbs < 2 ^ 199 ∧ d = .str (decI i)
def rFractionText (ds : List PyData) (d : PyData) : Prop := ∃ q : Rat, ds = [eF q] ∧ Sm 199 q ∧ d = .str (fracText q)
def wordN (x : Nat × Rat) : Str := if x.2 = 1 then decI x.1 else factText x.1 x.2
def writtenS (n : Num) : Str := if n = [] then Str.ofString "1" else Txt.join sSt (n.map wordN)
def rWritten (ds : List PyData) (d : PyData) : Prop := ∃ n, ds = [eN n] ∧ NumOk n ∧ SmN 199 n ∧ d = .str (writtenS n)
abbrev spWholeText (K : PySem.W.Frag) : Sp := spR K 1 rWholeText
abbrev spFractionText (K : PySem.W.Frag) : Sp := spR K 1 rFractionText
abbrev spWritten (K : PySem.W.Frag) : Sp := spR K 1 rWritten
theorem join_one (x : Str) : Txt.join (Str.ofString "") [x] = x := by
  rw [join_eq]
  rfl
theorem dec_abs (i : Int) : (if i < 0 then Str.ofString "-" else Str.ofString "") ++ decI ((i.natAbs : Nat) : Int) = decI i := by
  refine ext_tl ?_
  rw [tl_append, tl_dec]
  by_cases h : i < 0
  · rw [if_pos h, tl_dash]
    obtain ⟨n, rfl⟩ : ∃ n : Nat, i = -(n : Int) := ⟨(-i).toNat, by omega⟩
    rw [tl_neg (by omega), Int.natAbs_neg]
    rfl
  · rw [if_neg h, tl_nil]
    obtain ⟨n, rfl⟩ : ∃ n : Nat, i = n := ⟨i.toNat, by omega⟩
    rw [tl_dec]
    rfl
theorem block_lt {i : Int} (h : i.natAbs < 2 ^ 199) : ((i.natAbs : Nat) : Int) < 1000000000000000000000000000000000000000000000000000000000000 := by
  have : (2 : Nat) ^ 199 < 1000000000000000000000000000000000000000000000000000000000000 := by decide
  omega
/-- signs within the plain ones -/
def asc7 (x : Str) : Prop := ∀ c ∈ tl x, c < 128
theorem asc_dec (i : Int) : asc7 (decI i) := fun c hc => by
  by_cases h : c < 128
  · exact h
  · exact absurd hc (dec_free (by omega))
theorem asc_frac (q : Rat) : asc7 (fracText q) := fun c hc => by
  by_cases h : c < 128
  · exact h
  · exact absurd hc (frac_free (by omega))
theorem asc_word (x : Nat × Rat) : asc7 (wordN x) := fun c hc => by
  unfold wordN factText at hc
  split at hc
  · exact asc_dec _ c hc
  · rw [tl_append, tl_append] at hc
    rcases List.mem_append.mp hc with hc | hc
    · rcases List.mem_append.mp hc with hc | hc
      · exact asc_dec _ c hc
      · rw [show tl sRf = [94] from tl_roof] at hc
        have := List.mem_singleton.mp hc
        omega
    · exact asc_frac _ c hc
theorem lay_asc {x : Str} (h : asc7 x) : PyData.canLay0 (.str x) = true := by
  show x.cps.all (· < 0x110000) = true
  rw [Array.all_eq_true']
  intro c hc
  have := h c (Array.mem_toList_iff.mpr hc)
  exact decide_eq_true (by omega)
theorem len_word {x : Nat × Rat} {k : Nat} (hp : x.1 ≤ 9999) (hk : 0 < k) (h : Sm k x.2) : (wordN x).length ≤ 2 * k + 19 := by
  have a := len_decI (i := (x.1 : Int)) (k := 14) (by decide) (by show x.1 < _; omega)
  have b := len_fracText hk h
  unfold wordN factText
  split
  · omega
  · rw [PySem.Str.length_append, PySem.Str.length_append]
    have : sRf.length = 1 := rfl
    omega
end My

namespace My
open PySem PySem.Spec PyProof.Rows L2 Evl TL
/-! ### powers undo one another: plain -/
theorem canE_congr {e f : Nat → Rat} (h : ∀ p, p < 10000 → e p = f p) : canE e = canE f := can_eq (can_canE e) fun p hp => by rw [ev_canE hp, h p hp]
theorem npow_npow (n : Num) (a b : Rat) : npow (npow n a) b = npow n (a * b) := canE_congr fun p hp => by
  unfold npow
  rw [ev_canE hp, Rat.mul_assoc]
theorem npow_one {n : Num} (h : Can n) : npow n 1 = n := (can_eq h fun p _ => (Rat.mul_one _).symm).symm
theorem npow_add (n : Num) (a b : Rat) : npow n (a + b) = nmul (npow n a) (npow n b) := canE_congr fun p hp => by
  unfold npow
  rw [ev_canE hp, ev_canE hp, Rat.mul_add]
theorem npow_nmul (m n : Num) (a : Rat) : npow (nmul m n) a = nmul (npow m a) (npow n a) := canE_congr fun p hp => by
  unfold npow nmul
  rw [ev_canE hp, ev_canE hp, ev_canE hp, Rat.add_mul]
theorem nmul_turn (a b c : Num) : nmul (nmul a b) c = nmul c (nmul b a) := canE_congr fun p hp => by
  unfold nmul
  rw [ev_canE hp, ev_canE hp]
  grind
/-- one over a power, as the law makes it -/
def bk (q : Rat) : Rat := mkRat (if 0 < q.num then (q.den : Int) else -(q.den : Int)) q.num.natAbs
theorem bk_data {q : Rat} (h : q ≠ 0) : PyData.tuple [.int (if 0 < q.num then (q.den : Int) else -(q.den : Int)), .int (if 0 < q.num then q.num else -q.num)] = eF (bk q) := by
  have hn := num_ne h
  have r : Nat.gcd q.num.natAbs q.den = 1 := q.reduced
  have hb : (if 0 < q.num then q.num else -q.num) = ((q.num.natAbs : Nat) : Int) := by split <;> omega
  have hf : isFracD (.tuple [.int (if 0 < q.num then (q.den : Int) else -(q.den : Int)), .int ((q.num.natAbs : Nat) : Int)]) = true := by
    show (decide (1 ≤ ((q.num.natAbs : Nat) : Int)) && decide (Int.gcd (if 0 < q.num then (q.den : Int) else -(q.den : Int)) ((q.num.natAbs : Nat) : Int) = 1)) = true
    have g : Int.gcd (if 0 < q.num then (q.den : Int) else -(q.den : Int)) ((q.num.natAbs : Nat) : Int) = 1 := by
      show Nat.gcd _ _ = 1
      have e : (if 0 < q.num then (q.den : Int) else -(q.den : Int)).natAbs = q.den := by split <;> simp
      rw [e, Nat.gcd_comm]
      exact r
    rw [g, decide_eq_true (by omega)]
    rfl
  have := frac_of hf
  rw [Int.toNat_natCast] at this
  rw [hb]
  exact this
theorem bk_mul {q : Rat} (h : q ≠ 0) : q * bk q = 1 := by
  have hn := num_ne h
  have hd := natCast_ne (den_pos q)
  have e1 : q = (q.num : Rat) / ((q.den : Nat) : Rat) := by rw [← mk_div, Rat.mkRat_self]
  have hnz : (q.num : Rat) ≠ 0 := fun z => hn (by
    have : (q.num : Rat).num = 0 := by rw [z]; rfl
    rwa [Rat.num_intCast] at this)
  have e2 : bk q = ((q.den : Nat) : Rat) / (q.num : Rat) := by
    unfold bk
    rw [mk_div]
    by_cases p : 0 < q.num
    · rw [if_pos p]
      have : ((q.num.natAbs : Nat) : Rat) = (q.num : Rat) := by
        have e : ((q.num.natAbs : Nat) : Int) = q.num := by omega
        rw [← e]
        rfl
      rw [this]
      rfl
    · rw [if_neg p]
      have : ((q.num.natAbs : Nat) : Rat) = -(q.num : Rat) := by
        have e : ((q.num.natAbs : Nat) : Int) = -q.num := by omega
        rw [← Rat.intCast_neg, ← e]
        rfl
      rw [this, Rat.intCast_neg]
      have : (((q.den : Nat) : Int) : Rat) = ((q.den : Nat) : Rat) := rfl
      rw [this]
      grind
  rw [e2]
  generalize ((q.den : Nat) : Rat) = d at hd e1
  generalize (q.num : Rat) = u at hnz e1
  rw [e1]
  grind
theorem bk_sm {q : Rat} (h : Tw 144 q) (hn : q.num.natAbs ≤ 12) (h0 : q ≠ 0) : Sm 8 (bk q) := by
  have hd := Nat.le_of_dvd (by decide) (tw_den h).1
  have := num_ne h0
  refine mk_sm ?_ ?_ ?_
  · split <;> omega
  · omega
  · omega
theorem bk_pow {n : Num} {q : Rat} (h : Can n) (hq : q ≠ 0) : npow (npow n q) (bk q) = n := by rw [npow_npow, bk_mul hq, npow_one h]
/-! ### another text of the same number -/
def hf (q : Rat) : Rat := q * mkRat 1 2
def otherParts (n : Num) : List Str := (n.flatMap fun x => [factText x.1 (hf x.2), factText x.1 (hf x.2)]).reverse ++ [Str.ofString "7", Str.ofString "1/7"]
def otherText (n : Num) : Str := Txt.join sSt (otherParts n)
noncomputable def otherFs (n : Num) : List Num := (n.flatMap fun x => [[(x.1, hf x.2)], [(x.1, hf x.2)]]).reverse ++ [nfrac 7 1, nfrac 1 7]
theorem hf_two (q : Rat) : hf q + hf q = q := by
  unfold hf
  rw [mk_div]
  have : ((1 : Int) : Rat) = 1 := rfl
  have : ((2 : Nat) : Rat) = 2 := rfl
  grind
theorem hf_ne {q : Rat} (h : q ≠ 0) : hf q ≠ 0 := fun z => h (by rw [← hf_two q, z]; grind)
theorem dec_seven : Str.ofString "7" = decI ((7 : Nat) : Int) := rfl
theorem over_seven : Str.ofString "1/7" = decI ((1 : Nat) : Int) ++ sSl ++ decI ((7 : Nat) : Int) := by decide +kernel
theorem other_fact {n : Num} (h : NumOk n) : (otherParts n).map factS = (otherFs n).map some := by
  unfold otherParts otherFs
  rw [List.map_append, List.map_append, List.map_reverse, List.map_reverse]
  congr 1
  · congr 1
    have : ∀ m : Num, (∀ x ∈ m, Pr x.1 ∧ x.1 ≤ 9999 ∧ x.2 ≠ 0) → (m.flatMap fun x => [factText x.1 (hf x.2), factText x.1 (hf x.2)]).map factS = (m.flatMap fun x => [[(x.1, hf x.2)], [(x.1, hf x.2)]]).map some := by
      intro m
      induction m with
      | nil => intro _; rfl
      | cons x r ih =>
        intro hm
        obtain ⟨a, b, c⟩ := hm x List.mem_cons_self
        have e := fact_pow (p := x.1) (q := hf x.2) (by have := a.1; omega) b (hf_ne c)
        rw [pow_prime a b (hf_ne c)] at e
        rw [List.flatMap_cons, List.flatMap_cons, List.map_append, List.map_append, ih fun y hy => hm y (List.mem_cons_of_mem _ hy)]
        show [factS _, factS _] ++ _ = _
        rw [e]
        rfl
    exact this n h.pr
  · show [factS (Str.ofString "7"), factS (Str.ofString "1/7")] = _
    rw [dec_seven, over_seven, fact_plain (by decide) (by decide), fact_over (by decide) (by decide) (by decide) (by decide)]
    rfl
theorem evs_app (a b : List Num) (p : Nat) : evs (a ++ b) p = evs a p + evs b p := by
  induction a with
  | nil => exact (Rat.zero_add _).symm
  | cons x r ih =>
    show ev x p + evs (r ++ b) p = ev x p + evs r p + evs b p
    rw [ih, Rat.add_assoc]
theorem evs_rev (a : List Num) (p : Nat) : evs a.reverse p = evs a p := by
  induction a with
  | nil => rfl
  | cons x r ih =>
    rw [List.reverse_cons, evs_app, ih]
    show evs r p + (ev x p + 0) = ev x p + evs r p
    rw [Rat.add_zero, Rat.add_comm]
theorem ev_seven (p : Nat) : ev (nfrac 7 1) p + ev (nfrac 1 7) p = 0 := by
  by_cases hp : p < 10000
  · unfold nfrac
    rw [ev_canE hp, ev_canE hp]
    grind
  · rw [ev_big (nfrac_ok (by decide) (by decide) (by decide) (by decide)).can (by omega), ev_big (nfrac_ok (by decide) (by decide) (by decide) (by decide)).can (by omega), Rat.add_zero]
theorem other_evs (n : Num) (p : Nat) : evs (otherFs n) p = ev n p := by
  unfold otherFs
  rw [evs_app, evs_rev]
  have e7 : evs [nfrac 7 1, nfrac 1 7] p = 0 := by
    show ev (nfrac 7 1) p + (ev (nfrac 1 7) p + 0) = 0
    rw [Rat.add_zero, ev_seven]
  rw [e7, Rat.add_zero]
  induction n with
  | nil => rfl
  | cons x r ih =>
    rw [List.flatMap_cons, evs_app, ih]
    show (ev [(x.1, hf x.2)] p + (ev [(x.1, hf x.2)] p + 0)) + ev r p = (if x.1 = p then x.2 else 0) + ev r p
    have a : ev [(x.1, hf x.2)] p = if x.1 = p then hf x.2 else 0 := by
      show (if x.1 = p then hf x.2 else 0) + 0 = _
      rw [Rat.add_zero]
    rw [a, Rat.add_zero]
    have := hf_two x.2
    split
    · rw [this]
    · grind
theorem other_ok {n : Num} (h : NumOk n) : ∀ f ∈ otherFs n, NumOk f := fun f hf' => by
  unfold otherFs at hf'
  rcases List.mem_append.mp hf' with hm | hm
  · obtain ⟨x, hx, hm⟩ := List.mem_flatMap.mp (List.mem_reverse.mp hm)
    have e : f = [(x.1, hf x.2)] := by
      rcases List.mem_cons.mp hm with e | hm
      · exact e
      · exact List.mem_singleton.mp hm
    rw [e]
    obtain ⟨a, b, c⟩ := h.pr x hx
    exact ⟨List.pairwise_singleton _ _, fun y hy => by rw [List.mem_singleton.mp hy]; exact ⟨a, b, hf_ne c⟩⟩
  · rcases List.mem_cons.mp hm with e | hm
    · rw [e]; exact nfrac_ok (by decide) (by decide) (by decide) (by decide)
    · rw [List.mem_singleton.mp hm]; exact nfrac_ok (by decide) (by decide) (by decide) (by decide)
theorem other_num {n : Num} (h : NumOk n) : numF [] (otherParts n) = some n := by
  rw [numF_all [] (other_fact h)]
  congr 1
  have ok := ok_fold (otherFs n) tw_nil.ok (other_ok h)
  refine can_ext ok.asc h.asc (fun x hx => (ok.pr x hx).2.2) (fun x hx => (h.pr x hx).2.2) fun p => ?_
  by_cases hp : p < 10000
  · rw [ev_fold hp, other_evs]
    show (0 : Rat) + ev n p = ev n p
    rw [Rat.zero_add]
  · rw [ev_big ok.can (by omega), ev_big h.can (by omega)]
/-- sums of twentyfourths -/
def T24 (b : Nat) (q : Rat) : Prop := ∃ z : Int, q = (z : Rat) / 24 ∧ z.natAbs ≤ b
theorem t24_sm {b k : Nat} {q : Rat} (h : T24 b q) (hb : b < 2 ^ k) (hk : 5 ≤ k) : Sm k q := by
  obtain ⟨z, e, hz⟩ := h
  have : q = mkRat z 24 := by rw [mk_div]; exact e
  rw [this]
  have : 2 ^ 5 ≤ 2 ^ k := Nat.pow_le_pow_right (by decide) hk
  exact mk_sm (by omega) (by omega) (by decide)
theorem t24_evs {b p : Nat} : ∀ {fs : List Num}, (∀ f ∈ fs, T24 b (ev f p)) → T24 (b * fs.length) (evs fs p)
  | [], _ => ⟨0, by show (0 : Rat) = _; have : ((0 : Int) : Rat) = 0 := rfl; grind, Nat.zero_le _⟩
  | f :: fs, h => by
    obtain ⟨z, e, hz⟩ := h f List.mem_cons_self
    obtain ⟨y, e2, hy⟩ := t24_evs (fs := fs) fun g hg => h g (List.mem_cons_of_mem _ hg)
    refine ⟨z + y, ?_, ?_⟩
    · show ev f p + evs fs p = _
      rw [e, e2, Rat.intCast_add]
      grind
    · rw [List.length_cons, Nat.mul_succ]
      omega
theorem t24_hf {b : Nat} {q : Rat} (h : Tw b q) : T24 b (hf q) := by
  obtain ⟨z, e, hz⟩ := h
  refine ⟨z, ?_, hz⟩
  unfold hf
  rw [mk_div, e]
  have : ((1 : Int) : Rat) = 1 := rfl
  have : ((2 : Nat) : Rat) = 2 := rfl
  grind
theorem int_nfrac2 {t l : Nat} (t1 : 1 ≤ t) (t2 : t ≤ 9999) (l1 : 1 ≤ l) (l2 : l ≤ 9999) (p : Nat) : ∃ i : Int, ev (nfrac t l) p = (i : Rat) ∧ i.natAbs ≤ 52 := by
  by_cases hp : p < 10000
  · have s := sum_nfrac t1 t2 l1 l2
    by_cases p0 : p = 0
    · subst p0
      exact ⟨0, (nfrac_ok t1 t2 l1 l2).ev0, by decide⟩
    · have a := sumR_mem (f := fun p => bl p * (((mult (fac t) p : Nat) : Int) - ((mult (fac l) p : Nat) : Int)).natAbs) hp
      have c := Nat.le_trans a s
      have d := bl_pos (p := p) (by omega)
      have g : 1 * (((mult (fac t) p : Nat) : Int) - ((mult (fac l) p : Nat) : Int)).natAbs ≤ bl p * (((mult (fac t) p : Nat) : Int) - ((mult (fac l) p : Nat) : Int)).natAbs := Nat.mul_le_mul_right _ d
      exact ⟨_, ev_nfrac hp, Nat.le_trans (by omega) c⟩
  · exact ⟨0, ev_big (nfrac_ok t1 t2 l1 l2).can (by omega), by decide⟩
theorem other_t24 {n : Num} (h : TwN 14976 n) (p : Nat) : ∀ f ∈ otherFs n, T24 14976 (ev f p) := fun f hf' => by
  have z0 : T24 14976 0 := ⟨0, by have : ((0 : Int) : Rat) = 0 := rfl; grind, Nat.zero_le _⟩
  have i0 : ∀ {t l : Nat}, 1 ≤ t → t ≤ 9999 → 1 ≤ l → l ≤ 9999 → T24 14976 (ev (nfrac t l) p) := fun t1 t2 l1 l2 => by
    obtain ⟨i, e, b⟩ := int_nfrac2 t1 t2 l1 l2 p
    refine ⟨24 * i, ?_, by omega⟩
    rw [e, Rat.intCast_mul]
    have : ((24 : Int) : Rat) = 24 := rfl
    grind
  unfold otherFs at hf'
  rcases List.mem_append.mp hf' with hm | hm
  · obtain ⟨x, hx, hm⟩ := List.mem_flatMap.mp (List.mem_reverse.mp hm)
    have e : f = [(x.1, hf x.2)] := by
      rcases List.mem_cons.mp hm with e | hm
      · exact e
      · exact List.mem_singleton.mp hm
    rw [e]
    have t := h.tw x.1
    rw [ev_mem h.ok.asc hx] at t
    show T24 14976 ((if x.1 = p then hf x.2 else 0) + 0)
    rw [Rat.add_zero]
    split
    · exact t24_hf t
    · exact z0
  · rcases List.mem_cons.mp hm with e | hm
    · rw [e]; exact i0 (by decide) (by decide) (by decide) (by decide)
    · rw [List.mem_singleton.mp hm]; exact i0 (by decide) (by decide) (by decide) (by decide)
theorem other_len (n : Num) : (otherParts n).length = 2 * n.length + 2 ∧ (otherFs n).length = 2 * n.length + 2 := by
  unfold otherParts otherFs
  rw [List.length_append, List.length_append, List.length_reverse, List.length_reverse]
  constructor
  · congr 1
    induction n with
    | nil => rfl
    | cons x r ih =>
      rw [List.flatMap_cons, List.length_append, ih]
      show 2 + 2 * r.length = 2 * (r.length + 1)
      omega
  · congr 1
    induction n with
    | nil => rfl
    | cons x r ih =>
      rw [List.flatMap_cons, List.length_append, ih]
      show 2 + 2 * r.length = 2 * (r.length + 1)
      omega
theorem other_part {n : Num} (h : TwN 14976 n) : ∀ p ∈ otherParts n, 42 ∉ tl p ∧ asc7 p ∧ p.length ≤ 60 := fun p hp => by
  unfold otherParts at hp
  rcases List.mem_append.mp hp with hm | hm
  · obtain ⟨x, hx, hm⟩ := List.mem_flatMap.mp (List.mem_reverse.mp hm)
    have e : p = factText x.1 (hf x.2) := by
      rcases List.mem_cons.mp hm with e | hm
      · exact e
      · exact List.mem_singleton.mp hm
    have t := h.tw x.1
    rw [ev_mem h.ok.asc hx] at t
    have sm := t24_sm (k := 14) (t24_hf t) (by decide) (by decide)
    have a := len_decI (i := (x.1 : Int)) (k := 14) (by decide) (by have := (h.ok.pr x hx).2.1; show x.1 < _; omega)
    have b := len_fracText (by decide) sm
    have hrf : tl sRf = [94] := tl_roof
    rw [e]
    unfold factText
    refine ⟨fun hc => ?_, fun c hc => ?_, ?_⟩
    · rw [tl_append, tl_append, hrf] at hc
      rcases List.mem_append.mp hc with hc | hc
      · rcases List.mem_append.mp hc with hc | hc
        · exact dec_free (by omega) hc
        · have := List.mem_singleton.mp hc; omega
      · exact frac_free (by omega) hc
    · rw [tl_append, tl_append, hrf] at hc
      rcases List.mem_append.mp hc with hc | hc
      · rcases List.mem_append.mp hc with hc | hc
        · exact asc_dec _ c hc
        · have := List.mem_singleton.mp hc; omega
      · exact asc_frac _ c hc
    · rw [PySem.Str.length_append, PySem.Str.length_append]
      have : sRf.length = 1 := rfl
      omega
  · rcases List.mem_cons.mp hm with e | hm
    · rw [e]
      refine ⟨?_, fun c hc => ?_, by decide⟩
      · rw [tl_ofString]; decide
      · rw [tl_ofString] at hc
        have : c ∈ [55] := hc
        have := List.mem_singleton.mp this
        omega
    · rw [List.mem_singleton.mp hm]
      refine ⟨?_, fun c hc => ?_, by decide⟩
      · rw [tl_ofString]; decide
      · rw [tl_ofString] at hc
        have : c ∈ [49, 47, 55] := hc
        simp at this
        omega
theorem other_split {n : Num} (h : TwN 14976 n) : Txt.split (otherText n) sSt = otherParts n := by
  have ne : otherParts n ≠ [] := by
    intro z
    have := (other_len n).1
    rw [z] at this
    cases this
  exact split_join (y := sSt) (s := 42) (S := []) tl_star (by decide +kernel) ne fun p hp => (other_part h p hp).1
theorem other_txt {n : Num} (h : TwN 14976 n) : TxtOk (otherText n) ∧ ((otherParts n).map (·.length)).sum + (otherParts n).length * 1 ≤ 16777216 := by
  have len := h.ok.can.len
  have ol := other_len n
  have a := PyProof.Rows.sumLen_le_of_bound (fun y : Str => y) 60 (otherParts n) fun p hp => (other_part h p hp).2.2
  rw [List.map_id'] at a
  refine ⟨⟨?_, fun p hp => ?_, fun i acc ha => ?_⟩, by omega⟩
  · have hs := PySem.StrLaws.join_split (otherText n) sSt
    have : ∀ ps : List Str, (Txt.join sSt ps).length ≤ (ps.map (·.length)).sum + ps.length := by
      intro ps
      rw [join_eq]
      induction ps with
      | nil => exact Nat.le_refl _
      | cons x r ih =>
        cases r with
        | nil => show x.length ≤ x.length + 0 + 1; omega
        | cons y r =>
          show (x ++ sSt ++ Str.join sSt (y :: r)).length ≤ _
          rw [PySem.Str.length_append, PySem.Str.length_append, List.map_cons, List.sum_cons, List.length_cons]
          have : sSt.length = 1 := rfl
          omega
    have := this (otherParts n)
    show (Txt.join sSt (otherParts n)).length ≤ _
    omega
  · rw [other_split h] at hp
    have := other_part h p hp
    exact ⟨by omega, lay_asc this.2.1⟩
  · rw [other_split h] at ha
    have hf' : ((otherParts n).take i).map factS = ((otherFs n).take i).map some := by
      rw [List.map_take, List.map_take, other_fact h.ok]
    rw [numF_all [] hf'] at ha
    have e := Option.some.inj ha
    have ok := ok_fold ((otherFs n).take i) tw_nil.ok fun f hf2 => other_ok h.ok f (List.mem_of_mem_take hf2)
    rw [e] at ok
    intro x hx
    have hp : x.1 < 10000 := by have := (ok.pr x hx).2.1; omega
    have t := t24_evs (p := x.1) (fs := (otherFs n).take i) fun f hf2 => other_t24 h x.1 f (List.mem_of_mem_take hf2)
    have v : ev acc x.1 = evs ((otherFs n).take i) x.1 := by
      rw [← e, ev_fold hp]
      show (0 : Rat) + _ = _
      rw [Rat.zero_add]
    rw [← v, ev_mem ok.asc hx] at t
    have l : ((otherFs n).take i).length ≤ 20002 := by rw [List.length_take]; omega
    have b : 14976 * ((otherFs n).take i).length < 2 ^ 29 := by
      have := Nat.mul_le_mul_left 14976 l
      omega
    exact (t24_sm (k := 29) t b (by decide)).mono (by decide)
/-! ### rules -/
section
variable {K : PySem.W.Frag} {σ : L2.St} {H H0 : Hp} {ta tb te tc td : TE} {p : Addr} {m n k : Nat} {D : Ends} {tz : TS} {R : PyData → Prop}
theorem q_unl3G {i j l : Nat} (hp : PotAt p m H) (h : EG K p te σ H m n (fun d => ∃ ds, d = .list ds ∧ (ds.length ≤ 3 ∧ ds.length = 3) ∧ ∀ x ∈ ds, R x))
    (kk : ∀ a b c d1 d2 d3 H1, Go p H H1 → PotAt p n H1 → R d1 → R d2 → R d3 → Dq K H1 a d1 → Dq K H1 b d2 → Dq K H1 c d3 → tz D (((σ.set i (some a)).set j (some b)).set l (some c)) H1) :
    tSeq (tAsg te (gUnl K 3 (gCons (gName i) (gCons (gName j) (gCons (gName l) gNil))))) tz D σ H :=
  h H (Go.refl H) hp _ fun v H1 d g1 hp1 hd hv => by
    obtain ⟨ds, rfl, ⟨-, hl⟩, hR⟩ := hd
    match ds, hl with
    | [d1, d2, d3], _ =>
      cases hv with
      | lst hs ha =>
        obtain ⟨a, b, c, rfl, h1, h2, h3⟩ := dpa3 ha
        exact ⟨_, _, rfl, hs.sq, rfl, _, _, rfl, _, _, rfl, _, _, rfl, rfl, kk a b c d1 d2 d3 H1 g1 hp1 (hR d1 (by simp)) (hR d2 (by simp)) (hR d3 (by simp)) h1 h2 h3⟩
theorem q_par2G {i j : Nat} {ta : TA} {R1 R2' : PyData → Prop} (hp : PotAt p m H) (h : EGA K p ta σ H m n (fun ds => ∃ d es, ds = d :: es ∧ R1 d ∧ ∃ d' es', es = d' :: es' ∧ R2' d' ∧ es' = []))
    (kk : ∀ a b d1 d2 H1, Go p H H1 → PotAt p n H1 → R1 d1 → R2' d2 → Dq K H1 a d1 → Dq K H1 b d2 → tz D ((σ.set i (some a)).set j (some b)) H1) : tSeq (tPar i j ta) tz D σ H :=
  h H (Go.refl H) hp _ fun vs H1 ds g1 hp1 hd hv => by
    obtain ⟨d1, _, rfl, r1, d2, _, rfl, r2, rfl⟩ := hd
    obtain ⟨a, b, rfl, h1, h2⟩ := dpa2 hv
    exact ⟨a, b, rfl, kk a b d1 d2 H1 g1 hp1 r1 r2 h1 h2⟩
theorem ed_reprEq {d : PyData} (ha : ED K ta σ H d) (hb : ED K tb σ H d) (hs : Shw 50 16000000 d) : ED K (tOp rEq (tCB (rReprD K) (tCons ta tNil)) (tCB (rReprD K) (tCons tb tNil))) σ H (.bool true) :=
  ed_is (ed_op (ed_cb (ea_cons ha ea_nil) (rb_repr hs)) (ed_cb (ea_cons hb ea_nil) (rb_repr hs)) rd_eqS) (congrArg PyData.bool (decide_eq_true rfl))
theorem ed_same {x : Str} (ha : ED K ta σ H (.str x)) (hb : ED K tb σ H (.str x)) : ED K (tOp rEq ta tb) σ H (.bool true) := ed_is (ed_op ha hb rd_eqS) (congrArg PyData.bool (decide_eq_true rfl))
end
def rOther (ds : List PyData) (d : PyData) : Prop := ∃ n, ds = [eN n] ∧ TwN 14976 n ∧ d = .str (otherText n)
abbrev spOther (K : PySem.W.Frag) : Sp := spR K 1 rOther
def NumD (d : PyData) : Prop := ∃ n, TwN 14976 n ∧ d = eN n
theorem numd_imm (d : PyData) (h : NumD d) : imm d = true := by
  obtain ⟨n, _, rfl⟩ := h
  exact imm_eN n
theorem shw_num {n : Num} (h : Can n) (s : SmN 60 n) : Shw 50 16000000 (eN n) := (shw_eN h s).mono (by decide) (by decide)
end My

namespace My
open PySem PySem.Spec PyProof.Rows L2 Evl TL
/-! ### drawn texts of numbers: plain -/
theorem tw_npow1 {t : Nat} {q : Rat} (t1 : 1 ≤ t) (t2 : t ≤ 9999) (hq : Tw 144 q) : TwN 3744 (npow (nfrac t 1) q) := by
  obtain ⟨y, hy, hb⟩ := hq
  have f1 : fac 1 = [] := (fac_eq (by decide) ⟨.nil, (fun x h => by cases h), rfl⟩).symm
  have kt : ∀ x ∈ fac t, x.1 < 10000 := fun x hx => by have := (fac_bound t1 t2 x hx).2.1; omega
  refine TwN.of (ok_npow (nfrac_ok t1 t2 (by decide) (by decide))) (fun p => y * ((mult (fac t) p : Nat) : Int)) (fun p hp => ?_) ?_
  · unfold npow
    rw [ev_canE hp, ev_nfrac hp, f1, Rat.intCast_mul, hy]
    have e : (((mult (fac t) p : Nat) : Int) - ((mult [] p : Nat) : Int) : Int) = ((mult (fac t) p : Nat) : Int) := by simp [mult]
    rw [e]
    grind
  · have a := above_fac t1 t2
    rw [above_R kt] at a
    refine Nat.le_trans (sumR_le (g := fun p => 144 * (bl p * mult (fac t) p)) fun p hp => ?_) ?_
    · rw [Int.natAbs_mul, Nat.mul_left_comm]
      exact Nat.mul_le_mul_right _ hb
    · rw [sumR_mul]
      omega
/-- a text of one factor -/
structure Ftx (x : Str) (n : Num) : Prop where
  fact : factS x = some n
  cl : ∀ c ∈ tl x, (45 ≤ c ∧ c ≤ 57) ∨ c = 94
  len : x.length ≤ 60
  tw : TwN 3744 n
theorem dec_in {i : Int} {c : Nat} (h : c ∈ tl (decI i)) : 45 ≤ c ∧ c ≤ 57 := by
  by_cases z : c < 45 ∨ 57 < c
  · exact absurd h (dec_free (by omega))
  · omega
theorem frac_in {q : Rat} {c : Nat} (h : c ∈ tl (fracText q)) : 45 ≤ c ∧ c ≤ 57 := by
  by_cases z : c < 45 ∨ 57 < c
  · exact absurd h (frac_free (by omega))
  · omega
theorem ftx_plain {p : Nat} (h1 : 1 ≤ p) (h2 : p ≤ 9999) : Ftx (decI p) (nfrac p 1) where
  fact := fact_plain h1 h2
  cl := fun c hc => .inl (dec_in hc)
  len := by have := len_decI (i := (p : Int)) (k := 14) (by decide) (by show p < _; omega); omega
  tw := (tw_nfrac h1 h2 (by decide) (by decide)).mono (by decide)
theorem ftx_over {p r : Nat} (h1 : 1 ≤ p) (h2 : p ≤ 9999) (h3 : 1 ≤ r) (h4 : r ≤ 9999) : Ftx (decI p ++ sSl ++ decI r) (nfrac p r) where
  fact := fact_over h1 h2 h3 h4
  cl := fun c hc => by
    rw [tl_append, tl_append, show tl sSl = [47] from tl_slash] at hc
    rcases List.mem_append.mp hc with hc | hc
    · rcases List.mem_append.mp hc with hc | hc
      · exact .inl (dec_in hc)
      · have := List.mem_singleton.mp hc; omega
    · exact .inl (dec_in hc)
  len := by
    have a := len_decI (i := (p : Int)) (k := 14) (by decide) (by show p < _; omega)
    have b := len_decI (i := (r : Int)) (k := 14) (by decide) (by show r < _; omega)
    have : sSl.length = 1 := rfl
    rw [PySem.Str.length_append, PySem.Str.length_append]
    omega
  tw := (tw_nfrac h1 h2 h3 h4).mono (by decide)
theorem ftx_pow {p : Nat} {q : Rat} (h1 : 1 ≤ p) (h2 : p ≤ 9999) (hq : Tw 144 q) (h0 : q ≠ 0) : Ftx (factText p q) (npow (nfrac p 1) q) where
  fact := fact_pow h1 h2 h0
  cl := fun c hc => by
    unfold factText at hc
    rw [tl_append, tl_append, show tl sRf = [94] from tl_roof] at hc
    rcases List.mem_append.mp hc with hc | hc
    · rcases List.mem_append.mp hc with hc | hc
      · exact .inl (dec_in hc)
      · exact .inr (List.mem_singleton.mp hc)
    · exact .inl (frac_in hc)
  len := by
    have a := len_decI (i := (p : Int)) (k := 14) (by decide) (by show p < _; omega)
    have b := len_fracText (k := 8) (by decide) (tw_sm hq (by decide) (by decide))
    have : sRf.length = 1 := rfl
    unfold factText
    rw [PySem.Str.length_append, PySem.Str.length_append]
    omega
  tw := tw_npow1 h1 h2 hq
theorem Ftx.asc {x : Str} {n : Num} (h : Ftx x n) : asc7 x := fun c hc => by
  have := h.cl c hc
  omega
/-! ### joined texts -/
theorem mem_join {y : Str} : ∀ {ps : List Str} {c : Nat}, c ∈ tl (Str.join y ps) → c ∈ tl y ∨ ∃ p ∈ ps, c ∈ tl p
  | [], c, h => by cases h
  | [x], c, h => .inr ⟨x, List.mem_cons_self, h⟩
  | x :: z :: r, c, h => by
    have h : c ∈ tl (x ++ y ++ Str.join y (z :: r)) := h
    rw [tl_append, tl_append] at h
    rcases List.mem_append.mp h with h | h
    · rcases List.mem_append.mp h with h | h
      · exact .inr ⟨x, List.mem_cons_self, h⟩
      · exact .inl h
    · rcases mem_join h with h | ⟨p, hp, h⟩
      · exact .inl h
      · exact .inr ⟨p, List.mem_cons_of_mem _ hp, h⟩
theorem len_join {y : Str} : ∀ (ps : List Str), (Str.join y ps).length ≤ (ps.map (·.length)).sum + ps.length * y.length
  | [] => Nat.zero_le _
  | [x] => by show x.length ≤ x.length + 0 + 1 * y.length; omega
  | x :: z :: r => by
    show (x ++ y ++ Str.join y (z :: r)).length ≤ _
    have := len_join (y := y) (z :: r)
    rw [PySem.Str.length_append, PySem.Str.length_append, List.map_cons, List.sum_cons, List.length_cons, Nat.succ_mul]
    omega
theorem sum_len {ps : List Str} {b : Nat} (h : ∀ p ∈ ps, p.length ≤ b) : (ps.map (·.length)).sum ≤ b * ps.length := by
  have a := PyProof.Rows.sumLen_le_of_bound (fun y : Str => y) b ps h
  rwa [List.map_id'] at a
/-- the factors of a text -/
structure Fts (u : Nat) (L : List (Str × Num)) : Prop where
  ne : L ≠ []
  le : L.length ≤ u
  ok : ∀ x ∈ L, Ftx x.1 x.2
def ftText (L : List (Str × Num)) : Str := Txt.join sSt (L.map (·.1))
noncomputable def ftNum (L : List (Str × Num)) : Num := (L.map (·.2)).foldl nmul []
theorem Fts.split {u : Nat} {L : List (Str × Num)} (h : Fts u L) : Txt.split (ftText L) sSt = L.map (·.1) :=
  split_join (y := sSt) (s := 42) (S := []) tl_star (by decide +kernel) (fun z => h.ne (List.map_eq_nil_iff.mp z)) fun p hp => by
    obtain ⟨x, hx, rfl⟩ := List.mem_map.mp hp
    intro hc
    have := (h.ok x hx).cl 42 hc
    omega
theorem ft_facts {L : List (Str × Num)} (h : ∀ x ∈ L, Ftx x.1 x.2) : (L.map (·.1)).map factS = (L.map (·.2)).map some := by
  rw [List.map_map, List.map_map]
  exact List.map_congr_left fun x hx => (h x hx).fact
theorem ft_tw : ∀ (L : List (Str × Num)) {w : Nat} {acc : Num}, TwN w acc → (∀ x ∈ L, Ftx x.1 x.2) → TwN (w + 3744 * L.length) ((L.map (·.2)).foldl nmul acc)
  | [], w, acc, ha, _ => ha
  | x :: r, w, acc, ha, h => by
    have := ft_tw r (ha.mul (h x List.mem_cons_self).tw) fun y hy => h y (List.mem_cons_of_mem _ hy)
    refine this.mono ?_
    rw [List.length_cons, Nat.mul_succ]
    omega
theorem Fts.tw {u : Nat} {L : List (Str × Num)} (h : Fts u L) : TwN (3744 * u) (ftNum L) := (ft_tw L tw_nil h.ok).mono (by have := Nat.mul_le_mul_left 3744 h.le; omega)
theorem Fts.num {u : Nat} {L : List (Str × Num)} (h : Fts u L) : numF [] (Txt.split (ftText L) sSt) = some (ftNum L) := by
  rw [h.split]
  exact numF_all [] (ft_facts h.ok)
theorem Fts.len {u : Nat} {L : List (Str × Num)} (h : Fts u L) : (ftText L).length ≤ 61 * u := by
  unfold ftText
  rw [join_eq]
  have a := len_join (y := sSt) (L.map (·.1))
  have b := sum_len (b := 60) (ps := L.map (·.1)) fun p hp => by
    obtain ⟨x, hx, rfl⟩ := List.mem_map.mp hp
    exact (h.ok x hx).len
  rw [List.length_map] at a b
  rw [show sSt.length = 1 from rfl, Nat.mul_one] at a
  have := h.le
  omega
theorem Fts.cl {u : Nat} {L : List (Str × Num)} (h : Fts u L) : ∀ c ∈ tl (ftText L), 42 ≤ c ∧ c ≤ 94 := fun c hc => by
  unfold ftText at hc
  rw [join_eq] at hc
  rcases mem_join hc with hc | ⟨p, hp, hc⟩
  · rw [show tl sSt = [42] from tl_star] at hc
    have := List.mem_singleton.mp hc
    omega
  · obtain ⟨x, hx, rfl⟩ := List.mem_map.mp hp
    have := (h.ok x hx).cl c hc
    omega
theorem sm_of_tw {w : Nat} {n : Num} (h : TwN w n) (hw : w < 2 ^ 60) : SmN 60 n := h.sm hw (by decide)
theorem Fts.txt {u : Nat} {L : List (Str × Num)} (h : Fts u L) (hu : u ≤ 100) : TxtOk (ftText L) where
  len := by have := h.len; omega
  parts := fun p hp => by
    rw [h.split] at hp
    obtain ⟨x, hx, rfl⟩ := List.mem_map.mp hp
    have := (h.ok x hx).len
    exact ⟨by omega, lay_asc (h.ok x hx).asc⟩
  sm := fun i acc ha => by
    rw [h.split] at ha
    have e : ((L.map (·.1)).take i).map factS = ((L.take i).map (·.2)).map some := by
      rw [← List.map_take]
      exact ft_facts fun x hx => h.ok x (List.mem_of_mem_take hx)
    rw [numF_all [] e] at ha
    have e := Option.some.inj ha
    rw [← e]
    have t := ft_tw (L.take i) tw_nil fun x hx => h.ok x (List.mem_of_mem_take hx)
    have l : (L.take i).length ≤ 100 := by rw [List.length_take]; have := h.le; omega
    exact (sm_of_tw t (by omega)).mono (by decide)
theorem Fts.lay {u : Nat} {L : List (Str × Num)} (h : Fts u L) : PyData.canLay0 (.str (ftText L)) = true := lay_asc fun c hc => by
  have := h.cl c hc
  omega
/-- thrice the same factor -/
theorem fts_three {x : Str} {n : Num} (h : Ftx x n) : Fts 3 [(x, n), (x, n), (x, n)] where
  ne := fun z => by cases z
  le := Nat.le_refl _
  ok := fun y hy => by
    have : y = (x, n) := by simpa using hy
    rw [this]
    exact h
theorem ft_three (x : Str) (n : Num) : ftText [(x, n), (x, n), (x, n)] = x ++ sSt ++ x ++ sSt ++ x := by
  unfold ftText
  rw [join_eq]
  show x ++ sSt ++ (x ++ sSt ++ x) = _
  simp only [PySem.Str.append_assoc]
theorem num_three {x : Str} {n : Num} (h : Can n) : ftNum [(x, n), (x, n), (x, n)] = npow n 3 := by
  show nmul (nmul (nmul [] n) n) n = npow n 3
  refine canE_congr fun p hp => ?_
  unfold nmul
  rw [ev_canE hp, ev_canE hp]
  show (0 : Rat) + ev n p + ev n p + ev n p = ev n p * 3
  grind
/-! ### a number's own text, read back -/
noncomputable def sing (n : Num) : List Num := n.map fun x => [x]
theorem evs_sing : ∀ (n : Num) (p : Nat), evs (sing n) p = ev n p
  | [], p => rfl
  | x :: r, p => by
    show ((if x.1 = p then x.2 else 0) + 0) + evs (sing r) p = (if x.1 = p then x.2 else 0) + ev r p
    rw [evs_sing r p, Rat.add_zero]
theorem sing_ok {n : Num} (h : NumOk n) : ∀ f ∈ sing n, NumOk f := fun f hf => by
  obtain ⟨x, hx, rfl⟩ := List.mem_map.mp hf
  exact ⟨List.pairwise_singleton _ _, fun y hy => by rw [List.mem_singleton.mp hy]; exact h.pr x hx⟩
theorem fold_sing {n : Num} (h : NumOk n) : (sing n).foldl nmul [] = n := by
  have ok := ok_fold (sing n) tw_nil.ok (sing_ok h)
  refine can_ext ok.asc h.asc (fun x hx => (ok.pr x hx).2.2) (fun x hx => (h.pr x hx).2.2) fun p => ?_
  by_cases hp : p < 10000
  · rw [ev_fold hp, evs_sing]
    show (0 : Rat) + ev n p = ev n p
    rw [Rat.zero_add]
  · rw [ev_big ok.can (by omega), ev_big h.can (by omega)]
theorem fact_word {x : Nat × Rat} (h1 : Pr x.1) (h2 : x.1 ≤ 9999) (h3 : x.2 ≠ 0) : factS (wordN x) = some [x] := by
  have p1 := h1.1
  unfold wordN
  by_cases e : x.2 = 1
  · rw [if_pos e, fact_plain (by omega) h2, fac_prime h1 h2, ← e]
  · rw [if_neg e, fact_pow (by omega) h2 h3, pow_prime h1 h2 h3]
theorem word_free {x : Nat × Rat} : 42 ∉ tl (wordN x) := fun hc => by
  unfold wordN at hc
  split at hc
  · have := dec_in hc; omega
  · unfold factText at hc
    rw [tl_append, tl_append, show tl sRf = [94] from tl_roof] at hc
    rcases List.mem_append.mp hc with hc | hc
    · rcases List.mem_append.mp hc with hc | hc
      · have := dec_in hc; omega
      · have := List.mem_singleton.mp hc; omega
    · have := frac_in hc; omega
theorem split_one : Txt.split (Str.ofString "1") sSt = [Str.ofString "1"] := by
  have := split_join (y := sSt) (s := 42) (S := []) tl_star (by decide +kernel) (parts := [Str.ofString "1"]) (fun z => by cases z) fun p hp => by
    rw [List.mem_singleton.mp hp, tl_ofString]
    decide
  rwa [join_eq] at this
theorem split_written {n : Num} : Txt.split (writtenS n) sSt = if n = [] then [Str.ofString "1"] else n.map wordN := by
  unfold writtenS
  by_cases e : n = []
  · rw [if_pos e, if_pos e, split_one]
  · rw [if_neg e, if_neg e]
    exact split_join (y := sSt) (s := 42) (S := []) tl_star (by decide +kernel) (fun z => e (List.map_eq_nil_iff.mp z)) fun p hp => by
      obtain ⟨x, hx, rfl⟩ := List.mem_map.mp hp
      exact word_free
theorem one_nil : nfrac 1 1 = [] := by
  unfold nfrac
  refine (can_eq tw_nil.ok.can fun p _ => ?_).symm
  show (0 : Rat) = _
  grind
theorem nil_nil : (nmul [] [] : Num) = [] := by
  unfold nmul
  refine (can_eq tw_nil.ok.can fun p _ => ?_).symm
  show (0 : Rat) = 0 + 0
  grind
theorem words_facts {n : Num} (h : NumOk n) : (n.map wordN).map factS = (sing n).map some := by
  unfold sing
  rw [List.map_map, List.map_map]
  exact List.map_congr_left fun x hx => fact_word (h.pr x hx).1 (h.pr x hx).2.1 (h.pr x hx).2.2
theorem num_written {n : Num} (h : NumOk n) : numF [] (Txt.split (writtenS n) sSt) = some n := by
  rw [split_written]
  by_cases e : n = []
  · rw [if_pos e, e]
    have d1 : Str.ofString "1" = decI ((1 : Nat) : Int) := rfl
    have f := fact_plain (p := 1) (by decide) (by decide)
    rw [numF_all (fs := [nfrac 1 1]) [] (by rw [d1]; show [factS _] = _; rw [f]; rfl), one_nil]
    show some (nmul [] []) = some []
    rw [nil_nil]
  · rw [if_neg e, numF_all [] (words_facts h), fold_sing h]
theorem take_ok {n : Num} (h : NumOk n) (i : Nat) : NumOk (n.take i) := ⟨h.asc.sublist (List.take_sublist _ _), fun x hx => h.pr x (List.mem_of_mem_take hx)⟩
theorem txt_written {n : Num} (h : NumOk n) (s : SmN 100 n) : TxtOk (writtenS n) where
  len := by
    have len := h.can.len
    unfold writtenS
    split
    · decide
    · rw [join_eq]
      have a := len_join (y := sSt) (n.map wordN)
      have b := sum_len (b := 219) (ps := n.map wordN) fun p hp => by
        obtain ⟨x, hx, rfl⟩ := List.mem_map.mp hp
        exact len_word (k := 100) (h.pr x hx).2.1 (by decide) (s x hx)
      rw [List.length_map] at a b
      rw [show sSt.length = 1 from rfl, Nat.mul_one] at a
      omega
  parts := fun p hp => by
    rw [split_written] at hp
    split at hp
    · rw [List.mem_singleton.mp hp]
      exact ⟨by decide, lay_asc fun c hc => by
        rw [tl_ofString] at hc
        have : c ∈ [49] := hc
        have := List.mem_singleton.mp this
        omega⟩
    · obtain ⟨x, hx, rfl⟩ := List.mem_map.mp hp
      have := len_word (k := 100) (h.pr x hx).2.1 (by decide) (s x hx)
      exact ⟨by omega, lay_asc (asc_word x)⟩
  sm := fun i acc ha => by
    rw [split_written] at ha
    split at ha
    · have d1 : Str.ofString "1" = decI ((1 : Nat) : Int) := rfl
      have f := fact_plain (p := 1) (by decide) (by decide)
      have g : ∃ fs : List Num, (List.take i [Str.ofString "1"]).map factS = fs.map some ∧ fs.foldl nmul [] = [] := by
        match i with
        | 0 => exact ⟨[], rfl, rfl⟩
        | i + 1 =>
          refine ⟨[nfrac 1 1], ?_, ?_⟩
          · rw [List.take_succ_cons, List.take_nil, d1]
            show [factS _] = _
            rw [f]; rfl
          · show nmul [] (nfrac 1 1) = []
            rw [one_nil, nil_nil]
      obtain ⟨fs, h1, h2⟩ := g
      rw [numF_all [] h1, h2] at ha
      cases ha
      exact fun x hx => by cases hx
    · have e : ((n.map wordN).take i).map factS = (sing (n.take i)).map some := by
        rw [← List.map_take]
        exact words_facts (take_ok h i)
      rw [numF_all [] e, fold_sing (take_ok h i)] at ha
      cases ha
      exact fun x hx => (s x (List.mem_of_mem_take hx)).mono (by decide)
end My

namespace My
open PySem PySem.Spec PyProof.Rows L2 Evl TL
variable {K : PySem.W.Frag} {σ : L2.St} {H H0 : Hp} {ta tb te tc td tl : TE} {p l : Addr} {m n k : Nat} {D : Ends} {tz tu : TS} {R : PyData → Prop} {g : TG} {acc : List V} {ds : List PyData}
/-! ### drawn texts with their numbers -/
def FctT (d : PyData) : Prop := ∃ (x : Str) (n : Num), Ftx x n ∧ d = .tuple [.str x, eN n]
abbrev spFactorT (K : PySem.W.Frag) : Sp := spP K 0 8 (fun _ => True) (fun _ d => FctT d)
def TxtT (u : Nat) (d : PyData) : Prop := ∃ L : List (Str × Num), Fts u L ∧ d = .tuple [.str (ftText L), eN (ftNum L)]
abbrev spTextT (K : PySem.W.Frag) (u : Nat) : Sp := spP K 1 (1 + 8 * u) (fun ds => ds = [.int u]) (fun _ d => TxtT u d)
theorem imm_tx (x : Str) (n : Num) : imm (.tuple [.str x, eN n]) = true := by
  show (true && (imm (eN n) && true)) = true
  rfl
theorem fctT_imm (d : PyData) (h : FctT d) : imm d = true := by
  obtain ⟨x, n, _, rfl⟩ := h
  exact imm_tx x n
theorem txtT_imm {u : Nat} (d : PyData) (h : TxtT u d) : imm d = true := by
  obtain ⟨L, _, rfl⟩ := h
  exact imm_tx _ _
theorem fctT_list : ∀ {ds : List PyData}, (∀ d ∈ ds, FctT d) → ∃ L : List (Str × Num), ds = L.map eTx ∧ ∀ x ∈ L, Ftx x.1 x.2
  | [], _ => ⟨[], rfl, fun x h => by cases h⟩
  | d :: ds, h => by
    obtain ⟨x, n, h1, e⟩ := h d List.mem_cons_self
    obtain ⟨L, e2, h3⟩ := fctT_list (ds := ds) fun y hy => h y (List.mem_cons_of_mem _ hy)
    refine ⟨(x, n) :: L, by rw [e, e2]; rfl, fun y hy => ?_⟩
    rcases List.mem_cons.mp hy with rfl | hy
    · exact h1
    · exact h3 y hy
/-! ### promises of plain tuples -/
def spRP (K : PySem.W.Frag) (n : Nat) (R : List PyData → PyData → Prop) : Sp := fun vs H Q _ => ∃ ds d, ds.length = n ∧ DqAll K H vs ds ∧ R ds d ∧ ∀ v H', Ex H H' → Pl K H' v d → Q v H'
theorem len_spRP {n : Nat} {R : List PyData → PyData → Prop} {vs : List V} {Q : VK} {E : XK} (h : spRP K n R vs H Q E) : vs.length = n := by
  obtain ⟨ds, d, hl, hv, _⟩ := h
  exact (dpa_len hv).trans hl
theorem ep_callP {n : Nat} {R : List PyData → PyData → Prop} {E : XK} {z : PyData} {ta : TA} (h : EA K ta σ H ds) (hr : R ds z) (hl : ds.length = n := by rfl) : EP K (tCall (spRP K n R) [] E ta) σ H z := fun H1 e1 Q q =>
  h H1 e1 _ fun vs H2 e2 hv => ⟨ds, z, hl, by rw [List.append_nil]; exact hv, hr, fun v H3 e3 hv3 => q v H3 (e2.trans e3) hv3⟩
abbrev spMultipliedP (K : PySem.W.Frag) : Sp := spRP K 2 (rNum2 nmul)
abbrev spTimesP (K : PySem.W.Frag) : Sp := spRP K 2 rTimes
theorem PotAt.pl {H' : Hp} (h : PotAt p m H) (g : Go p H H') {v : V} {d : PyData} (hd : Pl K H v d) (hi : imm d = true) : Pl K H' v d := by
  obtain ⟨a, b, c, h1, _⟩ := h
  exact hd.go g h1 hi
/-! ### a list that grows while the cells are drawn from -/
def Gl (K : PySem.W.Frag) (p l : Addr) (acc : List V) (ds : List PyData) (H0 H : Hp) : Prop := H0 l = none ∧ l ≠ p ∧ Go p H0 H ∧ immAll ds = true ∧ H l = some (.lst acc) ∧ DqAll K H acc ds
theorem gl_go {H' : Hp} (hp : PotAt p m H) (G : Gl K p l acc ds H0 H) (g : Go p H H') : Gl K p l acc ds H0 H' := by
  obtain ⟨a, b, c, d, e, f⟩ := G
  exact ⟨a, b, c.trans g, d, g l _ b e, hp.dpa g f d⟩
theorem gl_ex {H' : Hp} (G : Gl K p l acc ds H0 H) (e : Ex H H') : Gl K p l acc ds H0 H' := by
  obtain ⟨a, b, c, d, h, f⟩ := G
  exact ⟨a, b, c.trans (exgo e), d, e _ _ h, DqAll_ex f e⟩
theorem em_gl {i : Nat} (G : Gl K p l acc ds H0 H) (h : σ[i]? = some (some (.ref l))) : EM K (tVar i) σ H ds := em_var h G.2.2.2.2.1 G.2.2.2.2.2
theorem q_lcG {te0 : TE} {N kk i j : Nat} {vs : List Nat} {Px : Nat → Prop} (hp0 : PotAt p m H) (h : EG K p te0 σ H m n (fun d => ∃ x : Nat, (x ≤ N ∧ Px x) ∧ d = .int x)) (hN : N ≤ 40000) (hw : ∀ a, wipe ((wipe σ vs).set i (some a)) vs = wipe σ vs) (hlim : n + kk * N ≤ 1000000) (hi : ∀ d, R d → imm d = true)
    (turn : ∀ (a : V) (m' : Nat), m' + kk ≤ 1000000 → EG K p te ((wipe σ vs).set i (some a)) H m' (m' + kk) R)
    (q : ∀ l acc ds H1, Gl K p l acc ds H H1 → PotAt p (n + kk * N) H1 → ds.length ≤ N → Px ds.length → (∀ x ∈ ds, R x) → tz D (σ.set j (some (.ref l))) H1) :
    tSeq (tAsg (tLc (iRng1 (tCons te0 tNil)) (gName i) tYes te vs) (gName j)) tz D σ H :=
  h H (Go.refl H) hp0 _ fun v H1 d g1 hp1 hd hv => by
    obtain ⟨x, ⟨hx, hpx⟩, rfl⟩ := hd
    cases hv
    refine ⟨x, rfl, by omega, by omega, fun Dl hD => ?_⟩
    have ne : Dl ≠ p := by
      rintro rfl
      obtain ⟨_, _, _, z, _⟩ := hp1
      rw [z] at hD; cases hD
    have h0 : H Dl = none := by
      cases e : H Dl with
      | none => rfl
      | some o =>
        have := g1 Dl o ne e
        rw [hD] at this; cases this
    have en : ((x : Nat) : Int).toNat = x := Int.toNat_natCast x
    rw [en]
    have pot_upd : ∀ {H' : Hp} {M : Nat} {o : HO}, PotAt p M H' → PotAt p M (upd H' Dl o) := by
      intro H' M o h
      obtain ⟨a, b, c, h1, h2, h3⟩ := h
      exact ⟨a, b, c, by rw [upd_ne (Ne.symm ne)]; exact h1, h2, h3⟩
    refine lc_range (lo := 0) (n := x) (fun j H' => Go p H H' ∧ PotAt p (n + kk * j) H' ∧ ∃ acc ds, H' Dl = some (.lst acc) ∧ DqAll K H' acc ds ∧ ds.length = j ∧ ∀ y ∈ ds, R y) ⟨go_list g1 hD ne g1, by rw [Nat.mul_zero, Nat.add_zero]; exact pot_upd hp1, [], [], upd_same, .nil, rfl, fun y h => by cases h⟩ (fun j H' hj P => ?_) (fun H' P => ?_)
    · obtain ⟨g2, hp2, acc, ds, h2, hd2, hl, hR⟩ := P
      refine ⟨hw _, ?_⟩
      simp only [tYes, if_true]
      have le : n + kk * j + kk ≤ 1000000 := by
        have : kk * (j + 1) ≤ kk * N := Nat.mul_le_mul_left _ (by omega)
        rw [Nat.mul_succ] at this
        omega
      refine turn _ (n + kk * j) le H' g2 hp2 _ fun y H4 z g4 hp4 hz hy => ?_
      have him : immAll ds = true := immAll_of fun d hd => hi d (hR d hd)
      have h4 : H4 Dl = some (.lst acc) := g4 Dl _ ne h2
      have hd4 := hp2.dpa g4 hd2 him
      have gD : Go Dl H4 (upd H4 Dl (.lst (acc ++ [y]))) := fun a o n h => by rw [upd_ne n]; exact h
      refine ⟨acc, h4, sz_lt (by rw [dpa_len hd2]; omega), go_list g1 hD ne (g2.trans g4), by rw [Nat.mul_succ, ← Nat.add_assoc]; exact pot_upd hp4, acc ++ [y], ds ++ [z], upd_same, dpa_app (dpa_go gD h4 ds acc him hd4) (.cons (Dq_go hy gD h4 (hi z hz)) .nil), by rw [List.length_append, hl]; rfl, fun w hw => ?_⟩
      rcases List.mem_append.mp hw with hw | hw
      · exact hR w hw
      · rw [List.mem_singleton.mp hw]; exact hz
    · obtain ⟨g2, hp2, acc, ds, h2, hd2, hl, hR⟩ := P
      exact q Dl acc ds H' ⟨h0, ne, g2, immAll_of fun d hd => hi d (hR d hd), h2, hd2⟩ (hp2.mono (Nat.add_le_add_left (Nat.mul_le_mul_left _ hx) _)) (by omega) (by rw [hl]; exact hpx) hR
theorem q_appG {d : PyData} (hp : PotAt p m H) (G : Gl K p l acc ds H0 H) (ha : Ev ta σ H (.ref l)) (h : ED K te σ H d) (hi : imm d = true) (hz : ds.length < 50000) (k : ∀ acc' H1, Gl K p l acc' (ds ++ [d]) H0 H1 → PotAt p m H1 → tz D σ H1) : tSeq (tDrop (tBM K "list" rAppend ta (tCons te tNil))) tz D σ H := ha H (Ex.refl H) _ fun H1 e1 => by
  have p1 := gl_ex G e1
  obtain ⟨a1, a2, a3, a4, a5, a6⟩ := p1
  refine ⟨Or.inl ⟨rfl, acc, sq_of a5⟩, h H1 e1 _ fun v H2 e2 hv => ?_⟩
  have b4 := e2 _ _ a5
  have b5 := DqAll_ex a6 e2
  have hp2 := hp.ex (e1.trans e2)
  have gl : Go l H2 (upd H2 l (.lst (acc ++ [v]))) := fun a o n h => by rw [upd_ne n]; exact h
  refine ⟨l, acc, v, rfl, rfl, b4, sz_lt (by rw [dpa_len b5]; omega), k (acc ++ [v]) _ ⟨a1, a2, fun a o n h => ?_, ?_, upd_same, dpa_app (dpa_go gl b4 ds acc a4 b5) (.cons (Dq_go hv gl b4 hi) .nil)⟩ ?_⟩
  · have ne : a ≠ l := by
      rintro rfl
      rw [a1] at h; cases h
    rw [upd_ne ne]
    exact e2 _ _ (a3 _ _ n h)
  · rfl
  · obtain ⟨x, y, z, h1, h2, h3⟩ := hp2
    exact ⟨x, y, z, by rw [upd_ne (Ne.symm a2)]; exact h1, h2, h3⟩
theorem q_forG {α : Type} {enc : α → PyData} {xs : List α} (G : Gl K p l acc (xs.map enc) H0 H) (h : Ev tl σ H (.ref l)) (Pv : Nat → L2.St → Hp → Prop) (hx : ∀ i σ' H', Pv i σ' H' → Gl K p l acc (xs.map enc) H0 H') (h0 : ∀ H1, Ex H H1 → Pv 0 σ H1)
    (hs : ∀ i x σ' H', xs[i]? = some x → Pv i σ' H' → ∀ u, Dq K H' u (enc x) → g u σ' H' fun σ2 H2 => tu { D with nx := Pv (i + 1), ct := Pv (i + 1), bk := tz D } σ2 H2)
    (hd : ∀ σ' H', Pv xs.length σ' H' → tz D σ' H') : tSeq (tFor (iList K tl) g tu) tz D σ H := by
  have hl : acc.length = xs.length := by rw [dpa_len G.2.2.2.2.2, List.length_map]
  refine q_forL h (sq_of G.2.2.2.2.1) Pv h0 (fun i σ' H' _ p => sq_of (hx i σ' H' p).2.2.2.2.1) (fun i x σ' H' hi p => ?_) (fun σ' H' p => hd σ' H' (hl ▸ p))
  obtain ⟨dd, h1, h2⟩ := dpa_get (hx i σ' H' p).2.2.2.2.2 hi
  rw [List.getElem?_map] at h1
  cases hxi : xs[i]? with
  | none => rw [hxi] at h1; cases h1
  | some y =>
    rw [hxi] at h1
    cases h1
    exact hs i y σ' H' hxi p x h2
/-! ### None in a list of any data -/
theorem units65 {k : Nat} {A : Around} (r : Room k A) : A.units + 65 < cLine := by have := r.un; omega
theorem op_inDK {X : Cx} (h : X.K = K) (hu : X.A.units + 65 < cLine) : OpR X (compareOp .In) (rInD K) := h ▸ op_inD hu
theorem rd_inD {d : PyData} (h1 : SeqAt.shaped d = true) (h2 : SeqAt.shaped (.list ds) = true) : RD K (rInD K) d (.list ds) (.bool (ds.any fun z => PyData.eqv z d)) := fun H x y hx hy Q q =>
  ⟨d, ds, hx.dp, hy.dp, h1, h2, q _ H (Ex.refl H) (.bl _)⟩
theorem deep_map {α : Type} {f : α → PyData} {b : Nat} (h2 : ∀ x, (f x).depth ≤ b) (xs : List α) : PyData.depthAll (xs.map f) ≤ b := by
  induction xs with
  | nil => exact Nat.zero_le _
  | cons x xs ih =>
    show max (f x).depth (PyData.depthAll (xs.map f)) ≤ b
    have := h2 x
    omega
theorem deep_eN (n : Num) : (eN n).depth ≤ 3 := by
  have := deep_map (f := ePw) (b := 2) (fun _ => by simp [ePw, eF, PyData.depth, PyData.depthAll]) n
  show PyData.depthAll (n.map ePw) + 1 ≤ 3
  omega
theorem lay_eN (n : Num) : (eN n).canLay0 = true := (shaped_map (f := ePw) (fun _ => rfl) (fun _ => by simp [ePw, eF, PyData.depth, PyData.depthAll]) n).1
theorem shaped_nums {α : Type} (f : α → Num) (xs : List α) : SeqAt.shaped (.list (xs.map fun x => eN (f x))) = true :=
  shaped_lst (fun x => lay_eN (f x)) (fun x => Nat.le_trans (deep_eN (f x)) (by decide)) xs
theorem none_nums {α : Type} (f : α → Num) (xs : List α) : (xs.map fun x => eN (f x)).any (fun z => PyData.eqv z .none) = false := by
  rw [List.any_eq_false]
  intro z hz
  obtain ⟨x, _, rfl⟩ := List.mem_map.mp hz
  show ¬ false = true
  decide
def sBl : Str := Str.ofString " "
def rPointIn (ds : List PyData) (d : PyData) : Prop := ∃ (t : Str) (L : List (Str × Num)), ds = [.str t] ∧ t.length ≤ 16000000 ∧ Txt.split t sBl = L.map (·.1) ∧ L.length ≤ 40000 ∧ (∀ x ∈ L, TxtOk x.1 ∧ numF [] (Txt.split x.1 sSt) = some x.2) ∧ d = .tuple (L.map fun x => eN x.2)
abbrev spPointIn (K : PySem.W.Frag) : Sp := spR K 1 rPointIn
end My

namespace My
open PySem PySem.Spec PyProof.Rows L2 Evl
/-! ### which number is less: plain -/
theorem ups_scale (L : PW) {k : Nat} (hk : 1 ≤ k) : upsOf (L.map fun x => (x.1, x.2 * (k : Int))) = (upsOf L).map (fun x => (x.1, x.2 * k)) ∧ downsOf (L.map fun x => (x.1, x.2 * (k : Int))) = (downsOf L).map (fun x => (x.1, x.2 * k)) := by
  unfold upsOf downsOf
  induction L with
  | nil => exact ⟨rfl, rfl⟩
  | cons x r ih =>
    obtain ⟨i1, i2⟩ := ih
    have hs : (0 < x.2 * (k : Int) ↔ 0 < x.2) ∧ (x.2 * (k : Int) < 0 ↔ x.2 < 0) := by
      refine ⟨⟨fun h => ?_, fun h => Int.mul_pos h (by omega)⟩, ⟨fun h => ?_, fun h => Int.mul_neg_of_neg_of_pos h (by omega)⟩⟩
      · by_cases z : 0 < x.2
        · exact z
        · have : x.2 * (k : Int) ≤ 0 := Int.mul_nonpos_of_nonpos_of_nonneg (by omega) (by omega)
          omega
      · by_cases z : x.2 < 0
        · exact z
        · have : 0 ≤ x.2 * (k : Int) := Int.mul_nonneg (by omega) (by omega)
          omega
    rw [List.map_cons, List.filter_cons, List.filter_cons, List.filter_cons, List.filter_cons]
    simp only [hs.1, hs.2, decide_eq_true_eq]
    constructor
    · split
      · rw [List.map_cons, List.map_cons, List.map_cons, i1]
        congr 2
        show (x.2 * (k : Int)).toNat = x.2.toNat * k
        rw [Int.toNat_mul (by omega) (by omega)]
        rfl
      · exact i1
    · split
      · rw [List.map_cons, List.map_cons, List.map_cons, i2]
        congr 2
        show (-(x.2 * (k : Int))).toNat = (-x.2).toNat * k
        rw [← Int.neg_mul, Int.toNat_mul (by omega) (by omega)]
        rfl
      · exact i2
theorem sgn_scale (L : PW) {k : Nat} (hk : 1 ≤ k) : sgnL (L.map fun x => (x.1, x.2 * (k : Int))) = sgnL L := by
  obtain ⟨a, b⟩ := ups_scale L hk
  unfold sgnL
  rw [a, b, prod_pow, prod_pow, sgn_pow hk]
theorem sgnN_neg (a b : Nat) : sgnN b a = -sgnN a b := by
  unfold sgnN
  omega
theorem ups_neg (L : PW) : upsOf (L.map fun x => (x.1, -x.2)) = downsOf L ∧ downsOf (L.map fun x => (x.1, -x.2)) = upsOf L := by
  unfold upsOf downsOf
  induction L with
  | nil => exact ⟨rfl, rfl⟩
  | cons x r ih =>
    obtain ⟨i1, i2⟩ := ih
    rw [List.map_cons, List.filter_cons, List.filter_cons, List.filter_cons, List.filter_cons]
    simp only [decide_eq_true_eq]
    have h1 : 0 < -x.2 ↔ x.2 < 0 := by omega
    have h2 : -x.2 < 0 ↔ 0 < x.2 := by omega
    simp only [h1, h2]
    constructor
    · split
      · rw [List.map_cons, List.map_cons, i1]
      · exact i1
    · split
      · rw [List.map_cons, List.map_cons, i2, Int.neg_neg]
      · exact i2
theorem sgn_neg (L : PW) : sgnL (L.map fun x => (x.1, -x.2)) = -sgnL L := by
  obtain ⟨a, b⟩ := ups_neg L
  unfold sgnL
  rw [a, b, sgnN_neg]
/-- a whole power of a number, as a fraction -/
theorem whole_val {n : Num} {x : Nat × Rat} (h : x ∈ n) : ((x.2.num * ((lcmN n : Int) / (x.2.den : Int)) : Int) : Rat) = x.2 * (((lcmN n : Nat) : Int) : Rat) := by
  obtain ⟨c, hc⟩ := den_dvd_lcm h
  have d0 := den_pos x.2
  have e1 : (lcmN n : Int) / (x.2.den : Int) = (c : Int) := by
    rw [hc, Int.natCast_mul]
    exact Int.mul_ediv_cancel_left _ (by omega)
  have h1 : x.2 = (x.2.num : Rat) / ((x.2.den : Nat) : Rat) := by rw [← mk_div, Rat.mkRat_self]
  have h2 : ((x.2.den : Nat) : Rat) ≠ 0 := natCast_ne d0
  have h3 : (((lcmN n : Nat) : Int) : Rat) = ((x.2.den : Nat) : Rat) * ((c : Nat) : Rat) := by
    rw [hc, ← Rat.natCast_mul]; rfl
  rw [e1, h3, Rat.intCast_mul]
  have h4 : ((c : Int) : Rat) = ((c : Nat) : Rat) := rfl
  rw [h4]
  generalize ((x.2.den : Nat) : Rat) = d at h1 h2
  generalize (x.2.num : Rat) = u at h1
  rw [h1]
  grind
theorem lcm_pos (n : Num) : 1 ≤ lcmN n := by
  have := (lcm_take n n.length).2
  rw [List.take_length] at this
  omega
theorem int_inj {a b : Int} (h : (a : Rat) = (b : Rat)) : a = b := by
  have := congrArg Rat.num h
  rwa [Rat.num_intCast, Rat.num_intCast] at this
/-- the sign hangs on no power above nought -/
theorem sgn_npow {m : Num} {q : Rat} (h : Can m) (hq : 0 < q.num) : sgnL (wholesL (npow m q)) = sgnL (wholesL m) := by
  have q0 : q ≠ 0 := fun z => by rw [z] at hq; exact absurd hq (by decide)
  have e := pow_eq h q0
  have d0 := den_pos q
  have l1 := lcm_pos m
  have l2 := lcm_pos (npow m q)
  rw [← sgn_scale (wholesL (npow m q)) (k := lcmN m * q.den) (Nat.mul_pos l1 d0), ← sgn_scale (wholesL m) (k := lcmN (npow m q) * q.num.toNat) (Nat.mul_pos l2 (by omega))]
  congr 1
  unfold wholesL
  rw [List.map_map, List.map_map]
  have hm : (npow m q).map (fun x => ((x.1, x.2 * (((lcmN (npow m q) : Nat) : Int) : Rat)) : Nat × Rat)) = m.map fun x => (x.1, x.2 * q * (((lcmN (npow m q) : Nat) : Int) : Rat)) := by
    rw [← e, List.map_map]
    rfl
  have cast : ∀ (n : Num) (k : Nat), (n.map ((fun x : Nat × Int => ((x.1, x.2 * (k : Int)) : Nat × Int)) ∘ fun x : Nat × Rat => ((x.1, x.2.num * ((lcmN n : Int) / (x.2.den : Int))) : Nat × Int))).map (fun x => ((x.1, (x.2 : Rat)) : Nat × Rat)) = n.map fun x => (x.1, x.2 * (((lcmN n : Nat) : Int) : Rat) * ((k : Nat) : Rat)) := fun n k => by
    rw [List.map_map]
    refine List.map_congr_left fun x hx => ?_
    have := whole_val hx
    show (x.1, ((x.2.num * ((lcmN n : Int) / (x.2.den : Int)) * (k : Int) : Int) : Rat)) = _
    rw [Rat.intCast_mul, this]
    rfl
  have inj : ∀ {a b : PW}, a.map (fun x => ((x.1, (x.2 : Rat)) : Nat × Rat)) = b.map (fun x => ((x.1, (x.2 : Rat)) : Nat × Rat)) → a = b := fun {a b} hab => by
    induction a generalizing b with
    | nil =>
      cases b with
      | nil => rfl
      | cons y r => cases hab
    | cons x a ih =>
      cases b with
      | nil => cases hab
      | cons y b =>
        rw [List.map_cons, List.map_cons] at hab
        obtain ⟨h1, h2⟩ := List.cons.inj hab
        have h3 := Prod.mk.inj h1
        rw [ih h2]
        congr 1
        exact Prod.ext h3.1 (int_inj h3.2)
  refine inj ?_
  rw [cast, cast]
  have e2 : (npow m q).map (fun x => ((x.1, x.2 * (((lcmN (npow m q) : Nat) : Int) : Rat) * ((lcmN m * q.den : Nat) : Rat)) : Nat × Rat)) = m.map fun x => (x.1, x.2 * q * (((lcmN (npow m q) : Nat) : Int) : Rat) * ((lcmN m * q.den : Nat) : Rat)) := by
    conv => lhs; rw [← e]
    rw [List.map_map, e]
    rfl
  rw [e2]
  refine List.map_congr_left fun x hx => ?_
  congr 1
  have h1 : q = (q.num : Rat) / ((q.den : Nat) : Rat) := by rw [← mk_div, Rat.mkRat_self]
  have h2 : ((q.den : Nat) : Rat) ≠ 0 := natCast_ne d0
  have h3 : ((q.num.toNat : Nat) : Rat) = (q.num : Rat) := by
    have e : ((q.num.toNat : Nat) : Int) = q.num := by omega
    conv => rhs; rw [← e]
    rfl
  rw [Rat.natCast_mul, Rat.natCast_mul, h3]
  have h5 : (((lcmN (npow m q) : Nat) : Int) : Rat) = ((lcmN (npow m q) : Nat) : Rat) := rfl
  have h6 : (((lcmN m : Nat) : Int) : Rat) = ((lcmN m : Nat) : Rat) := rfl
  rw [h5, h6]
  generalize ((q.den : Nat) : Rat) = d at h1 h2
  generalize (q.num : Rat) = u at h1
  rw [h1]
  grind
theorem ndiv_turn (a b : Num) : ndiv b a = npow (ndiv a b) (-1) := canE_congr fun p hp => by
  unfold ndiv
  rw [ev_canE hp]
  grind
theorem ndiv_npow (a b : Num) (q : Rat) : ndiv (npow a q) (npow b q) = npow (ndiv a b) q := canE_congr fun p hp => by
  unfold npow ndiv
  rw [ev_canE hp, ev_canE hp, ev_canE hp]
  grind
theorem ndiv_nmul (a b c : Num) : ndiv (nmul a c) (nmul b c) = ndiv a b := canE_congr fun p hp => by
  unfold nmul
  rw [ev_canE hp, ev_canE hp]
  grind
theorem lcm_negs (n : Num) : lcmN (n.map fun x => (x.1, -x.2)) = lcmN n := by
  unfold lcmN
  rw [List.foldl_map]
  rfl
theorem lvl_turn (a b : Num) : lvl b a = -lvl a b := by
  unfold lvl
  rw [ndiv_turn, ← sgn_neg]
  have h : Can (ndiv a b) := can_canE _
  rw [← pow_eq h (q := -1) (by decide)]
  have e : ((ndiv a b).map fun x => ((x.1, x.2 * (-1 : Rat)) : Nat × Rat)) = (ndiv a b).map fun x => (x.1, -x.2) := List.map_congr_left fun x _ => by
    congr 1
    grind
  rw [e]
  congr 1
  unfold wholesL
  rw [lcm_negs, List.map_map, List.map_map]
  refine List.map_congr_left fun x _ => ?_
  show (x.1, (-x.2).num * ((lcmN (ndiv a b) : Int) / (((-x.2).den : Nat) : Int))) = (x.1, -(x.2.num * ((lcmN (ndiv a b) : Int) / (x.2.den : Int))))
  rw [Rat.neg_num, Rat.neg_den, Int.neg_mul]
theorem lvl_nmul (a b c : Num) : lvl (nmul a c) (nmul b c) = lvl a b := by
  unfold lvl
  rw [ndiv_nmul]
theorem lvl_npow (a b : Num) {q : Rat} (hq : 0 < q.num) : lvl (npow a q) (npow b q) = lvl a b := by
  unfold lvl
  rw [ndiv_npow, sgn_npow (m := ndiv a b) (can_canE _) hq]
theorem lvl_npow_neg (a b : Num) {q : Rat} (hq : 0 < q.num) : lvl (npow a (-q)) (npow b (-q)) = lvl b a := by
  have e : ∀ c : Num, npow c (-q) = npow (npow c (-1)) q := fun c => by
    rw [npow_npow]
    congr 1
    grind
  rw [e, e, lvl_npow _ _ hq]
  unfold lvl
  congr 1
  congr 1
  exact canE_congr fun p hp => by
    unfold npow
    rw [ev_canE hp, ev_canE hp]
    grind
theorem lvl_zero {a b : Num} (ha : NumOk a) (hb : NumOk b) : lvl a b = 0 ↔ a = b := by
  constructor
  · intro h
    have ok := ok_ndiv ha hb
    have eq : prodL (upsOf (wholesL (ndiv a b))) = prodL (downsOf (wholesL (ndiv a b))) := by
      unfold lvl sgnL sgnN at h
      omega
    have hn : ndiv a b = [] := by
      generalize hm : ndiv a b = m at ok eq
      cases m with
      | nil => rfl
      | cons x r =>
        exfalso
        have px := (ok.pr x List.mem_cons_self)
        have w0 : ∀ y ∈ (x :: r), (y.2.num * ((lcmN (x :: r) : Int) / (y.2.den : Int))) ≠ 0 := fun y hy z => by
          have := whole_val hy
          rw [z] at this
          have l := lcm_pos (x :: r)
          have : y.2 * (((lcmN (x :: r) : Nat) : Int) : Rat) = 0 := this.symm
          rcases Rat.mul_eq_zero.mp this with z | z
          · exact (ok.pr y hy).2.2 z
          · exact natCast_ne l z
        have mem : ∀ {y : Nat × Nat}, y ∈ upsOf (wholesL (x :: r)) ∨ y ∈ downsOf (wholesL (x :: r)) → ∃ z ∈ (x :: r), z.1 = y.1 := fun {y} hy => by
          rcases hy with hy | hy
          · obtain ⟨w, hw, rfl⟩ := List.mem_map.mp hy
            obtain ⟨z, hz, rfl⟩ := List.mem_map.mp (List.mem_filter.mp hw).1
            exact ⟨z, hz, rfl⟩
          · obtain ⟨w, hw, rfl⟩ := List.mem_map.mp hy
            obtain ⟨z, hz, rfl⟩ := List.mem_map.mp (List.mem_filter.mp hw).1
            exact ⟨z, hz, rfl⟩
        have uq : ∀ {y z : Nat × Rat}, y ∈ (x :: r) → z ∈ (x :: r) → y.1 = z.1 → y = z := fun {y z} hy hz e => by
          have e1 := ev_mem ok.asc hy
          have e2 := ev_mem ok.asc hz
          rw [e, e2] at e1
          exact Prod.ext e e1.symm
        have dis : ∀ {p u v : Nat}, (p, u) ∈ upsOf (wholesL (x :: r)) → (p, v) ∈ downsOf (wholesL (x :: r)) → False := fun {p u v} h1 h2 => by
          obtain ⟨w1, hw1, e1⟩ := List.mem_map.mp h1
          obtain ⟨w2, hw2, e2⟩ := List.mem_map.mp h2
          obtain ⟨m1, p1⟩ := List.mem_filter.mp hw1
          obtain ⟨m2, p2⟩ := List.mem_filter.mp hw2
          obtain ⟨z1, hz1, f1⟩ := List.mem_map.mp m1
          obtain ⟨z2, hz2, f2⟩ := List.mem_map.mp m2
          have k1 := congrArg Prod.fst e1
          have k2 := congrArg Prod.fst e2
          have g1 := congrArg Prod.fst f1
          have g2 := congrArg Prod.fst f2
          simp only at k1 k2 g1 g2
          have := uq hz1 hz2 (by omega)
          rw [this] at f1
          rw [f1] at f2
          rw [f2] at p1
          have a1 := of_decide_eq_true p1
          have a2 := of_decide_eq_true p2
          omega
        have hx : (x.1, x.2.num * ((lcmN (x :: r) : Int) / (x.2.den : Int))) ∈ wholesL (x :: r) := List.mem_map.mpr ⟨x, List.mem_cons_self, rfl⟩
        have prs : (∀ y ∈ upsOf (wholesL (x :: r)), Pr y.1) ∧ ∀ y ∈ downsOf (wholesL (x :: r)), Pr y.1 := ⟨fun y hy => by
            obtain ⟨z, hz, e⟩ := mem (.inl hy)
            rw [← e]
            exact (ok.pr z hz).1, fun y hy => by
            obtain ⟨z, hz, e⟩ := mem (.inr hy)
            rw [← e]
            exact (ok.pr z hz).1⟩
        have dv : ∀ {L : List (Nat × Nat)} {y : Nat × Nat}, y ∈ L → 1 ≤ y.2 → y.1 ∣ prodL L := by
          intro L
          induction L with
          | nil => intro y h; cases h
          | cons z s ih =>
            intro y h h1
            rcases List.mem_cons.mp h with rfl | h
            · exact head_dvd h1
            · exact Nat.dvd_trans (ih h h1) ⟨z.1 ^ z.2, Nat.mul_comm _ _⟩
        have nz := w0 x List.mem_cons_self
        by_cases s : 0 < x.2.num * ((lcmN (x :: r) : Int) / (x.2.den : Int))
        · have hu : (x.1, (x.2.num * ((lcmN (x :: r) : Int) / (x.2.den : Int))).toNat) ∈ upsOf (wholesL (x :: r)) := List.mem_map.mpr ⟨_, List.mem_filter.mpr ⟨hx, decide_eq_true s⟩, rfl⟩
          have d := dv hu (by show 1 ≤ Int.toNat _; omega)
          rw [eq] at d
          obtain ⟨v, hv⟩ := dvd_prodL px.1 prs.2 d
          exact dis hu hv
        · have hu : (x.1, (-(x.2.num * ((lcmN (x :: r) : Int) / (x.2.den : Int)))).toNat) ∈ downsOf (wholesL (x :: r)) := List.mem_map.mpr ⟨_, List.mem_filter.mpr ⟨hx, decide_eq_true (by omega)⟩, rfl⟩
          have d := dv hu (by show 1 ≤ Int.toNat _; omega)
          rw [← eq] at d
          obtain ⟨v, hv⟩ := dvd_prodL px.1 prs.1 d
          exact dis hv hu
    refine can_ext ha.asc hb.asc (fun x hx => (ha.pr x hx).2.2) (fun x hx => (hb.pr x hx).2.2) fun p => ?_
    by_cases hp : p < 10000
    · have : ev (ndiv a b) p = ev a p - ev b p := by unfold ndiv; exact ev_canE hp
      rw [hn] at this
      have : (0 : Rat) = ev a p - ev b p := this
      grind
    · rw [ev_big ha.can (by omega), ev_big hb.can (by omega)]
  · rintro rfl
    have := lvl_turn a a
    omega
end My

namespace My
open PySem PySem.Spec PyProof.Rows L2 Evl TL
/-! ### texts of numbers, as repr tells them, tell the numbers -/
def isD (c : Nat) : Bool := decide (45 ≤ c) && decide (c ≤ 57)
def noD (r : List Nat) : Prop := r.takeWhile isD = []
theorem noD_cons {c : Nat} {r : List Nat} (h : isD c = false) : noD (c :: r) := by
  unfold noD
  rw [List.takeWhile_cons, h]
  rfl
theorem dec_all (i : Int) : ∀ c ∈ tl (decI i), isD c = true := fun c hc => by
  have := dec_in hc
  unfold isD
  rw [decide_eq_true this.1, decide_eq_true this.2]
  rfl
theorem dec_inj {i j : Int} (h : tl (decI i) = tl (decI j)) : i = j := by
  have := congrArg wholeL h
  rw [whole_dec, whole_dec] at this
  exact Option.some.inj this
theorem peel {i j : Int} {r s : List Nat} (hr : noD r) (hs : noD s) (h : tl (decI i) ++ r = tl (decI j) ++ s) : i = j ∧ r = s := by
  have e := congrArg (List.takeWhile isD) h
  rw [List.takeWhile_append_of_pos (dec_all i), List.takeWhile_append_of_pos (dec_all j), hr, hs, List.append_nil, List.append_nil] at e
  have := dec_inj e
  subst this
  exact ⟨rfl, List.append_cancel_left h⟩
def itemL (x : Nat × Rat) : List Nat := [40] ++ tl (decI x.1) ++ [44, 32, 40] ++ tl (decI x.2.num) ++ [44, 32] ++ tl (decI (x.2.den : Int)) ++ [41, 41]
theorem tl_lit (z : String) : tl (Str.ofString z) = z.toList.map (·.toNat) := tl_ofString z
theorem item_tl (x : Nat × Rat) : tl (ePw x).shown = itemL x := by
  have e : (ePw x).shown = Str.ofString "(" ++ (decI x.1 ++ Str.ofString ", " ++ (Str.ofString "(" ++ (decI x.2.num ++ Str.ofString ", " ++ decI (x.2.den : Int)) ++ Str.ofString ")")) ++ Str.ofString ")" := rfl
  have p1 : tl (Str.ofString "(") = [40] := tl_lit _
  have p2 : tl (Str.ofString ", ") = [44, 32] := tl_lit _
  have p3 : tl (Str.ofString ")") = [41] := tl_lit _
  rw [e]
  simp only [tl_append, p1, p2, p3]
  unfold itemL
  simp
theorem item_peel {x y : Nat × Rat} {r s : List Nat} (h : itemL x ++ r = itemL y ++ s) : x = y ∧ r = s := by
  unfold itemL at h
  simp only [List.append_assoc, List.cons_append, List.nil_append] at h
  have h := (List.cons.inj h).2
  have nd : ∀ r : List Nat, noD (44 :: r) := fun r => noD_cons rfl
  have nd2 : ∀ r : List Nat, noD (41 :: r) := fun r => noD_cons rfl
  obtain ⟨e1, h⟩ := peel (nd _) (nd _) h
  have h := (List.cons.inj (List.cons.inj (List.cons.inj h).2).2).2
  obtain ⟨e2, h⟩ := peel (nd _) (nd _) h
  have h := (List.cons.inj (List.cons.inj h).2).2
  obtain ⟨e3, h⟩ := peel (nd2 _) (nd2 _) h
  have h := (List.cons.inj (List.cons.inj h).2).2
  refine ⟨Prod.ext (Int.ofNat.inj e1) (Rat.ext e2 (Int.ofNat.inj e3)), h⟩
def tailL : Num → List Nat
  | [] => [41]
  | y :: r => [44, 32] ++ itemL y ++ tailL r
def shownL : Num → List Nat
  | [] => [40, 41]
  | [x] => [40] ++ itemL x ++ [44, 41]
  | x :: y :: r => [40] ++ itemL x ++ tailL (y :: r)
theorem tail_inj : ∀ {a b : Num}, tailL a = tailL b → a = b
  | [], [], _ => rfl
  | [], y :: r, h => by cases h
  | x :: r, [], h => by cases h
  | x :: r, y :: s, h => by
    have h : 44 :: 32 :: (itemL x ++ tailL r) = 44 :: 32 :: (itemL y ++ tailL s) := h
    obtain ⟨e, h⟩ := item_peel (List.cons.inj (List.cons.inj h).2).2
    rw [e, tail_inj h]
theorem shownL_inj : ∀ {a b : Num}, shownL a = shownL b → a = b
  | [], [], _ => rfl
  | [], [y], h => by cases h
  | [], y :: z :: s, h => by cases h
  | [x], [], h => by cases h
  | x :: w :: r, [], h => by cases h
  | [x], [y], h => by
    have h : 40 :: (itemL x ++ [44, 41]) = 40 :: (itemL y ++ [44, 41]) := h
    rw [(item_peel (List.cons.inj h).2).1]
  | [x], y :: z :: s, h => by
    have h : 40 :: (itemL x ++ [44, 41]) = 40 :: (itemL y ++ tailL (z :: s)) := h
    have h := (item_peel (List.cons.inj h).2).2
    have := (List.cons.inj (List.cons.inj h).2).1
    cases this
  | x :: w :: r, [y], h => by
    have h : 40 :: (itemL x ++ tailL (w :: r)) = 40 :: (itemL y ++ [44, 41]) := h
    have h := (item_peel (List.cons.inj h).2).2
    have := (List.cons.inj (List.cons.inj h).2).1
    cases this
  | x :: w :: r, y :: z :: s, h => by
    have h : 40 :: (itemL x ++ tailL (w :: r)) = 40 :: (itemL y ++ tailL (z :: s)) := h
    obtain ⟨e, h⟩ := item_peel (List.cons.inj h).2
    rw [e, tail_inj h]
theorem tail_tl : ∀ (y : Nat × Rat) (r : Num), tl (Str.ofString ", " ++ Str.join (Str.ofString ", ") (PyData.shownAll ((y :: r).map ePw)) ++ Str.ofString ")") = tailL (y :: r)
  | y, [] => by
    have p2 : tl (Str.ofString ", ") = [44, 32] := tl_lit _
    have p3 : tl (Str.ofString ")") = [41] := tl_lit _
    show tl (Str.ofString ", " ++ (ePw y).shown ++ Str.ofString ")") = _
    rw [tl_append, tl_append, item_tl, p2, p3]
    rfl
  | y, z :: r => by
    have ih := tail_tl z r
    have p2 : tl (Str.ofString ", ") = [44, 32] := tl_lit _
    have e : Str.join (Str.ofString ", ") (PyData.shownAll ((y :: z :: r).map ePw)) = (ePw y).shown ++ Str.ofString ", " ++ Str.join (Str.ofString ", ") (PyData.shownAll ((z :: r).map ePw)) := rfl
    show _ = [44, 32] ++ itemL y ++ tailL (z :: r)
    rw [e, ← ih]
    simp only [tl_append, item_tl, p2, List.append_assoc]
theorem shown_tl : ∀ (n : Num), tl (eN n).shown = shownL n
  | [] => by
    show tl (Str.ofString "(" ++ Str.empty ++ Str.ofString ")") = _
    rw [tl_append, tl_append, tl_lit, tl_lit]
    rfl
  | [x] => by
    show tl (Str.ofString "(" ++ (ePw x).shown ++ Str.ofString ",)") = _
    rw [tl_append, tl_append, item_tl, tl_lit, tl_lit]
    rfl
  | x :: y :: r => by
    have ih := tail_tl y r
    have p1 : tl (Str.ofString "(") = [40] := tl_lit _
    have e : (eN (x :: y :: r)).shown = Str.ofString "(" ++ ((ePw x).shown ++ Str.ofString ", " ++ Str.join (Str.ofString ", ") (PyData.shownAll ((y :: r).map ePw))) ++ Str.ofString ")" := rfl
    show _ = [40] ++ itemL x ++ tailL (y :: r)
    rw [e, ← ih]
    simp only [tl_append, item_tl, p1, List.append_assoc]
theorem shown_eN {a b : Num} : (eN a).shown = (eN b).shown ↔ a = b := by
  constructor
  · intro h
    have := congrArg tl h
    rw [shown_tl, shown_tl] at this
    exact shownL_inj this
  · rintro rfl
    rfl
end My

namespace My
open PySem PySem.Spec PyProof.Rows L2 Evl
/-! ### what is locked stays -/
theorem FqL.un {K : PySem.W.Frag} {H H' : Hp} {a : Addr} {xs : List V} (h : FqL K H a xs) (g : Un H H') : FqL K H' a xs := by
  rcases h with ⟨o, h⟩ | h
  · exact .inl ⟨o, g _ _ _ h⟩
  · exact .inr h
theorem PlT.un {K : PySem.W.Frag} {H H' : Hp} {a : Addr} {xs : List V} (h : PlT K H a xs) (g : Un H H') : PlT K H' a xs := by
  rcases h with ⟨o, h, d⟩ | h
  · exact .inl ⟨o, g _ _ _ h, d⟩
  · exact .inr h
theorem DqAll_un {K : PySem.W.Frag} {H H' : Hp} {vs : List V} {ds : List PyData} (g : Un H H') (h : DqAll K H vs ds) : DqAll K H' vs ds := dpa_un g ds vs h
theorem Un.refl {H : Hp} : Un H H := fun _ _ _ h => h
theorem Un.trans {H H' H2 : Hp} (a : Un H H') (b : Un H' H2) : Un H H2 := fun x o u h => b x o u (a x o u h)
theorem Ex.un {H H' : Hp} (e : Ex H H') : Un H H' := fun a o u h => e a _ h
theorem Go.un {p : Addr} {H H' : Hp} {xs : List V} (g : Go p H H') (h : H p = some (.lst xs)) : Un H H' := fun a o u e => g a _ (fun z => by rw [z, h] at e; cases e) e
theorem PotAt.un {p : Addr} {m : Nat} {H H' : Hp} (h : PotAt p m H) (g : Go p H H') : Un H H' := by
  obtain ⟨a, b, c, h1, _⟩ := h
  exact g.un h1
section
variable {X : Cx} {K : PySem.W.Frag}
theorem pi_enumK (h : X.K = K) {e : Expr} {ta : TA} {p pos tpos : Pos} {elts : List Expr} {kk : Nat} (hg : L2.Gl X "enumerate") (hm : X.mg "enumerate" = none) (ha : PA X [e] ta) (hs : starEach [e] X.env = [(false, eval e X.env)] := by rfl) :
    PI X (.Tuple elts kk tpos) (.Call (.Name "enumerate" p) [e] [] pos) (iEnum K ta) := by
  subst h
  exact pi_enum hg hm ha hs
end
section
variable {K : PySem.W.Frag} {σ : L2.St} {H H0 : Hp} {ta tb te tc tl td : TE} {tt : TT} {p l : Addr} {m n k : Nat} {D : Ends} {tz tu : TS} {R S RA RB' : PyData → Prop} {g : TG} {acc : List V} {ds es : List PyData} {d z : PyData} {vs : List Nat}
/-! ### loops: what the rounds keep is told once the things to go through stand -/
def Rounds {α : Type} (K : PySem.W.Frag) (enc : α → PyData) (xs : List α) (body : Nat → V → L2.St → Hp → (L2.St → Hp → Prop) → Prop) (fin : L2.St → Hp → Prop) (σ : L2.St) (H1 : Hp) : Prop :=
  ∃ Pv : Nat → L2.St → Hp → Prop, (∀ n σ' H', Pv n σ' H' → Un H1 H') ∧ Pv 0 σ H1 ∧ (∀ n x σ' H', xs[n]? = some x → Pv n σ' H' → ∀ u H2, Ex H' H2 → Dq K H2 u (enc x) → body n u σ' H2 (Pv (n + 1))) ∧ ∀ σ' H', Pv xs.length σ' H' → fin σ' H'
theorem s_forEn {α : Type} {enc : α → PyData} {xs : List α} {i j : Nat} {ta : TA} (h : EA K ta σ H [.list (xs.map enc)])
    (k : ∀ H1, Ex H H1 → Rounds K enc xs (fun n u σ' H2 N => tu { D with nx := N, ct := N, bk := D.nx } ((σ'.set i (some (.int (n : Nat)))).set j (some u)) H2) D.nx σ H1) :
    tFor (iEnum K ta) (gTup K 2 (gCons (gName i) (gCons (gName j) gNil))) tu D σ H :=
  h H (Ex.refl H) _ fun vs H1 e1 hv => by
    obtain ⟨v, rfl, hd⟩ := dpa1 hv
    cases hd with
    | lst hs ha =>
    rename_i a vals
    obtain ⟨Pv, hU, h0, hst, hf⟩ := k H1 e1
    have hl : vals.length = xs.length := by rw [dpa_len ha, List.length_map]
    refine ⟨a, vals, rfl, hs.sq, fun n r σ' H' => r = xs.length - n ∧ n ≤ xs.length ∧ Pv n σ' H', ⟨_, rfl, Nat.zero_le _, h0⟩, ?_⟩
    rintro n r σ' H' ⟨rfl, hn, P⟩
    have hs' := (hs.un (hU _ _ _ P)).sq
    by_cases hlt : n < xs.length
    · have hx : xs[n]? = some (xs[n]'hlt) := List.getElem?_eq_getElem hlt
      generalize xs[n]'hlt = x at hx
      obtain ⟨y, hy, hd⟩ := dpa_put ha (i := n) (d := enc x) (by rw [List.getElem?_map, hx]; rfl)
      refine .inr ⟨⟨vals, y, hs', hy⟩, Pv (n + 1), fun σ2 H2 p2 => ⟨_, by omega, rfl, hlt, p2⟩, ?_⟩
      rintro v H2 ⟨T, x', rfl, hT, rfl, qx⟩
      have ey := qx vals hs'
      rw [hy] at ey
      cases ey
      have eT : Ex H' (upd H' T (.tup [.int (n : Nat), y])) := Ex.new hT
      exact ⟨T, _, rfl, st_of upd_same, rfl, _, _, rfl, _, _, rfl, rfl, hst n x σ' H' hx P y _ eT (Dq_un ((hU _ _ _ P).trans (Ex.un eT)) hd)⟩
    · refine .inl ⟨⟨vals, hs', by omega⟩, ?_⟩
      have : n = xs.length := by omega
      subst this
      exact hf _ _ P
theorem q_forEn {α : Type} {enc : α → PyData} {xs : List α} {i j : Nat} {ta : TA} (h : EA K ta σ H [.list (xs.map enc)])
    (k : ∀ H1, Ex H H1 → Rounds K enc xs (fun n u σ' H2 N => tu { D with nx := N, ct := N, bk := tz D } ((σ'.set i (some (.int (n : Nat)))).set j (some u)) H2) (tz D) σ H1) :
    tSeq (tFor (iEnum K ta) (gTup K 2 (gCons (gName i) (gCons (gName j) gNil))) tu) tz D σ H := s_forEn (D := { D with nx := tz D }) h k
theorem s_forLK {α : Type} {enc : α → PyData} {xs : List α} (h : ED K tl σ H (.list (xs.map enc)))
    (k : ∀ H1, Ex H H1 → Rounds K enc xs (fun n u σ' H2 N => g u σ' H2 fun σ2 H3 => tu { D with nx := N, ct := N, bk := D.nx } σ2 H3) D.nx σ H1) :
    tFor (iList K tl) g tu D σ H :=
  h H (Ex.refl H) _ fun v H1 e1 hv => by
    cases hv with
    | lst hs ha =>
    rename_i a vals
    obtain ⟨Pv, hU, h0, hst, hf⟩ := k H1 e1
    have hl : vals.length = xs.length := by rw [dpa_len ha, List.length_map]
    refine ⟨a, rfl, ⟨vals, hs.sq⟩, fun n r σ' H' => r = xs.length - n ∧ n ≤ xs.length ∧ Pv n σ' H', ⟨_, rfl, Nat.zero_le _, h0⟩, ?_⟩
    rintro n r σ' H' ⟨rfl, hn, P⟩
    have hs' := (hs.un (hU _ _ _ P)).sq
    by_cases hlt : n < xs.length
    · have hx : xs[n]? = some (xs[n]'hlt) := List.getElem?_eq_getElem hlt
      generalize xs[n]'hlt = x at hx
      obtain ⟨y, hy, hd⟩ := dpa_put ha (i := n) (d := enc x) (by rw [List.getElem?_map, hx]; rfl)
      refine .inr ⟨⟨vals, y, hs', hy⟩, Pv (n + 1), fun σ2 H2 p2 => ⟨_, by omega, rfl, hlt, p2⟩, ?_⟩
      rintro v H2 ⟨rfl, qx⟩
      have ey := qx vals hs'
      rw [hy] at ey
      cases ey
      exact hst n x σ' H2 hx P y _ (Ex.refl _) (Dq_un (hU _ _ _ P) hd)
    · refine .inl ⟨⟨vals, hs', by omega⟩, ?_⟩
      have : n = xs.length := by omega
      subst this
      exact hf _ _ P
theorem q_forLK {α : Type} {enc : α → PyData} {xs : List α} (h : ED K tl σ H (.list (xs.map enc)))
    (k : ∀ H1, Ex H H1 → Rounds K enc xs (fun n u σ' H2 N => g u σ' H2 fun σ2 H3 => tu { D with nx := N, ct := N, bk := tz D } σ2 H3) (tz D) σ H1) :
    tSeq (tFor (iList K tl) g tu) tz D σ H := s_forLK (D := { D with nx := tz D }) h k
theorem s_forTK {α : Type} {enc : α → PyData} {xs : List α} (h : ED K tl σ H (.tuple (xs.map enc)))
    (k : ∀ H1, Ex H H1 → Rounds K enc xs (fun n u σ' H2 N => g u σ' H2 fun σ2 H3 => tu { D with nx := N, ct := N, bk := D.nx } σ2 H3) D.nx σ H1) :
    tFor (iTup K tl) g tu D σ H :=
  h H (Ex.refl H) _ fun v H1 e1 hv => by
    cases hv with
    | tup hs ha =>
    rename_i a vals
    obtain ⟨Pv, hU, h0, hst, hf⟩ := k H1 e1
    have hl : vals.length = xs.length := by rw [dpa_len ha, List.length_map]
    refine ⟨a, rfl, ⟨vals, hs.sq⟩, fun n r σ' H' => r = xs.length - n ∧ n ≤ xs.length ∧ Pv n σ' H', ⟨_, rfl, Nat.zero_le _, h0⟩, ?_⟩
    rintro n r σ' H' ⟨rfl, hn, P⟩
    have hs' := (hs.un (hU _ _ _ P)).sq
    by_cases hlt : n < xs.length
    · have hx : xs[n]? = some (xs[n]'hlt) := List.getElem?_eq_getElem hlt
      generalize xs[n]'hlt = x at hx
      obtain ⟨y, hy, hd⟩ := dpa_put ha (i := n) (d := enc x) (by rw [List.getElem?_map, hx]; rfl)
      refine .inr ⟨⟨vals, y, hs', hy⟩, Pv (n + 1), fun σ2 H2 p2 => ⟨_, by omega, rfl, hlt, p2⟩, ?_⟩
      rintro v H2 ⟨rfl, qx⟩
      have ey := qx vals hs'
      rw [hy] at ey
      cases ey
      exact hst n x σ' H2 hx P y _ (Ex.refl _) (Dq_un (hU _ _ _ P) hd)
    · refine .inl ⟨⟨vals, hs', by omega⟩, ?_⟩
      have : n = xs.length := by omega
      subst this
      exact hf _ _ P
theorem q_forTK {α : Type} {enc : α → PyData} {xs : List α} (h : ED K tl σ H (.tuple (xs.map enc)))
    (k : ∀ H1, Ex H H1 → Rounds K enc xs (fun n u σ' H2 N => g u σ' H2 fun σ2 H3 => tu { D with nx := N, ct := N, bk := tz D } σ2 H3) (tz D) σ H1) :
    tSeq (tFor (iTup K tl) g tu) tz D σ H := s_forTK (D := { D with nx := tz D }) h k
/-! ### lists as they stand -/
theorem nl_listM {α : Type} (enc : α → PyData) (xs : List α) (f : α → Bool) (g : α → PyData) {tg : TG} (h : EM K tl σ H (xs.map enc)) (hz : xs.length ≤ 40000)
    (turn : ∀ x ∈ xs, Turns K tg tt te vs σ H enc f g x) : NL K (tLc (iList K tl) tg tt te vs) σ H (outsOf f g xs) := fun H0 e0 Q q => h H0 e0 _ fun a vals H1 e1 hs ha => by
  refine ⟨a, rfl, ⟨vals, hs.sq⟩, fun Dl hD => ?_⟩
  have hlen : vals.length = xs.length := by rw [dpa_len ha, List.length_map]
  refine lc_list (K := K) (a := a) (xs := vals) (fun i H' => Cq K H1 Dl (outsOf f g (xs.take i)) H') (cq_nil hD) (fun i H' _ p => ex_l p.2.1 hs.sq) (fun i v H' hi p => ?_) (fun H' p => ?_)
  · obtain ⟨dd, hd, hdv⟩ := dpa_get ha hi
    rw [List.getElem?_map] at hd
    cases hx : xs[i]? with
    | none => rw [hx] at hd; cases hd
    | some x =>
      rw [hx] at hd
      cases hd
      have hm : x ∈ xs := List.mem_of_getElem? hx
      obtain ⟨σ2, b1, b2, b3, b4⟩ := turn x hm v H' ((e0.trans e1).trans p.2.1) (Dq_ex hdv p.2.1)
      refine b1 _ ⟨b2, ?_⟩
      have := cq_turn (K := K) (z := g x) (e0.trans e1) p (by have := outs_len f g (xs.take i); rw [List.length_take] at this; omega) b3 b4 (fun _ => rfl)
      rw [← outs_more hx] at this
      exact this
  · obtain ⟨p1, p2, p3, acc, p4, p5⟩ := p
    rw [hlen, List.take_length] at p5
    exact q _ acc H' (none_of_ex e1 p1) (e1.trans p2) p4 p5
theorem el_listM {α : Type} (enc : α → PyData) (xs : List α) (f : α → Bool) (g : α → PyData) {tg : TG} (h : EM K tl σ H (xs.map enc)) (hz : xs.length ≤ 40000)
    (turn : ∀ x ∈ xs, Turns K tg tt te vs σ H enc f g x) : ED K (tFrz (tLc (iList K tl) tg tt te vs)) σ H (.list (outsOf f g xs)) := ed_frz (nl_listM enc xs f g h hz turn)
theorem ed_takeD {j : Nat} (h : ED K te σ H (.list ds)) (hu : ED K tb σ H (.int (j : Nat))) : ED K (tFrz (tSl (rSlL K) te tNoPart (tPart tb))) σ H (.list (ds.take j)) := fun H1 e1 Q q =>
  h H1 e1 _ fun v H2 e2 hv => by
    cases hv with
    | lst hs ha =>
      rename_i a xs
      refine hu H2 (e1.trans e2) _ fun w H3 e3 hw => ?_
      cases hw
      refine ⟨_, rfl, a, xs, rfl, (hs.ex e3).sq, fun r hr => frz_done (e2.trans e3) hr (Ex.new hr) upd_same ?_ q⟩
      have e : cutV xs none (some (j : Int)) = xs.take j := by
        unfold cutV
        rw [HT.sIx_none, HT.sIx_nat, List.drop_zero, Nat.sub_zero, ← List.take_eq_take_min]
      rw [e]
      exact DqAll_ex (dpa_take (DqAll_ex ha e3)) (Ex.new hr)
theorem dpa_last {vals : List V} (h : DqAll K H vals (ds ++ [d])) : ∃ us v, vals = us ++ [v] ∧ Dq K H v d := by
  induction ds generalizing vals with
  | nil =>
    obtain ⟨v, rfl, hv⟩ := dpa1 h
    exact ⟨[], v, rfl, hv⟩
  | cons x ds ih =>
    cases h with
    | cons h1 h2 =>
      obtain ⟨us, v, rfl, hv⟩ := ih h2
      exact ⟨_ :: us, v, rfl, hv⟩
theorem rd_lastL : RD K (rIxL K) (.list (ds ++ [d])) (.int (-1)) d := fun H x y hx hy Q q => by
  cases hy
  cases hx with
  | lst hs ha =>
    obtain ⟨us, v, rfl, hv⟩ := dpa_last ha
    exact ⟨_, _, _, v, rfl, rfl, hs.sq, atI_last us v, q v H (Ex.refl H) hv⟩
/-! ### a list that is put together while the pot is drawn from -/
theorem q_catG {i : Nat} {PA PB : List PyData → Prop} (hp : PotAt p m H) (ha : EG K p ta σ H m n (fun d => ∃ ds, d = .list ds ∧ PA ds)) (hb : EG K p tb σ H n k (fun d => ∃ ds, d = .list ds ∧ PB ds)) (hz : ∀ ds es, PA ds → PB es → ds.length + es.length ≤ 40000)
    (kk : ∀ l acc ds es H1, Gl K p l acc (ds ++ es) H H1 → PotAt p k H1 → PA ds → PB es → tz D (σ.set i (some (.ref l))) H1) : tSeq (tAsg (tOp (rCatK K) ta tb) (gName i)) tz D σ H :=
  ha H (Go.refl H) hp _ fun v H1 d1 g1 hp1 hA hv => hb H1 g1 hp1 _ fun w H2 d2 g2 hp2 hB hw => by
    obtain ⟨ds, rfl, pa⟩ := hA
    obtain ⟨es, rfl, pb⟩ := hB
    have hv2 := hp1.dp g2 hv rfl
    cases hv2 with
    | lst hs1 ha1 =>
    cases hw with
    | lst hs2 ha2 =>
    have z := hz ds es pa pb
    refine ⟨_, _, _, _, rfl, rfl, .inr hs1, .inr hs2, sz_of (by rw [dpa_len ha1, dpa_len ha2]; omega), fun q hq => ?_⟩
    have ne : q ≠ p := by
      rintro rfl
      obtain ⟨_, _, _, z, _⟩ := hp2
      rw [z] at hq; cases hq
    have h0 : H q = none := by
      cases e : H q with
      | none => rfl
      | some o =>
        have := g2 q o ne (g1 q o ne e)
        rw [hq] at this; cases this
    exact kk q _ ds es _ ⟨h0, ne, (g1.trans g2).trans (exgo (Ex.new hq)), rfl, upd_same, DqAll_ex (dpa_app ha1 ha2) (Ex.new hq)⟩ (hp2.ex (Ex.new hq)) pa pb
theorem gl_at {H' : Hp} (G : Gl K p l acc ds H0 H) (hp : PotAt p m H) (g : Go p H H') {i : Nat} (h : σ[i]? = some (some (.ref l))) : EM K (tVar i) σ H' ds := em_gl (gl_go hp G g) h
theorem q_appGE (hp : PotAt p m H) (G : Gl K p l acc ds H0 H) (ha : Ev ta σ H (.ref l)) (h : EG K p te σ H m n R) (hz : ds.length < 50000) (kk : ∀ acc' d H1, Gl K p l acc' (ds ++ [d]) H0 H1 → PotAt p n H1 → R d → tz D σ H1) :
    tSeq (tDrop (tBM K "list" rAppend ta (tCons te tNil))) tz D σ H := ha H (Ex.refl H) _ fun H1 e1 => by
  have p1 := gl_ex G e1
  have a5 := p1.2.2.2.2.1
  refine ⟨Or.inl ⟨rfl, acc, sq_of a5⟩, h H1 (exgo e1) (hp.ex e1) _ fun v H2 d g2 hp2 hd hv => ?_⟩
  obtain ⟨b1, b2, b3, b4, b5, b6⟩ := gl_go (hp.ex e1) p1 g2
  have gl : Go l H2 (upd H2 l (.lst (acc ++ [v]))) := fun a o n h => by rw [upd_ne n]; exact h
  refine ⟨l, acc, v, rfl, rfl, b5, sz_lt (by rw [dpa_len b6]; omega), kk (acc ++ [v]) d _ ⟨b1, b2, fun a o n h => ?_, rfl, upd_same, dpa_app (dpa_go gl b5 ds acc rfl b6) (.cons (Dq_go hv gl b5 rfl) .nil)⟩ ?_ hd⟩
  · have ne : a ≠ l := by
      rintro rfl
      rw [b1] at h; cases h
    rw [upd_ne ne]
    exact b3 _ _ n h
  · obtain ⟨x, y, z, h1, h2, h3⟩ := hp2
    exact ⟨x, y, z, by rw [upd_ne (Ne.symm b2)]; exact h1, h2, h3⟩
/-- [.. for x in range(lo, lo + n) if ..] -/
theorem nl_rng2 {ta : TA} (lo n : Nat) (f : Nat → Bool) (g : Nat → PyData) {i : Nat} (h : EA K ta σ H [.int lo, .int (lo + n : Nat)]) (hz : lo + n ≤ 40000) (hw : ∀ a, wipe ((wipe σ vs).set i (some a)) vs = wipe σ vs)
    (test : ∀ x, x < n → ∀ H1, Ex H H1 → EvT tt ((wipe σ vs).set i (some (.int (lo + x : Nat)))) H1 (f (lo + x)))
    (turn : ∀ x, x < n → f (lo + x) = true → ∀ H1, Ex H H1 → ED K te ((wipe σ vs).set i (some (.int (lo + x : Nat)))) H1 (g (lo + x))) :
    NL K (tLc (iRng2 ta) (gName i) tt te vs) σ H (outsOf f g ((List.range n).map (lo + ·))) := fun H0 e0 Q q => h H0 e0 _ fun vv H1 e1 hv => by
  obtain ⟨v1, v2, rfl, h1, h2⟩ := dpa2 hv
  cases h1; cases h2
  refine ⟨lo, (lo + n : Nat), rfl, ⟨by omega, by omega, by omega, by omega⟩, fun Dl hD => ?_⟩
  have en : (((lo + n : Nat) : Int) - (lo : Int)).toNat = n := by omega
  rw [en]
  refine lc_range (lo := lo) (n := n) (fun j H' => Cq K H1 Dl (outsOf f g (((List.range n).map (lo + ·)).take j)) H') (cq_nil hD) (fun j H' hj p => ?_) (fun H' p => ?_)
  · have ej : (lo : Int) + (j : Int) = ((lo + j : Nat) : Int) := (Int.natCast_add lo j).symm
    rw [ej]
    have hx : ((List.range n).map (lo + ·))[j]? = some (lo + j) := by rw [List.getElem?_map, List.getElem?_range hj]; rfl
    refine ⟨hw _, ?_⟩
    have key := cq_turn (K := K) (tt := tt) (b := f (lo + j)) (z := g (lo + j)) (te := te) (e0.trans e1) p (by have := outs_len f g (((List.range n).map (lo + ·)).take j); rw [List.length_take, List.length_map, List.length_range] at this; omega)
      (test j hj H' ((e0.trans e1).trans p.2.1)) (fun hb => turn j hj hb H' ((e0.trans e1).trans p.2.1)) (fun _ => rfl)
    rw [← outs_more hx] at key
    exact key
  · obtain ⟨p1, p2, p3, acc, p4, p5⟩ := p
    rw [List.take_of_length_le (by rw [List.length_map, List.length_range]; exact Nat.le_refl _)] at p5
    exact q _ acc H' (none_of_ex e1 p1) (e1.trans p2) p4 p5
theorem dpa_rep {vals : List V} (h : DqAll K H vals ds) : ∀ k, DqAll K H (List.replicate k vals).flatten (List.replicate k ds).flatten
  | 0 => .nil
  | k + 1 => by
    rw [List.replicate_succ, List.replicate_succ, List.flatten_cons, List.flatten_cons]
    exact dpa_app h (dpa_rep h k)
/-- [..] * k -/
theorem nl_rep {k : Nat} (h : NL K ta σ H ds) (hb : ED K tb σ H (.int k)) (hz : ds.length * k ≤ 100000) (hk : k ≤ 100000) : NL K (tOp rRep ta tb) σ H (List.replicate k ds).flatten := fun H1 e1 Q q =>
  h H1 e1 _ fun l acc H2 h0 e2 hl hd => hb H2 (e1.trans e2) _ fun w H3 e3 hw => by
    cases hw
    have ek : ((k : Nat) : Int).toNat = k := Int.toNat_natCast k
    refine ⟨l, k, acc, rfl, rfl, e3 _ _ hl, by omega, by omega, ?_, fun p hp => ?_⟩
    · rw [ek, dpa_len hd]; exact sz_of hz
    · rw [ek]
      exact q p _ _ (none_of_ex (e2.trans e3) hp) ((e2.trans e3).trans (Ex.new hp)) upd_same (DqAll_ex (dpa_rep (DqAll_ex hd e3) k) (Ex.new hp))
end
theorem shw_list {m b k : Nat} {ds : List PyData} (h : ∀ d ∈ ds, Shw m b d) (hk : ds.length ≤ k) : Shw (m + 1) ((b + 2) * k + 3) (.list ds) := by
  have all : PyData.showableAll ds = true ∧ PyData.hasDictAll ds = false ∧ PyData.depthAll ds ≤ m ∧ (PyData.shownAll ds).length = ds.length ∧ ((PyData.shownAll ds).map (·.length)).sum ≤ b * ds.length := by
    clear hk
    induction ds with
    | nil => exact ⟨rfl, rfl, Nat.zero_le _, rfl, Nat.le_refl _⟩
    | cons d ds ih =>
      obtain ⟨h1, h2, h3, h4, h5⟩ := ih fun x hx => h x (List.mem_cons_of_mem _ hx)
      have hd := h d List.mem_cons_self
      refine ⟨?_, ?_, ?_, ?_, ?_⟩
      · show (d.showable && PyData.showableAll ds) = true
        rw [hd.sh, h1]; rfl
      · show (d.hasDict || PyData.hasDictAll ds) = false
        rw [hd.nd, h2]; rfl
      · show max d.depth (PyData.depthAll ds) ≤ m
        have := hd.dp
        omega
      · show (PyData.shownAll ds).length + 1 = ds.length + 1
        rw [h4]
      · show d.shown.length + ((PyData.shownAll ds).map (·.length)).sum ≤ b * (ds.length + 1)
        have := hd.ln
        rw [Nat.mul_succ]
        omega
  obtain ⟨h1, h2, h3, h4, h5⟩ := all
  refine ⟨h1, h2, Nat.succ_le_succ h3, ?_, fun x e => by cases e⟩
  show (listText (PyData.shownAll ds)).length ≤ _
  have t := listText_len_le (PyData.shownAll ds)
  have u : (b + 2) * ds.length ≤ (b + 2) * k := Nat.mul_le_mul_left _ hk
  rw [Nat.add_mul] at u
  omega
end My

namespace My
open PySem PySem.Spec PyProof.Rows L2 Evl TL
/-! ### weights of quotients, raised -/
theorem lcm_dvd_of {m : Num} {N : Nat} (h : ∀ x ∈ m, x.2.den ∣ N) : lcmN m ∣ N := by
  unfold lcmN
  have : ∀ (m : Num) (l : Nat), l ∣ N → (∀ x ∈ m, x.2.den ∣ N) → m.foldl (fun l x => Nat.lcm l x.2.den) l ∣ N := by
    intro m
    induction m with
    | nil => intro l hl _; exact hl
    | cons x r ih => intro l hl hm; exact ih _ (Nat.lcm_dvd hl (hm x List.mem_cons_self)) fun y hy => hm y (List.mem_cons_of_mem _ hy)
  exact this m 1 (Nat.one_dvd _) h
theorem wholes_nums (n : Num) : wholesL n = numsL (n.map fun x => (x.1, x.2 * (((lcmN n : Nat) : Int) : Rat))) := by
  unfold wholesL numsL
  rw [List.map_map]
  refine List.map_congr_left fun x hx => ?_
  have := whole_val hx
  show (x.1, _) = (x.1, (x.2 * (((lcmN n : Nat) : Int) : Rat)).num)
  rw [← this, Rat.num_intCast]
theorem wholes_pow {n : Num} (h : Can n) : wholesL n = numsL (npow n (((lcmN n : Nat) : Int) : Rat)) := by
  rw [wholes_nums, pow_eq h]
  have := lcm_pos n
  exact natCast_ne this
theorem den_mul (a b : Rat) : (a * b).den ∣ a.den * b.den := by
  rw [Rat.mul_def, Rat.normalize_eq]
  exact Nat.div_dvd_of_dvd (Nat.gcd_dvd_right _ _)
theorem npow_den {w : Nat} {m : Num} (h : TwN w m) (q : Rat) : lcmN (npow m q) ∣ 12 * q.den := lcm_dvd_of fun x hx => by
  have hc : Can (npow m q) := can_canE _
  have e : ev (npow m q) x.1 = x.2 := ev_mem hc.asc hx
  have hp : x.1 < 10000 := Nat.lt_succ_of_le (hc.w x hx).1
  have e2 : ev (npow m q) x.1 = ev m x.1 * q := by unfold npow; exact ev_canE hp
  rw [← e, e2]
  exact Nat.dvd_trans (den_mul _ _) (Nat.mul_dvd_mul (tw_den (h.tw x.1)).1 (Nat.dvd_refl _))
theorem bits_npow {w : Nat} {m : Num} (h : TwN w m) (q : Rat) : bitsOf (wholesL (npow m q)) ≤ q.num.natAbs * w := by
  have hc : Can (npow m q) := can_canE _
  obtain ⟨z, hz, hw⟩ := h.z
  have ok : NumOk (npow m q) := ok_npow h.ok
  rw [wholes_pow hc]
  obtain ⟨c, hL⟩ := npow_den h q
  have hI := int_lcm ok
  have l0 := lcm_pos (npow m q)
  generalize lcmN (npow m q) = L at hL hI l0
  rw [bits_R (n := npow (npow m q) ((L : Int) : Rat)) (can_canE _)]
  have c0 : 1 ≤ c := by
    rcases Nat.eq_zero_or_pos c with rfl | h
    · have := den_pos q; omega
    · exact h
  refine Nat.le_trans (sumR_le (g := fun p => q.num.natAbs * (bl p * (z p).natAbs)) fun p hp => ?_) ?_
  · rw [Nat.mul_left_comm]
    refine Nat.mul_le_mul_left _ ?_
    have hd := hI p
    have e : ev (npow (npow m q) ((L : Int) : Rat)) p = (z p : Rat) / 12 * q * ((L : Int) : Rat) := by
      unfold npow
      rw [ev_canE hp, ev_canE hp, hz]
    rw [e] at hd ⊢
    generalize hv : (z p : Rat) / 12 * q * ((L : Int) : Rat) = v at hd
    have hn : v = ((v.num : Int) : Rat) := Rat.ext (Rat.num_intCast _).symm (hd.trans (Rat.den_intCast _).symm)
    have key : v.num * (c : Int) = z p * q.num := by
      refine int_inj ?_
      rw [Rat.intCast_mul, Rat.intCast_mul, ← hn, ← hv]
      have hL2 : ((12 * q.den : Nat) : Rat) = ((L * c : Nat) : Rat) := by rw [hL]
      rw [Rat.natCast_mul, Rat.natCast_mul] at hL2
      have h1 : q = (q.num : Rat) / ((q.den : Nat) : Rat) := by rw [← mk_div, Rat.mkRat_self]
      have h2 : ((q.den : Nat) : Rat) ≠ 0 := natCast_ne (den_pos q)
      have h3 : ((L : Int) : Rat) = ((L : Nat) : Rat) := rfl
      have h4 : ((c : Int) : Rat) = ((c : Nat) : Rat) := rfl
      have h5 : ((12 : Nat) : Rat) = 12 := rfl
      rw [h3, h4]
      rw [h5] at hL2
      generalize ((q.den : Nat) : Rat) = d at h1 h2 hL2
      generalize (q.num : Rat) = u at h1 ⊢
      rw [h1]
      grind
    have := congrArg Int.natAbs key
    rw [Int.natAbs_mul, Int.natAbs_mul] at this
    have h1 : v.num.natAbs * 1 ≤ v.num.natAbs * (c : Int).natAbs := Nat.mul_le_mul_left _ (by omega)
    rw [Nat.mul_comm q.num.natAbs]
    omega
  · rw [sumR_mul]
    exact Nat.mul_le_mul_left _ hw
theorem pow_le4000 {N : Nat} (h : N ≤ 1000) : N < 2 ^ 4000 := Nat.lt_of_le_of_lt h (Nat.lt_trans (show 1000 < 2 ^ 10 by decide) (Nat.pow_lt_pow_right (by decide) (by decide)))
/-- numbers of little weight raised to a small power can be looked at -/
theorem lv_pow {a b : Num} {w : Nat} (ha : TwN w a) (hb : TwN w b) (q : Rat) (hw : q.num.natAbs * (2 * w) ≤ 65536) (hw2 : w < 2 ^ 60) (hq : Sm 8 q) : LvOk (npow a q) (npow b q) := by
  refine ⟨ok_npow ha.ok, ok_npow hb.ok, ?_, ?_, ?_, ?_⟩
  · exact (sm_npow ha.ok.can (ha.sm hw2 (by decide)) (by decide) hq).mono (by decide)
  · exact (sm_npow hb.ok.can (hb.sm hw2 (by decide)) (by decide) hq).mono (by decide)
  · rw [ndiv_npow]
    have := Nat.le_of_dvd (by have := den_pos q; omega) (npow_den (ha.div hb) q)
    have h2 := hq.2
    have : (2 : Nat) ^ 8 = 256 := by decide
    exact Nat.lt_of_le_of_lt (show lcmN (npow (ndiv a b) q) ≤ 12 * 256 by omega) (Nat.lt_trans (show 12 * 256 < 2 ^ 12 by decide) (Nat.pow_lt_pow_right (by decide) (by decide)))
  · rw [ndiv_npow]
    have := bits_npow (ha.div hb) q
    have e : w + w = 2 * w := by omega
    rw [e] at this
    omega
theorem pow_one' (n : Num) (h : Can n) : npow n 1 = n := by
  rw [← pow_eq h (by decide)]
  conv => rhs; rw [← List.map_id n]
  refine List.map_congr_left fun x _ => ?_
  show (x.1, x.2 * 1) = x
  rw [Rat.mul_one]
theorem lv_tw {a b : Num} {w : Nat} (ha : TwN w a) (hb : TwN w b) (hw : 2 * w ≤ 65536) : LvOk a b := by
  have := lv_pow ha hb 1 (by show 1 * (2 * w) ≤ 65536; omega) (Nat.lt_of_le_of_lt (show w ≤ 65536 by omega) (by decide)) ⟨by decide, by decide⟩
  rwa [pow_one' _ ha.ok.can, pow_one' _ hb.ok.can] at this
theorem lv_mul {a b c : Num} {w : Nat} (ha : TwN w a) (hb : TwN w b) (hc : TwN w c) (hw : 2 * w ≤ 65536) : LvOk (nmul a c) (nmul b c) := by
  have h := lv_tw ha hb hw
  have w60 : w + w < 2 ^ 60 := Nat.lt_of_le_of_lt (show w + w ≤ 65536 by omega) (by decide)
  refine ⟨ok_nmul ha.ok hc.ok, ok_nmul hb.ok hc.ok, ?_, ?_, ?_, ?_⟩
  · exact ((ha.mul hc).sm w60 (by decide)).mono (by decide)
  · exact ((hb.mul hc).sm w60 (by decide)).mono (by decide)
  · rw [ndiv_nmul]; exact h.2.2.2.2.1
  · rw [ndiv_nmul]; exact h.2.2.2.2.2
/-! ### how many primes a near fraction has -/
theorem nodup_sub {xs ys : List Nat} (h : xs.Nodup) (hs : ∀ x ∈ xs, x ∈ ys) : xs.length ≤ ys.length := by
  induction xs generalizing ys with
  | nil => exact Nat.zero_le _
  | cons x xs ih =>
    obtain ⟨h1, h2⟩ := List.nodup_cons.mp h
    have hx := hs x List.mem_cons_self
    have := ih (ys := ys.erase x) h2 fun y hy => by
      have hy2 := hs y (List.mem_cons_of_mem _ hy)
      have ne : y ≠ x := fun e => h1 (e ▸ hy)
      exact (List.mem_erase_of_ne ne).mpr hy2
    rw [List.length_erase_of_mem hx] at this
    have := List.length_pos_of_mem hx
    rw [List.length_cons]
    omega
theorem five_big {L : List (Nat × Nat)} (ha : L.Pairwise fun a b => a.1 < b.1) (ho : ∀ x ∈ L, 3 ≤ x.1 ∧ x.1 % 2 = 1 ∧ x.1 ≠ 5 ∧ 1 ≤ x.2) (h5 : 5 ≤ L.length) : 27027 ≤ prodL L := by
  match L, ha, ho, h5 with
  | a :: b :: c :: d :: e :: r, ha, ho, _ =>
    have pw := List.pairwise_cons.mp ha
    have pw2 := List.pairwise_cons.mp pw.2
    have pw3 := List.pairwise_cons.mp pw2.2
    have pw4 := List.pairwise_cons.mp pw3.2
    have l1 := pw.1 b (by simp)
    have l2 := pw2.1 c (by simp)
    have l3 := pw3.1 d (by simp)
    have l4 := pw4.1 e (by simp)
    have oa := ho a (by simp)
    have ob := ho b (by simp)
    have oc := ho c (by simp)
    have od := ho d (by simp)
    have oe := ho e (by simp)
    have up : ∀ {x : Nat × Nat} {k : Nat}, 3 ≤ x.1 → 1 ≤ x.2 → k ≤ x.1 → k ≤ x.1 ^ x.2 := fun {x k} h1 h2 h3 => Nat.le_trans h3 (by
      have := Nat.pow_le_pow_right (show 0 < x.1 by omega) h2
      rwa [Nat.pow_one] at this)
    have pr : 1 ≤ prodL r := by
      have : ∀ {M : List (Nat × Nat)}, (∀ x ∈ M, 1 ≤ x.1) → 1 ≤ prodL M := by
        intro M
        induction M with
        | nil => intro _; exact Nat.le_refl _
        | cons x s ih =>
          intro h
          exact Nat.mul_pos (Nat.pow_pos (h x List.mem_cons_self)) (ih fun y hy => h y (List.mem_cons_of_mem _ hy))
      exact this fun x hx => by have := ho x (by simp [hx]); omega
    have h1 := up oa.1 oa.2.2.2 oa.1
    have h2 : 7 ≤ b.1 ^ b.2 := up ob.1 ob.2.2.2 (by omega)
    have h3 : 9 ≤ c.1 ^ c.2 := up oc.1 oc.2.2.2 (by omega)
    have h4 : 11 ≤ d.1 ^ d.2 := up od.1 od.2.2.2 (by omega)
    have h5 : 13 ≤ e.1 ^ e.2 := up oe.1 oe.2.2.2 (by omega)
    show 27027 ≤ a.1 ^ a.2 * (b.1 ^ b.2 * (c.1 ^ c.2 * (d.1 ^ d.2 * (e.1 ^ e.2 * prodL r))))
    have m1 : 13 * 1 ≤ e.1 ^ e.2 * prodL r := Nat.mul_le_mul h5 pr
    have m2 : 11 * (13 * 1) ≤ d.1 ^ d.2 * (e.1 ^ e.2 * prodL r) := Nat.mul_le_mul h4 m1
    have m3 : 9 * (11 * (13 * 1)) ≤ c.1 ^ c.2 * (d.1 ^ d.2 * (e.1 ^ e.2 * prodL r)) := Nat.mul_le_mul h3 m2
    have m4 : 7 * (9 * (11 * (13 * 1))) ≤ b.1 ^ b.2 * (c.1 ^ c.2 * (d.1 ^ d.2 * (e.1 ^ e.2 * prodL r))) := Nat.mul_le_mul h2 m3
    have m5 : 3 * (7 * (9 * (11 * (13 * 1)))) ≤ a.1 ^ a.2 * (b.1 ^ b.2 * (c.1 ^ c.2 * (d.1 ^ d.2 * (e.1 ^ e.2 * prodL r)))) := Nat.mul_le_mul h1 m4
    omega
theorem mult_mem {L : List (Nat × Nat)} {p : Nat} (h : mult L p ≠ 0) : ∃ x ∈ L, x.1 = p := by
  induction L with
  | nil => exact absurd rfl h
  | cons x r ih =>
    by_cases e : x.1 = p
    · exact ⟨x, List.mem_cons_self, e⟩
    · have h : (if x.1 = p then x.2 else 0) + mult r p ≠ 0 := h
      rw [if_neg e, Nat.zero_add] at h
      obtain ⟨y, hy, e⟩ := ih h
      exact ⟨y, List.mem_cons_of_mem _ hy, e⟩
theorem mem_dvd {L : List (Nat × Nat)} {y : Nat × Nat} (h : y ∈ L) (h1 : 1 ≤ y.2) : y.1 ∣ prodL L := by
  induction L with
  | nil => cases h
  | cons z s ih =>
    rcases List.mem_cons.mp h with rfl | h
    · exact head_dvd h1
    · exact Nat.dvd_trans (ih h) ⟨z.1 ^ z.2, Nat.mul_comm _ _⟩
theorem filter_prod {L : List (Nat × Nat)} (f : Nat × Nat → Bool) (h : ∀ x ∈ L, 1 ≤ x.1) : prodL (L.filter f) ≤ prodL L := by
  induction L with
  | nil => exact Nat.le_refl _
  | cons x r ih =>
    have hr := ih fun y hy => h y (List.mem_cons_of_mem _ hy)
    have hx : 1 ≤ x.1 ^ x.2 := Nat.pow_pos (h x List.mem_cons_self)
    rw [List.filter_cons]
    split
    · exact Nat.mul_le_mul_left _ hr
    · refine Nat.le_trans hr ?_
      show prodL r ≤ x.1 ^ x.2 * prodL r
      exact Nat.le_mul_of_pos_left _ hx
theorem pr2 : Pr 2 := ⟨by decide, by decide +kernel⟩
theorem pr5 : Pr 5 := ⟨by decide, by decide +kernel⟩
theorem nfrac_few {t k : Nat} (t1 : 1 ≤ t) (t2 : t ≤ 4000) (k3 : k ≤ 3) : (nfrac t (10 ^ k)).length ≤ 6 := by
  have ht := fac_is t1
  have l1 : 1 ≤ 10 ^ k := Nat.pow_pos (by decide)
  have hl := fac_is l1
  have hc : Can (nfrac t (10 ^ k)) := can_canE _
  let S := (fac t).filter fun x => decide (x.1 ≠ 2 ∧ x.1 ≠ 5)
  have hS : S.length ≤ 4 := by
    by_cases z : S.length ≤ 4
    · exact z
    · have b := five_big (L := S) (ht.asc.filter _) (fun x hx => by
        obtain ⟨hm, hf⟩ := List.mem_filter.mp hx
        have hf := of_decide_eq_true hf
        obtain ⟨hp, h1⟩ := ht.pr x hm
        have p2 := hp.1
        refine ⟨by omega, ?_, hf.2, h1⟩
        rcases Nat.mod_two_eq_zero_or_one x.1 with e | e
        · rcases pr_dvd hp (Nat.dvd_of_mod_eq_zero e) with z | z
          · exact absurd z (by decide)
          · exact absurd z.symm hf.1
        · exact e) (by omega)
      have c := filter_prod (L := fac t) (fun x => decide (x.1 ≠ 2 ∧ x.1 ≠ 5)) (fun x hx => by have := (ht.pr x hx).1.1; omega)
      rw [ht.prod] at c
      have b : 27027 ≤ prodL ((fac t).filter fun x => decide (x.1 ≠ 2 ∧ x.1 ≠ 5)) := b
      omega
  have key := nodup_sub (xs := (nfrac t (10 ^ k)).map (·.1)) (ys := 2 :: 5 :: S.map (·.1)) (List.pairwise_map.mpr (hc.asc.imp fun {a b} q => Nat.ne_of_lt q)) fun p hp => by
    obtain ⟨x, hx, rfl⟩ := List.mem_map.mp hp
    obtain ⟨w1, w2⟩ := hc.w x hx
    have e := ev_mem hc.asc hx
    rw [ev_nfrac (Nat.lt_succ_of_le w1)] at e
    by_cases p25 : x.1 = 2 ∨ x.1 = 5
    · rcases p25 with h | h
      · rw [h]; exact List.mem_cons_self
      · rw [h]; exact List.mem_cons_of_mem _ List.mem_cons_self
    · refine List.mem_cons_of_mem _ (List.mem_cons_of_mem _ ?_)
      by_cases m1 : mult (fac t) x.1 = 0
      · by_cases m2 : mult (fac (10 ^ k)) x.1 = 0
        · rw [m1, m2] at e
          exact absurd e.symm w2
        · exfalso
          obtain ⟨y, hy, ey⟩ := mult_mem m2
          obtain ⟨py, y1⟩ := hl.pr y hy
          have d := mem_dvd hy y1
          rw [hl.prod] at d
          have e10 : prodL [(2, k), (5, k)] = 10 ^ k := by
            show 2 ^ k * (5 ^ k * 1) = 10 ^ k
            rw [Nat.mul_one, ← Nat.mul_pow]
          rw [← e10] at d
          obtain ⟨m, hm⟩ := dvd_prodL py (L := [(2, k), (5, k)]) (fun x hx => by
            rcases List.mem_cons.mp hx with rfl | hx
            · exact pr2
            · rw [List.mem_singleton.mp hx]; exact pr5) d
          rcases List.mem_cons.mp hm with h | h
          · have := congrArg Prod.fst h
            exact p25 (.inl (ey ▸ this))
          · have := congrArg Prod.fst (List.mem_singleton.mp h)
            exact p25 (.inr (ey ▸ this))
      · obtain ⟨y, hy, ey⟩ := mult_mem m1
        exact List.mem_map.mpr ⟨y, List.mem_filter.mpr ⟨hy, by rw [ey]; exact decide_eq_true ⟨fun z => p25 (.inl z), fun z => p25 (.inr z)⟩⟩, ey⟩
  rw [List.length_map, List.length_cons, List.length_cons, List.length_map] at key
  omega
/-! ### promises of law k02 -/
theorem sm_inv {b : Num} {k : Nat} (h : Can b) (s : SmN k b) : SmN k (npow b (-1)) := by
  rw [← pow_eq h (by decide)]
  intro x hx
  obtain ⟨y, hy, rfl⟩ := List.mem_map.mp hx
  have := s y hy
  have e : y.2 * (-1 : Rat) = -y.2 := by grind
  show Sm k (y.2 * (-1 : Rat))
  rw [e]
  exact ⟨by rw [Rat.neg_num, Int.natAbs_neg]; exact this.1, by rw [Rat.neg_den]; exact this.2⟩
theorem nmul_npow_neg (a b : Num) : nmul a (npow b (-1)) = ndiv a b := canE_congr fun p hp => by
  unfold npow
  rw [ev_canE hp]
  grind
def rLOver (ds : List PyData) (d : PyData) : Prop := ∃ a b, ds = [eN a, eN b] ∧ Can a ∧ Can b ∧ SmN 1900 a ∧ SmN 1900 b ∧ d = eN (ndiv a b)
abbrev spLOver (K : PySem.W.Frag) : Sp := spR K 2 rLOver
theorem npow_len {n : Num} {q : Rat} (h : Can n) (hq : q ≠ 0) : (npow n q).length = n.length := by
  rw [← pow_eq h hq, List.length_map]
theorem over_data {l : Nat} (h : l = 2 ∨ l = 3) : PyData.tuple [.int 1, .int l] = eF (mkRat 1 l) := by
  rcases h with rfl | rfl
  · exact frac_of (a := 1) (b := 2) (by decide +kernel)
  · exact frac_of (a := 1) (b := 3) (by decide +kernel)
theorem over_tw {l : Nat} (h : l = 2 ∨ l = 3) : Tw 144 (mkRat 1 l) ∧ Sm 8 (mkRat 1 l) ∧ mkRat 1 l ≠ 0 := by
  rcases h with rfl | rfl
  · exact ⟨(tw_mk (t := 1) (l := 2) (c := 6) (b := 6) rfl (by decide)).mono (by decide), mk_sm (by decide) (by decide) (by decide), mk_ne (by decide) (by decide)⟩
  · exact ⟨(tw_mk (t := 1) (l := 3) (c := 4) (b := 4) rfl (by decide)).mono (by decide), mk_sm (by decide) (by decide) (by decide), mk_ne (by decide) (by decide)⟩
def NumW (w : Nat) (d : PyData) : Prop := ∃ n, TwN w n ∧ d = eN n
def NearR (d : PyData) : Prop := ∃ es, d = .list es ∧ ∃ r f g : Num, es = [eN r, eN f, eN g] ∧ TwN 15600 r ∧ TwN 15600 f ∧ TwN 15600 g ∧ r.length ≤ 6 ∧ f.length ≤ 6
abbrev spNear (K : PySem.W.Frag) : Sp := spP K 0 3 (fun _ => True) (fun _ d => NearR d)
def rIsRight (ds : List PyData) (d : PyData) : Prop := ∃ a b, ds = [eN a, eN b] ∧ TwN 15600 a ∧ TwN 15600 b ∧ d = .bool true
abbrev spIsRight (K : PySem.W.Frag) : Sp := spR K 2 rIsRight
theorem near_count {w S l : Nat} (hw : 1 ≤ w) (hS : 1 ≤ S) (f : Nat → Bool) (hf : ∀ x, f x = decide (x ^ l ≤ w * S ^ l)) : 1 ≤ (((List.range (4 * S - 1)).map (1 + ·)).filter f).length ∧ (((List.range (4 * S - 1)).map (1 + ·)).filter f).length ≤ 4 * S - 1 := by
  constructor
  · refine List.length_pos_of_mem (a := 1) (List.mem_filter.mpr ⟨List.mem_map.mpr ⟨0, List.mem_range.mpr (by omega), rfl⟩, ?_⟩)
    rw [hf]
    refine decide_eq_true ?_
    rw [Nat.one_pow]
    exact Nat.mul_pos hw (Nat.pow_pos hS)
  · have := List.length_filter_le f ((List.range (4 * S - 1)).map (1 + ·))
    rwa [List.length_map, List.length_range] at this
theorem fac_of {n : Nat} {L : List (Nat × Nat)} (h1 : 1 ≤ n) (ha : L.Pairwise fun a b => a.1 < b.1) (hp : ∀ x ∈ L, Pr x.1 ∧ 1 ≤ x.2) (e : prodL L = n) : fac n = L := (fac_eq h1 ⟨ha, hp, e⟩).symm
theorem pr7 : Pr 7 := ⟨by decide, by decide +kernel⟩
theorem near71 : nfrac 7 14 = nfrac 1 2 := by
  have f1 : fac 1 = [] := fac_of (by decide) .nil (fun x h => by cases h) rfl
  have f2 : fac 2 = [(2, 1)] := fac_of (by decide) (List.pairwise_singleton _ _) (fun x h => by rw [List.mem_singleton.mp h]; exact ⟨pr2, by decide⟩) rfl
  have f7 : fac 7 = [(7, 1)] := fac_of (by decide) (List.pairwise_singleton _ _) (fun x h => by rw [List.mem_singleton.mp h]; exact ⟨pr7, by decide⟩) rfl
  have f14 : fac 14 = [(2, 1), (7, 1)] := fac_of (by decide) (by decide) (fun x h => by
    rcases List.mem_cons.mp h with rfl | h
    · exact ⟨pr2, by decide⟩
    · rw [List.mem_singleton.mp h]; exact ⟨pr7, by decide⟩) rfl
  refine can_ext (can_canE _).asc (can_canE _).asc (fun x hx => ((can_canE _).w x hx).2) (fun x hx => ((can_canE _).w x hx).2) fun p => ?_
  by_cases hp : p < 10000
  · show ev (nfrac 7 14) p = ev (nfrac 1 2) p
    rw [ev_nfrac hp, ev_nfrac hp, f1, f2, f7, f14]
    congr 1
    simp only [mult]
    omega
  · rw [ev_big (n := nfrac 7 14) (can_canE _) (by omega), ev_big (n := nfrac 1 2) (can_canE _) (by omega)]
section
variable {K : PySem.W.Frag} {σ : L2.St} {H H0 : Hp} {ta te : TE} {p : Addr} {m n : Nat} {D : Ends} {tz : TS}
theorem q_asg2G {i j : Nat} {ta : TA} {R1 R2' : PyData → Prop} (hp : PotAt p m H) (h : EGA K p ta σ H m n (fun ds => ∃ d es, ds = d :: es ∧ R1 d ∧ ∃ d' es', es = d' :: es' ∧ R2' d' ∧ es' = []))
    (kk : ∀ a b d1 d2 H1, Go p H H1 → PotAt p n H1 → R1 d1 → R2' d2 → Dq K H1 a d1 → Dq K H1 b d2 → tz D ((σ.set i (some a)).set j (some b)) H1) : tSeq (tAsg (tTupF ta) (gTup K 2 (gCons (gName i) (gCons (gName j) gNil)))) tz D σ H :=
  h H (Go.refl H) hp _ fun vs H1 ds g1 hp1 hd hv => by
    obtain ⟨d1, _, rfl, r1, d2, _, rfl, r2, rfl⟩ := hd
    obtain ⟨a, b, rfl, h1, h2⟩ := dpa2 hv
    refine ⟨sz_of (show 2 ≤ 100000 by decide), fun q o hq ho => ?_⟩
    exact ⟨_, _, rfl, (plt_new ho).sq, rfl, _, _, rfl, _, _, rfl, rfl, kk a b d1 d2 _ (g1.trans (exgo (Ex.new hq))) (hp1.ex (Ex.new hq)) r1 r2 (Dq_ex h1 (Ex.new hq)) (Dq_ex h2 (Ex.new hq))⟩
end
theorem numw_list {w : Nat} : ∀ {ds : List PyData}, (∀ d ∈ ds, NumW w d) → ∃ A : List Num, ds = A.map eN ∧ ∀ n ∈ A, TwN w n
  | [], _ => ⟨[], rfl, fun x h => by cases h⟩
  | d :: ds, h => by
    obtain ⟨n, h1, e⟩ := h d List.mem_cons_self
    obtain ⟨A, e2, h3⟩ := numw_list (ds := ds) fun y hy => h y (List.mem_cons_of_mem _ hy)
    refine ⟨n :: A, by rw [e, e2]; rfl, fun y hy => ?_⟩
    rcases List.mem_cons.mp hy with rfl | hy
    · exact h1
    · exact h3 y hy
theorem nil_nmul {n : Num} (h : Can n) : nmul [] n = n := by
  unfold nmul
  refine (can_eq h fun p hp => ?_).symm
  show ev n p = 0 + ev n p
  grind
/-- the text of one fraction -/
theorem one_txt {t l : Nat} (h1 : 1 ≤ t) (h2 : t ≤ 9999) (h3 : 1 ≤ l) (h4 : l ≤ 9999) : TxtOk (decI t ++ sSl ++ decI l) ∧ numF [] (Txt.split (decI t ++ sSl ++ decI l) sSt) = some (nfrac t l) := by
  have f : Fts 1 [(decI t ++ sSl ++ decI l, nfrac t l)] := ⟨(fun z => by cases z), Nat.le_refl _, (fun x hx => by
    rw [List.mem_singleton.mp hx]
    exact ftx_over h1 h2 h3 h4)⟩
  have e : ftText [(decI t ++ sSl ++ decI l, nfrac t l)] = decI t ++ sSl ++ decI l := by
    unfold ftText
    rw [join_eq]
    rfl
  have a := f.txt (by decide)
  have b := f.num
  rw [e] at a b
  refine ⟨a, ?_⟩
  rw [b]
  show some (nmul [] (nfrac t l)) = _
  rw [nil_nmul (nfrac_ok h1 h2 h3 h4).can]
/-- the powers that are drawn at last -/
def PowL (d : PyData) : Prop := ∃ q : Rat, d = eF q ∧ 0 < q.num ∧ q.num.natAbs ≤ 2 ∧ Sm 8 q
theorem powl_mk {t l : Nat} (h : PyData.tuple [.int t, .int l] = eF (mkRat t l)) (h1 : 0 < (mkRat t l).num) (h2 : (mkRat t l).num.natAbs ≤ 2) (h3 : Sm 8 (mkRat t l)) : PowL (.tuple [.int t, .int l]) := ⟨_, h, h1, h2, h3⟩
theorem powl_all {d : PyData} (h : d ∈ [PyData.tuple [.int 1, .int 2], .tuple [.int 2, .int 1], .tuple [.int 1, .int 3]]) : PowL d := by
  simp only [List.mem_cons, List.not_mem_nil, or_false] at h
  rcases h with rfl | rfl | rfl
  · exact powl_mk (t := 1) (l := 2) (frac_of (by decide +kernel)) (by decide +kernel) (by decide +kernel) (mk_sm (by decide) (by decide) (by decide))
  · exact powl_mk (t := 2) (l := 1) (frac_of (by decide +kernel)) (by decide +kernel) (by decide +kernel) (mk_sm (by decide) (by decide) (by decide))
  · exact powl_mk (t := 1) (l := 3) (frac_of (by decide +kernel)) (by decide +kernel) (by decide +kernel) (mk_sm (by decide) (by decide) (by decide))
theorem neg_data (q : Rat) : PyData.tuple [.int (-q.num), .int q.den] = eF (-q) := by
  unfold eF
  rw [Rat.neg_num, Rat.neg_den]
theorem sm_neg {q : Rat} {k : Nat} (h : Sm k q) : Sm k (-q) := ⟨by rw [Rat.neg_num, Int.natAbs_neg]; exact h.1, by rw [Rat.neg_den]; exact h.2⟩
/-- what is left of the drawn ones -/
theorem left_two {A : List Num} {r f : Num} {B : List Num} (hr : r.length ≤ 6) (hf : f.length ≤ 6) : ∃ m0 m1 R, ((A ++ r :: f :: B).filter fun n => decide (n.length < 7)) = m0 :: m1 :: R := by
  have e1 : decide (r.length < 7) = true := decide_eq_true (by omega)
  have e2 : decide (f.length < 7) = true := decide_eq_true (by omega)
  rw [List.filter_append, List.filter_cons, List.filter_cons, e1, e2]
  simp only [if_true]
  cases A.filter fun n => decide (n.length < 7) with
  | nil => exact ⟨_, _, _, rfl⟩
  | cons x s =>
    cases s with
    | nil => exact ⟨_, _, _, rfl⟩
    | cons y t => exact ⟨_, _, _, rfl⟩
end My

namespace My
open PySem PySem.Spec PyProof.Rows L2 Evl
/-! ### logarithms to the base 2, plain -/
theorem bl_le_of {n k : Nat} (h : n < 2 ^ k) : bl n ≤ k := intBits_le (a := (n : Int)) (k := k) h
theorem pow_bl {n : Nat} (h : 1 ≤ n) : 2 ^ (bl n - 1) ≤ n := bl_le h
def lgCut (b : Nat) : Nat := bl (b * b) - 138
def lgStep (s : Nat × Nat × Nat) : Nat × Nat × Nat := (s.1 * s.1 / 2 ^ lgCut s.2.1, s.2.1 * s.2.1 / 2 ^ lgCut s.2.1 + (if 0 < lgCut s.2.1 then 1 else 0), 2 * s.2.2 + lgCut s.2.1)
def lgN (b : Nat) : Nat → Nat × Nat × Nat
  | 0 => (b, b, 0)
  | j + 1 => lgStep (lgN b j)
def mM : Nat := 2 ^ 135
theorem mM_pos : 0 < mM := by decide +kernel
structure LgI (b j : Nat) (s : Nat × Nat × Nat) : Prop where
  one : 1 ≤ s.1
  lt : s.2.1 < 2 ^ 139
  lo : s.1 * 2 ^ s.2.2 ≤ b ^ 2 ^ j
  hi : b ^ 2 ^ j ≤ s.2.1 * 2 ^ s.2.2
  near : s.2.1 * mM ≤ s.1 * (mM + (4 ^ j - 1))
theorem lg_start {b : Nat} (h1 : 1 ≤ b) (h2 : b ≤ 9999) : LgI b 0 (b, b, 0) where
  one := h1
  lt := Nat.lt_of_le_of_lt h2 (by decide)
  lo := by show b * 2 ^ 0 ≤ b ^ 2 ^ 0; rw [Nat.pow_zero, Nat.pow_one, Nat.mul_one]; exact Nat.le_refl _
  hi := by show b ^ 2 ^ 0 ≤ b * 2 ^ 0; rw [Nat.pow_zero, Nat.pow_one, Nat.mul_one]; exact Nat.le_refl _
  near := by rw [Nat.pow_zero]; exact Nat.le_refl _
/-- near ones, squared -/
theorem near_sq {a o c M : Nat} (hc : c ≤ M) (h : o * M ≤ a * (M + c)) : o * o * M ≤ a * a * (M + (4 * c + 3)) ∨ M = 0 := by
  rcases Nat.eq_zero_or_pos M with z | hM
  · exact .inr z
  refine .inl ?_
  have h2 : (o * M) * (o * M) ≤ (a * (M + c)) * (a * (M + c)) := Nat.mul_le_mul h h
  have h3 : (M + c) * (M + c) ≤ M * (M + (4 * c + 3)) := by
    have : c * c ≤ M * c := Nat.mul_le_mul_right _ hc
    have e1 : (M + c) * (M + c) = M * M + 2 * (M * c) + c * c := by grind
    have e2 : M * (M + (4 * c + 3)) = M * M + 4 * (M * c) + 3 * M := by grind
    omega
  have h4 : (a * (M + c)) * (a * (M + c)) ≤ (a * a) * (M * (M + (4 * c + 3))) := by
    have : (a * (M + c)) * (a * (M + c)) = (a * a) * ((M + c) * (M + c)) := by grind
    rw [this]
    exact Nat.mul_le_mul_left _ h3
  have h5 : M * (o * o * M) ≤ M * (a * a * (M + (4 * c + 3))) := by
    have e1 : M * (o * o * M) = (o * M) * (o * M) := by grind
    have e2 : M * (a * a * (M + (4 * c + 3))) = (a * a) * (M * (M + (4 * c + 3))) := by grind
    omega
  exact Nat.le_of_mul_le_mul_left h5 hM
theorem near_cut {a o c M k : Nat} (hM : 0 < M) (hc : 4 * c + 3 ≤ M) (h : o * M ≤ a * (M + c)) (hk : 2 ^ k * (4 * M) ≤ o * o) :
    1 ≤ a * a / 2 ^ k ∧ (o * o / 2 ^ k + 1) * M ≤ (a * a / 2 ^ k) * (M + (4 * c + 3)) := by
  have K0 : 0 < 2 ^ k := Nat.pow_pos (by decide)
  generalize 2 ^ k = P at hk K0 ⊢
  -- a * a is at least P * M
  have h2 : (o * M) * (o * M) ≤ (a * (M + c)) * (a * (M + c)) := Nat.mul_le_mul h h
  have ha : P * M ≤ a * a := by
    have h3 : (M + c) * (M + c) ≤ 4 * (M * M) := by
      have : (M + c) * (M + c) ≤ (2 * M) * (2 * M) := Nat.mul_le_mul (by omega) (by omega)
      have e : (2 * M) * (2 * M) = 4 * (M * M) := by grind
      omega
    have h4 : (P * (4 * M)) * (M * M) ≤ (a * a) * (4 * (M * M)) := by
      have e1 : (o * M) * (o * M) = (o * o) * (M * M) := by grind
      have e2 : (a * (M + c)) * (a * (M + c)) = (a * a) * ((M + c) * (M + c)) := by grind
      have l1 : (P * (4 * M)) * (M * M) ≤ (o * o) * (M * M) := Nat.mul_le_mul_right _ hk
      have l2 : (a * a) * ((M + c) * (M + c)) ≤ (a * a) * (4 * (M * M)) := Nat.mul_le_mul_left _ h3
      omega
    have e : (P * (4 * M)) * (M * M) = (4 * (M * M)) * (P * M) := by grind
    have e2 : (a * a) * (4 * (M * M)) = (4 * (M * M)) * (a * a) := by grind
    rw [e, e2] at h4
    exact Nat.le_of_mul_le_mul_left h4 (by have := Nat.mul_pos hM hM; omega)
  have hP : P ≤ a * a := Nat.le_trans (Nat.le_mul_of_pos_right _ hM) ha
  refine ⟨(Nat.one_le_div_iff K0).mpr hP, ?_⟩
  -- multiplied by P and M
  have q1 : o * o / P * P ≤ o * o := Nat.div_mul_le_self _ _
  have q2 : a * a < (a * a / P + 1) * P := by rw [Nat.mul_comm (a * a / P + 1)]; exact Nat.lt_mul_div_succ _ K0
  generalize o * o / P = x at q1 ⊢
  generalize hy : a * a / P = y at q2 ⊢
  have key : ((x + 1) * M) * (P * M) ≤ (y * (M + (4 * c + 3))) * (P * M) := by
    -- left: at most (o o + P) M M
    have l1 : ((x + 1) * M) * (P * M) ≤ (o * o + P) * (M * M) := by
      have e : ((x + 1) * M) * (P * M) = (x * P + P) * (M * M) := by grind
      rw [e]
      exact Nat.mul_le_mul_right _ (by omega)
    have e0 : (o * M) * (o * M) = (o * o) * (M * M) := by grind
    have l2 : (o * o + P) * (M * M) ≤ (a * (M + c)) * (a * (M + c)) + P * (M * M) := by
      rw [Nat.add_mul]
      omega
    -- right: at least (a a - P) (M + 4 c + 3) M
    have r1 : (a * a) * ((M + (4 * c + 3)) * M) ≤ (y * (M + (4 * c + 3))) * (P * M) + P * ((M + (4 * c + 3)) * M) := by
      have e : (y * (M + (4 * c + 3))) * (P * M) + P * ((M + (4 * c + 3)) * M) = ((y + 1) * P) * ((M + (4 * c + 3)) * M) := by grind
      rw [e]
      exact Nat.mul_le_mul_right _ (Nat.le_of_lt q2)
    have e3 : (a * (M + c)) * (a * (M + c)) = (a * a) * (M * M + 2 * (M * c) + c * c) := by grind
    have e4 : (a * a) * ((M + (4 * c + 3)) * M) = (a * a) * (M * M + 4 * (M * c) + 3 * M) := by grind
    have e5 : P * ((M + (4 * c + 3)) * M) ≤ 2 * (P * (M * M)) := by
      have : (M + (4 * c + 3)) * M ≤ (2 * M) * M := Nat.mul_le_mul_right _ (by omega)
      have := Nat.mul_le_mul_left P this
      have e : P * ((2 * M) * M) = 2 * (P * (M * M)) := by grind
      omega
    have e6 : 3 * (P * (M * M)) ≤ (a * a) * (3 * M) := by
      have := Nat.mul_le_mul_right (3 * M) ha
      have e : P * M * (3 * M) = 3 * (P * (M * M)) := by grind
      omega
    have e7 : (a * a) * (c * c) ≤ (a * a) * (M * c) := Nat.mul_le_mul_left _ (Nat.mul_le_mul_right _ (by omega))
    have f1 : (a * a) * (M * M + 2 * (M * c) + c * c) = (a * a) * (M * M) + 2 * ((a * a) * (M * c)) + (a * a) * (c * c) := by grind
    have f2 : (a * a) * (M * M + 4 * (M * c) + 3 * M) = (a * a) * (M * M) + 4 * ((a * a) * (M * c)) + (a * a) * (3 * M) := by grind
    omega
  exact Nat.le_of_mul_le_mul_right key (Nat.mul_pos K0 hM)
theorem pow_two_step (b j : Nat) : b ^ 2 ^ (j + 1) = b ^ 2 ^ j * b ^ 2 ^ j := by
  rw [Nat.pow_succ, Nat.mul_two, Nat.pow_add]
theorem four_step (j : Nat) : 4 ^ (j + 1) - 1 = 4 * (4 ^ j - 1) + 3 := by
  have : 0 < 4 ^ j := Nat.pow_pos (by decide)
  rw [Nat.pow_succ]
  omega
theorem lg_step {b j : Nat} {s : Nat × Nat × Nat} (hj : j < 66) (h : LgI b j s) : LgI b (j + 1) (lgStep s) := by
  obtain ⟨a, o, m⟩ := s
  obtain ⟨h1, h2, h3, h4, h5⟩ := h
  have h1 : 1 ≤ a := h1
  have h2 : o < 2 ^ 139 := h2
  have h3 : a * 2 ^ m ≤ b ^ 2 ^ j := h3
  have h4 : b ^ 2 ^ j ≤ o * 2 ^ m := h4
  have h5 : o * mM ≤ a * (mM + (4 ^ j - 1)) := h5
  have c4 : 4 * (4 ^ j - 1) + 3 ≤ mM := by
    rw [← four_step]
    have : 4 ^ (j + 1) ≤ 4 ^ 66 := Nat.pow_le_pow_right (by decide) (by omega)
    have : 4 ^ 66 ≤ mM := by decide +kernel
    omega
  have h3' : a * a * 2 ^ (2 * m) ≤ b ^ 2 ^ (j + 1) := by
    rw [pow_two_step]
    have := Nat.mul_le_mul h3 h3
    have e : a * 2 ^ m * (a * 2 ^ m) = a * a * 2 ^ (2 * m) := by rw [Nat.two_mul, Nat.pow_add]; grind
    omega
  have h4' : b ^ 2 ^ (j + 1) ≤ o * o * 2 ^ (2 * m) := by
    rw [pow_two_step]
    have := Nat.mul_le_mul h4 h4
    have e : o * 2 ^ m * (o * 2 ^ m) = o * o * 2 ^ (2 * m) := by rw [Nat.two_mul, Nat.pow_add]; grind
    omega
  have hcut : o * o / 2 ^ lgCut o < 2 ^ 138 := by
    rw [Nat.div_lt_iff_lt_mul (Nat.pow_pos (by decide)), ← Nat.pow_add]
    refine Nat.lt_of_lt_of_le (lt_bl _) (Nat.pow_le_pow_right (by decide) ?_)
    unfold lgCut
    omega
  have h40 : 2 ^ 138 + 1 < 2 ^ 139 := by decide +kernel
  have hsum : (2 : Nat) ^ (2 * m + lgCut o) = 2 ^ lgCut o * 2 ^ (2 * m) := by rw [Nat.add_comm, Nat.pow_add]
  have hlo : a * a / 2 ^ lgCut o * 2 ^ (2 * m + lgCut o) ≤ b ^ 2 ^ (j + 1) := by
    refine Nat.le_trans ?_ h3'
    rw [hsum, ← Nat.mul_assoc]
    exact Nat.mul_le_mul_right _ (Nat.div_mul_le_self _ _)
  by_cases hk : 0 < lgCut o
  · obtain ⟨n1, n2⟩ := near_cut (k := lgCut o) mM_pos c4 h5 (by
      have e : (2 : Nat) ^ lgCut o * (4 * mM) = 2 ^ (lgCut o + 137) := by
        have : 4 * mM = 2 ^ 137 := by decide +kernel
        rw [this, ← Nat.pow_add]
      rw [e]
      have : lgCut o + 137 = bl (o * o) - 1 := by unfold lgCut at hk ⊢; omega
      rw [this]
      refine pow_bl ?_
      rcases Nat.eq_zero_or_pos (o * o) with z | z
      · unfold lgCut at hk
        rw [z] at hk
        have : bl 0 = 0 := by decide
        omega
      · exact z)
    refine ⟨n1, ?_, hlo, ?_, ?_⟩
    · show o * o / 2 ^ lgCut o + (if 0 < lgCut o then 1 else 0) < 2 ^ 139
      rw [if_pos hk]
      omega
    · show b ^ 2 ^ (j + 1) ≤ (o * o / 2 ^ lgCut o + (if 0 < lgCut o then 1 else 0)) * 2 ^ (2 * m + lgCut o)
      rw [if_pos hk, hsum, ← Nat.mul_assoc]
      refine Nat.le_trans h4' (Nat.mul_le_mul_right _ ?_)
      rw [Nat.mul_comm (o * o / 2 ^ lgCut o + 1)]
      exact Nat.le_of_lt (Nat.lt_mul_div_succ _ (Nat.pow_pos (show 0 < 2 by decide)))
    · show (o * o / 2 ^ lgCut o + (if 0 < lgCut o then 1 else 0)) * mM ≤ a * a / 2 ^ lgCut o * (mM + (4 ^ (j + 1) - 1))
      rw [if_pos hk, four_step]
      exact n2
  · have z : lgCut o = 0 := by omega
    have e1 : ∀ x : Nat, x / 2 ^ 0 = x := fun x => by rw [Nat.pow_zero, Nat.div_one]
    rw [z, e1] at hlo hcut
    refine ⟨?_, ?_, ?_, ?_, ?_⟩
    · show 1 ≤ a * a / 2 ^ lgCut o
      rw [z, e1]
      exact Nat.mul_pos h1 h1
    · show o * o / 2 ^ lgCut o + (if 0 < lgCut o then 1 else 0) < 2 ^ 139
      rw [if_neg hk, z, e1]
      omega
    · show a * a / 2 ^ lgCut o * 2 ^ (2 * m + lgCut o) ≤ b ^ 2 ^ (j + 1)
      rw [z, e1]
      exact hlo
    · show b ^ 2 ^ (j + 1) ≤ (o * o / 2 ^ lgCut o + (if 0 < lgCut o then 1 else 0)) * 2 ^ (2 * m + lgCut o)
      rw [if_neg hk, z, e1]
      exact h4'
    · show (o * o / 2 ^ lgCut o + (if 0 < lgCut o then 1 else 0)) * mM ≤ a * a / 2 ^ lgCut o * (mM + (4 ^ (j + 1) - 1))
      rw [if_neg hk, z, e1, e1, four_step]
      rcases near_sq (show 4 ^ j - 1 ≤ mM by omega) h5 with h | h
      · exact h
      · exact absurd h (by have := mM_pos; omega)
theorem lg_inv {b : Nat} (h1 : 1 ≤ b) (h2 : b ≤ 9999) : ∀ j, j ≤ 66 → LgI b j (lgN b j)
  | 0, _ => lg_start h1 h2
  | j + 1, h => lg_step (by omega) (lg_inv h1 h2 j (by omega))
def lgLo (b j : Nat) : Nat := (lgN b j).2.2 + bl (lgN b j).1 - 1
def lgHi (b j : Nat) : Nat := (lgN b j).2.2 + bl (lgN b j).2.1
theorem lg_lo {b j : Nat} (h1 : 1 ≤ b) (h2 : b ≤ 9999) (hj : j ≤ 66) : 2 ^ lgLo b j ≤ b ^ 2 ^ j := by
  obtain ⟨a, o, lo, hi, near⟩ := lg_inv h1 h2 j hj
  refine Nat.le_trans ?_ lo
  have p := bl_pos a
  unfold lgLo
  rw [show (lgN b j).2.2 + bl (lgN b j).1 - 1 = (bl (lgN b j).1 - 1) + (lgN b j).2.2 by omega, Nat.pow_add]
  exact Nat.mul_le_mul_right _ (pow_bl a)
theorem lg_hi {b j : Nat} (h1 : 1 ≤ b) (h2 : b ≤ 9999) (hj : j ≤ 66) : b ^ 2 ^ j ≤ 2 ^ lgHi b j := by
  obtain ⟨a, o, lo, hi, near⟩ := lg_inv h1 h2 j hj
  refine Nat.le_trans hi ?_
  unfold lgHi
  rw [Nat.add_comm, Nat.pow_add]
  exact Nat.mul_le_mul_right _ (Nat.le_of_lt (lt_bl _))
theorem lg_more {b j : Nat} (h1 : 1 ≤ b) (h2 : b ≤ 9999) (hj : j ≤ 66) : (lgN b j).2.2 ≤ bl b * 2 ^ j := by
  obtain ⟨a, o, lo, hi, near⟩ := lg_inv h1 h2 j hj
  have h : 2 ^ (lgN b j).2.2 ≤ 2 ^ (bl b * 2 ^ j) := by
    refine Nat.le_trans (Nat.le_trans (Nat.le_mul_of_pos_left _ a) lo) ?_
    rw [Nat.pow_mul]
    exact Nat.pow_le_pow_left (Nat.le_of_lt (lt_bl b)) _
  exact (Nat.pow_le_pow_iff_right (by decide)).mp h
theorem lg_hi_le {b j : Nat} (h1 : 1 ≤ b) (h2 : b ≤ 9999) (hj : j ≤ 66) : lgHi b j ≤ bl b * 2 ^ j + 2 := by
  obtain ⟨a, o, lo, hi, near⟩ := lg_inv h1 h2 j hj
  have o1 : 1 ≤ (lgN b j).2.1 := by
    rcases Nat.eq_zero_or_pos (lgN b j).2.1 with z | z
    · rw [z, Nat.zero_mul] at hi
      have : 0 < b ^ 2 ^ j := Nat.pow_pos h1
      omega
    · exact z
  have p := bl_pos o1
  have near2 : (lgN b j).2.1 ≤ 2 * (lgN b j).1 := by
    have c : 4 ^ j - 1 ≤ mM := by
      have : 4 ^ j ≤ 4 ^ 66 := Nat.pow_le_pow_right (by decide) hj
      have : 4 ^ 66 ≤ mM := by decide +kernel
      omega
    have : (lgN b j).2.1 * mM ≤ (2 * (lgN b j).1) * mM := by
      refine Nat.le_trans near ?_
      have : (lgN b j).1 * (mM + (4 ^ j - 1)) ≤ (lgN b j).1 * (mM + mM) := Nat.mul_le_mul_left _ (by omega)
      have e : (lgN b j).1 * (mM + mM) = 2 * (lgN b j).1 * mM := by grind
      omega
    exact Nat.le_of_mul_le_mul_right this mM_pos
  have h : 2 ^ (lgHi b j - 1) ≤ 2 ^ (1 + bl b * 2 ^ j) := by
    have e : lgHi b j - 1 = (bl (lgN b j).2.1 - 1) + (lgN b j).2.2 := by unfold lgHi; omega
    rw [e, Nat.pow_add, Nat.pow_add, Nat.pow_one]
    refine Nat.le_trans (Nat.mul_le_mul_right _ (pow_bl o1)) ?_
    refine Nat.le_trans (Nat.mul_le_mul_right _ near2) ?_
    rw [Nat.mul_assoc]
    refine Nat.mul_le_mul_left _ (Nat.le_trans lo ?_)
    rw [Nat.pow_mul]
    exact Nat.pow_le_pow_left (Nat.le_of_lt (lt_bl b)) _
  have := (Nat.pow_le_pow_iff_right (show 1 < 2 by decide)).mp h
  omega
end My

namespace My
open PySem PySem.Spec PyProof.Rows L2 Evl
/-! ### whole roots, plain -/
theorem two_sq (r f : Nat) : 2 * (r * f) ≤ r * r + f * f := by
  rcases Nat.le_total r f with h | h
  · obtain ⟨d, rfl⟩ := Nat.le.dest h
    have e : r * r + (r + d) * (r + d) = 2 * (r * (r + d)) + d * d := by grind
    omega
  · obtain ⟨d, rfl⟩ := Nat.le.dest h
    have e : (f + d) * (f + d) + f * f = 2 * ((f + d) * f) + d * d := by grind
    omega
theorem agm (r f : Nat) : ∀ n : Nat, (n + 1) * r * f ^ n ≤ r ^ (n + 1) + n * f ^ (n + 1)
  | 0 => by simp
  | n + 1 => by
    have ih := agm r f n
    have h1 := Nat.mul_le_mul_left r ih
    have h2 := Nat.mul_le_mul_left ((n + 1) * f ^ n) (two_sq r f)
    have e1 : r * ((n + 1) * r * f ^ n) = (n + 1) * (r * r * f ^ n) := by grind
    have e2 : r * (r ^ (n + 1) + n * f ^ (n + 1)) = r ^ (n + 2) + n * (r * f * f ^ n) := by
      rw [Nat.pow_succ r (n + 1), Nat.pow_succ f n]; grind
    have e3 : (n + 1) * f ^ n * (2 * (r * f)) = 2 * ((n + 1) * (r * f * f ^ n)) := by grind
    have e4 : (n + 1) * f ^ n * (r * r + f * f) = (n + 1) * (r * r * f ^ n) + (n + 1) * (f * f * f ^ n) := by grind
    have e5 : (n + 1 + 1) * r * f ^ (n + 1) = (n + 2) * (r * f * f ^ n) := by rw [Nat.pow_succ f n]; grind
    have e6 : (n + 1) * f ^ (n + 1 + 1) = (n + 1) * (f * f * f ^ n) := by rw [Nat.pow_succ f (n + 1), Nat.pow_succ f n]; grind
    rw [e5, e6]
    show _ ≤ r ^ (n + 2) + _
    generalize r * f * f ^ n = X at *
    generalize r * r * f ^ n = Y at *
    generalize f * f * f ^ n = Z at *
    generalize r ^ (n + 2) = W at *
    rw [e1, e2] at h1
    rw [e3, e4] at h2
    have g1 : (n + 2) * X = n * X + 2 * X := Nat.add_mul n 2 X
    have g2 : (n + 1) * X = n * X + X := Nat.succ_mul n X
    omega
theorem root_ge {r w f n : Nat} (h : r ^ (n + 1) ≤ w) (hf : 1 ≤ f) : r ≤ (n * f + w / f ^ n) / (n + 1) := by
  rw [Nat.le_div_iff_mul_le (by omega)]
  have P0 : 0 < f ^ n := Nat.pow_pos hf
  rcases Nat.le_total ((n + 1) * r) (n * f) with c | c
  · have : r * (n + 1) = (n + 1) * r := Nat.mul_comm _ _
    rw [this]
    exact Nat.le_trans c (Nat.le_add_right _ _)
  · have a := agm r f n
    have : (n + 1) * r - n * f ≤ w / f ^ n := by
      rw [Nat.le_div_iff_mul_le P0, Nat.sub_mul]
      have e : n * f * f ^ n = n * f ^ (n + 1) := by rw [Nat.pow_succ]; grind
      omega
    rw [Nat.mul_comm r]
    exact Nat.le_trans (show (n + 1) * r ≤ n * f + ((n + 1) * r - n * f) by omega) (Nat.add_le_add_left this _)
theorem root_lt {w f n : Nat} (h : w < f ^ (n + 1)) : (n * f + w / f ^ n) / (n + 1) < f := by
  have f0 : 1 ≤ f := by
    rcases Nat.eq_zero_or_pos f with z | z
    · rw [z, Nat.zero_pow (by omega)] at h; omega
    · exact z
  have : w / f ^ n < f := by
    rw [Nat.div_lt_iff_lt_mul (Nat.pow_pos f0)]
    rw [Nat.pow_succ] at h
    rw [Nat.mul_comm]
    exact h
  rw [Nat.div_lt_iff_lt_mul (by omega)]
  have e : f * (n + 1) = n * f + f := by rw [Nat.mul_succ, Nat.mul_comm]
  omega
theorem iroot_ex (k w : Nat) (hk : 1 ≤ k) : ∃ r, r ^ k ≤ w ∧ w < (r + 1) ^ k := by
  induction w with
  | zero => exact ⟨0, by rw [Nat.zero_pow hk]; exact Nat.le_refl _, by rw [Nat.zero_add, Nat.one_pow]; decide⟩
  | succ w ih =>
    obtain ⟨r, h1, h2⟩ := ih
    by_cases c : w + 1 < (r + 1) ^ k
    · exact ⟨r, by omega, c⟩
    · refine ⟨r + 1, by omega, ?_⟩
      have := Nat.pow_lt_pow_left (show r + 1 < r + 1 + 1 by omega) (show k ≠ 0 by omega)
      omega
noncomputable def iroot (k w : Nat) : Nat := if h : 1 ≤ k then (iroot_ex k w h).choose else 0
theorem iroot_ok {k : Nat} (w : Nat) (hk : 1 ≤ k) : iroot k w ^ k ≤ w ∧ w < (iroot k w + 1) ^ k := by
  unfold iroot
  rw [dif_pos hk]
  exact (iroot_ex k w hk).choose_spec
theorem iroot_le {k w f : Nat} (hk : 1 ≤ k) (h : f ^ k ≤ w) : f ≤ iroot k w := by
  have := (iroot_ok w hk).2
  by_cases c : f ≤ iroot k w
  · exact c
  · have := Nat.pow_le_pow_left (show iroot k w + 1 ≤ f by omega) k
    omega
theorem iroot_eq {k w f : Nat} (hk : 1 ≤ k) (h : f ^ k ≤ w) (h2 : w < (f + 1) ^ k) : iroot k w = f := by
  have a := iroot_le hk h
  have b := (iroot_ok w hk).1
  by_cases c : iroot k w ≤ f
  · omega
  · have := Nat.pow_le_pow_left (show f + 1 ≤ iroot k w by omega) k
    omega
theorem iroot_one (w : Nat) : iroot 1 w = w := iroot_eq (by decide) (by rw [Nat.pow_one]; omega) (by rw [Nat.pow_one]; omega)
theorem iroot_lt {k w b : Nat} (hk : 1 ≤ k) (h : w < 2 ^ (k * b)) : iroot k w < 2 ^ b := by
  have a := (iroot_ok w hk).1
  by_cases c : iroot k w < 2 ^ b
  · exact c
  · have := Nat.pow_le_pow_left (show 2 ^ b ≤ iroot k w by omega) k
    rw [← Nat.pow_mul, Nat.mul_comm b k] at this
    omega
/-! ### how far the search has to go -/
def wSum (f : Nat → Nat) (L : List (Nat × Nat)) : Nat := (L.map fun x => x.2 * f x.1).sum
theorem prod_up {L : List (Nat × Nat)} {G : Nat} {f : Nat → Nat} (h : ∀ x ∈ L, x.1 ^ G ≤ 2 ^ f x.1) : prodL L ^ G ≤ 2 ^ wSum f L := by
  induction L with
  | nil => show 1 ^ G ≤ 2 ^ 0; rw [Nat.one_pow]; exact Nat.le_refl _
  | cons x r ih =>
    have i := ih fun y hy => h y (List.mem_cons_of_mem _ hy)
    have hx := Nat.pow_le_pow_left (h x List.mem_cons_self) x.2
    show (x.1 ^ x.2 * prodL r) ^ G ≤ 2 ^ (x.2 * f x.1 + wSum f r)
    rw [Nat.mul_pow, Nat.pow_add, ← Nat.pow_mul, Nat.mul_comm x.2 G, Nat.pow_mul, Nat.mul_comm x.2, Nat.pow_mul]
    exact Nat.mul_le_mul hx i
theorem prod_low {L : List (Nat × Nat)} {G : Nat} {f : Nat → Nat} (h : ∀ x ∈ L, 2 ^ f x.1 ≤ x.1 ^ G) : 2 ^ wSum f L ≤ prodL L ^ G := by
  induction L with
  | nil => show 2 ^ 0 ≤ 1 ^ G; rw [Nat.one_pow]; exact Nat.le_refl _
  | cons x r ih =>
    have i := ih fun y hy => h y (List.mem_cons_of_mem _ hy)
    have hx := Nat.pow_le_pow_left (h x List.mem_cons_self) x.2
    show 2 ^ (x.2 * f x.1 + wSum f r) ≤ (x.1 ^ x.2 * prodL r) ^ G
    rw [Nat.mul_pow, Nat.pow_add, ← Nat.pow_mul, Nat.mul_comm x.2 G, Nat.pow_mul x.1 G, Nat.mul_comm x.2, Nat.pow_mul 2]
    exact Nat.mul_le_mul hx i
theorem far_enough {U D : List (Nat × Nat)} {G k bits : Nat} {hi lo : Nat → Nat} (hk : 1 ≤ k) (hU : ∀ x ∈ U, x.1 ^ G ≤ 2 ^ hi x.1) (hD : ∀ x ∈ D, 2 ^ lo x.1 ≤ x.1 ^ G) (hd : 1 ≤ prodL D)
    (hb : wSum hi U < bits * k * G + wSum lo D) : iroot k (prodL U / prodL D) < 2 ^ bits := by
  by_cases c : iroot k (prodL U / prodL D) < 2 ^ bits
  · exact c
  · exfalso
    have a := (iroot_ok (prodL U / prodL D) hk).1
    have b := Nat.pow_le_pow_left (show 2 ^ bits ≤ iroot k (prodL U / prodL D) by omega) k
    have d : 2 ^ (bits * k) * prodL D ≤ prodL U := by
      rw [Nat.pow_mul]
      refine Nat.le_trans (Nat.mul_le_mul_right _ (Nat.le_trans b a)) ?_
      exact Nat.div_mul_le_self _ _
    have e := Nat.pow_le_pow_left d G
    rw [Nat.mul_pow, ← Nat.pow_mul] at e
    have f : 2 ^ (bits * k * G) * 2 ^ wSum lo D ≤ 2 ^ wSum hi U := Nat.le_trans (Nat.mul_le_mul_left _ (prod_low hD)) (Nat.le_trans e (prod_up hU))
    rw [← Nat.pow_add] at f
    have := (Nat.pow_le_pow_iff_right (show 1 < 2 by decide)).mp f
    omega
theorem wSum_le {L : List (Nat × Nat)} {f : Nat → Nat} {G : Nat} (h : ∀ x ∈ L, 1 ≤ x.1 ∧ f x.1 ≤ bl x.1 * G + 2) : wSum f L ≤ above L * G + 2 * above L := by
  induction L with
  | nil => exact Nat.zero_le _
  | cons x r ih =>
    have i := ih fun y hy => h y (List.mem_cons_of_mem _ hy)
    obtain ⟨x1, hx⟩ := h x List.mem_cons_self
    have b := bl_pos x1
    have m := Nat.mul_le_mul_left x.2 hx
    have e : x.2 * (bl x.1 * G + 2) = bl x.1 * x.2 * G + 2 * x.2 := by grind
    have c : 1 * x.2 ≤ bl x.1 * x.2 := Nat.mul_le_mul_right _ b
    show x.2 * f x.1 + wSum f r ≤ (bl x.1 * x.2 + above r) * G + 2 * (bl x.1 * x.2 + above r)
    rw [Nat.add_mul, Nat.mul_add]
    omega
/-- both bounds, not to be unfolded -/
noncomputable def lgP (b : Nat) : Nat × Nat := (show ∃ p : Nat × Nat, p = (lgLo b 64, lgHi b 64) from ⟨_, rfl⟩).choose
theorem lgP_eq (b : Nat) : lgP b = (lgLo b 64, lgHi b 64) := (show ∃ p : Nat × Nat, p = (lgLo b 64, lgHi b 64) from ⟨_, rfl⟩).choose_spec
theorem lgP_lo {b G : Nat} (hG : G = 2 ^ 64) (h1 : 1 ≤ b) (h2 : b ≤ 9999) : 2 ^ (lgP b).1 ≤ b ^ G := by
  rw [lgP_eq, hG]
  exact lg_lo (j := 64) h1 h2 (by decide)
theorem lgP_hi {b G : Nat} (hG : G = 2 ^ 64) (h1 : 1 ≤ b) (h2 : b ≤ 9999) : b ^ G ≤ 2 ^ (lgP b).2 := by
  rw [lgP_eq, hG]
  exact lg_hi (j := 64) h1 h2 (by decide)
theorem lgP_le {b G : Nat} (hG : G = 2 ^ 64) (h1 : 1 ≤ b) (h2 : b ≤ 9999) : (lgP b).2 ≤ bl b * G + 2 := by
  rw [lgP_eq, hG]
  exact lg_hi_le (j := 64) h1 h2 (by decide)
theorem lgP_sm {b : Nat} (h1 : 1 ≤ b) (h2 : b ≤ 9999) : (lgP b).1 < 2 ^ 80 ∧ (lgP b).2 < 2 ^ 80 := by
  obtain ⟨G, hG⟩ : ∃ G : Nat, G = 2 ^ 64 := ⟨_, rfl⟩
  have l := (Nat.pow_le_pow_iff_right (show 1 < 2 by decide)).mp (Nat.le_trans (lgP_lo hG h1 h2) (lgP_hi hG h1 h2))
  have u := lgP_le hG h1 h2
  have b14 := bl_small h2
  have m : bl b * G ≤ 14 * G := Nat.mul_le_mul_right _ b14
  have z : 14 * G + 2 < 2 ^ 80 := by rw [hG]; decide +kernel
  omega
/-! ### promises -/
def rLogs (ds : List PyData) (d : PyData) : Prop := ∃ b : Nat, ds = [.int b, .int 64] ∧ 1 ≤ b ∧ b ≤ 9999 ∧ d = .tuple [.int (lgP b).1, .int (lgP b).2]
abbrev spLogs (K : PySem.W.Frag) : Sp := spR K 2 rLogs
def rRootB (ds : List PyData) (d : PyData) : Prop := ∃ w k b : Nat, ds = [.int w, .int k, .int b] ∧ 1 ≤ k ∧ k ≤ 12 ∧ b * k ≤ 8900 ∧ iroot k w < 2 ^ b ∧ w < 2 ^ 8901 ∧ d = .int (iroot k w)
abbrev spRootB (K : PySem.W.Frag) : Sp := spR K 3 rRootB
def rStep (ds : List PyData) (d : PyData) : Prop := ∃ (U D : List (Nat × Nat)) (k : Nat), ds = [.list (U.map pN), .list (D.map pN), .int k] ∧ (∀ x ∈ U, 2 ≤ x.1 ∧ x.1 ≤ 9999) ∧ (∀ x ∈ D, 2 ≤ x.1 ∧ x.1 ≤ 9999) ∧ U.length ≤ 10000 ∧ D.length ≤ 10000 ∧
  above U ≤ 8800 ∧ above D ≤ 8800 ∧ 1 ≤ k ∧ k ≤ 12 ∧ d = .int (iroot k (prodL U / prodL D))
abbrev spStep (K : PySem.W.Frag) : Sp := spR K 3 rStep
theorem prod_pos {M : List (Nat × Nat)} (h : ∀ x ∈ M, 1 ≤ x.1) : 0 < prodL M := by
  induction M with
  | nil => exact Nat.one_pos
  | cons x s ih => exact Nat.mul_pos (Nat.pow_pos (h x List.mem_cons_self)) (ih fun y hy => h y (List.mem_cons_of_mem _ hy))
theorem len_above {L : List (Nat × Nat)} (h : ∀ x ∈ L, 1 ≤ x.1 ∧ 1 ≤ x.2) : L.length ≤ above L := by
  induction L with
  | nil => exact Nat.zero_le _
  | cons x r ih =>
    have i := ih fun y hy => h y (List.mem_cons_of_mem _ hy)
    obtain ⟨a, b⟩ := h x List.mem_cons_self
    have := Nat.mul_le_mul (bl_pos a) b
    show r.length + 1 ≤ bl x.1 * x.2 + above r
    omega
theorem ups_ge1 {L : PW} : ∀ x ∈ upsOf L, 1 ≤ x.2 := fun x hx => by
  obtain ⟨y, hy, rfl⟩ := List.mem_map.mp hx
  have := of_decide_eq_true (List.mem_filter.mp hy).2
  show 1 ≤ y.2.toNat
  omega
theorem bits_ex {G k SU SD a : Nat} (hG : 0 < G) (hk : 1 ≤ k) (h : SU ≤ a * G + 2 * a) (hc : 2 * a ≤ G) :
    ∃ bits : Nat, max (((SU : Int) - (SD : Int)) / ((k * G : Nat) : Int)) 0 + 1 = (bits : Int) ∧ SU < bits * k * G + SD ∧ bits * k ≤ a + 1 + k := by
  have kG : (0 : Int) < ((k * G : Nat) : Int) := Int.ofNat_lt.mpr (Nat.mul_pos hk hG)
  generalize hx : ((SU : Int) - (SD : Int)) / ((k * G : Nat) : Int) = x
  have h1 := Int.lt_ediv_add_one_mul_self ((SU : Int) - (SD : Int)) kG
  have h2 := Int.ediv_mul_le ((SU : Int) - (SD : Int)) (show ((k * G : Nat) : Int) ≠ 0 by omega)
  rw [hx] at h1 h2
  by_cases c : 0 ≤ x
  · obtain ⟨n, rfl⟩ : ∃ n : Nat, x = n := ⟨x.toNat, by omega⟩
    refine ⟨n + 1, by omega, ?_, ?_⟩
    · rw [Nat.mul_assoc]
      have e : ((n : Int) + 1) * ((k * G : Nat) : Int) = (((n + 1) * (k * G) : Nat) : Int) := by rw [Int.natCast_mul]; rfl
      rw [e] at h1
      omega
    · have e : (n : Int) * ((k * G : Nat) : Int) = ((n * k * G : Nat) : Int) := by rw [Nat.mul_assoc, Int.natCast_mul n]
      rw [e] at h2
      have h3 : n * k * G ≤ (a + 1) * G := by
        rw [Nat.add_mul]
        omega
      have h4 := Nat.le_of_mul_le_mul_right h3 hG
      rw [Nat.succ_mul]
      omega
  · refine ⟨1, by omega, ?_, by omega⟩
    rw [Nat.one_mul]
    have : (x + 1) * ((k * G : Nat) : Int) ≤ 0 := Int.mul_nonpos_of_nonpos_of_nonneg (by omega) (by omega)
    omega
noncomputable def partB (n : Num) (f : Nat) : Nat := iroot (lcmN n) (prodL (upsOf (wholesL n)) * (10 ^ f) ^ lcmN n / prodL (downsOf (wholesL n)))
def BtOk (n : Num) (f : Nat) : Prop := NumOk n ∧ SmN 1900 n ∧ lcmN n ≤ 12 ∧ 12 * bitsOf (wholesL n) ≤ lcmN n * 7488 ∧ f ≤ 12
theorem partB_lt {n : Num} {f : Nat} (l12 : lcmN n ≤ 12) (ab : 12 * bitsOf (wholesL n) ≤ lcmN n * 7488) (f12 : f ≤ 12) : partB n f < 2 ^ 1400 := by
  have lp := lcm_pos n
  refine iroot_lt lp (Nat.lt_of_le_of_lt (Nat.div_le_self _ _) ?_)
  have a := above_ups (wholesL n)
  have p := prod_le (L := upsOf (wholesL n))
  have t : (10 ^ f) ^ lcmN n ≤ 2 ^ (4 * f * lcmN n) := by
    rw [Nat.pow_mul, Nat.pow_mul]
    exact Nat.pow_le_pow_left (Nat.pow_le_pow_left (by decide) f) _
  refine Nat.lt_of_le_of_lt (Nat.mul_le_mul p t) ?_
  rw [← Nat.pow_add]
  refine Nat.pow_lt_pow_right (by decide) ?_
  have : 4 * f * lcmN n ≤ 48 * lcmN n := Nat.mul_le_mul_right _ (by omega)
  omega
def rBetween (ds : List PyData) (d : PyData) : Prop := ∃ (n : Num) (f : Nat), ds = [eN n, .int f] ∧ BtOk n f ∧ d = .tuple [eF (mkRat (partB n f : Nat) (10 ^ f)), eF (mkRat (partB n f + 1 : Nat) (10 ^ f))]
abbrev spBetween (K : PySem.W.Frag) : Sp := spR K 2 rBetween
/-! ### rules -/
section
variable {K : PySem.W.Frag} {σ : L2.St} {H : Hp} {ta tb te : TE} {D : Ends} {tz : TS} {ds es : List PyData} {d : PyData}
theorem rd_shrN {i k : Nat} : RD K (fun x y H Q => ∃ (i : Int) (k : Nat), x = .int i ∧ y = .int (k : Int) ∧ Q (.int (i / 2 ^ k)) H) (.int (i : Nat)) (.int (k : Nat)) (.int ((i / 2 ^ k : Nat) : Int)) := fun H x y hx hy Q q => by
  cases hx; cases hy
  refine ⟨i, k, rfl, rfl, q _ H (Ex.refl H) ?_⟩
  rw [show ((i : Int) / 2 ^ k) = ((i / 2 ^ k : Nat) : Int) by rw [Int.natCast_ediv, Int.natCast_pow]; rfl]
  exact .int _
theorem rd_shlN {i k : Nat} (h : Builtin.Int.intBits (i : Int) + k ≤ 134217728) : RD K (fun x y H Q => ∃ (i : Int) (k : Nat), x = .int i ∧ y = .int (k : Int) ∧ CShl i (k : Int) ∧ Q (.int (i * 2 ^ k)) H) (.int (i : Nat)) (.int (k : Nat)) (.int ((i * 2 ^ k : Nat) : Int)) := fun H x y hx hy Q q => by
  cases hx; cases hy
  refine ⟨i, k, rfl, rfl, ⟨Int.natCast_nonneg k, by omega⟩, q _ H (Ex.refl H) ?_⟩
  rw [show ((i : Int) * 2 ^ k) = ((i * 2 ^ k : Nat) : Int) by rw [Int.natCast_mul, Int.natCast_pow]; rfl]
  exact .int _
/-- k << 64, the power named -/
theorem rd_shl64 {i G : Nat} (hG : G = 2 ^ 64) (h : Builtin.Int.intBits (i : Int) + 64 ≤ 134217728) : RD K (fun x y H Q => ∃ (i : Int) (k : Nat), x = .int i ∧ y = .int (k : Int) ∧ CShl i (k : Int) ∧ Q (.int (i * 2 ^ k)) H) (.int (i : Nat)) (.int 64) (.int ((i * G : Nat) : Int)) := by
  subst hG
  exact rd_shlN (k := 64) h
theorem rd_oneShl {k : Nat} (h : k ≤ 134217727) : RD K (fun x y H Q => ∃ k : Nat, x = .int 1 ∧ y = .int (k : Int) ∧ k ≤ 134217727 ∧ Q (.int (2 ^ k)) H) (.int 1) (.int (k : Nat)) (.int ((2 ^ k : Nat) : Int)) := fun H x y hx hy Q q => by
  cases hx; cases hy
  refine ⟨k, rfl, rfl, h, q _ H (Ex.refl H) ?_⟩
  rw [show ((2 : Int) ^ k) = ((2 ^ k : Nat) : Int) by rw [Int.natCast_pow]; rfl]
  exact .int _
theorem q_asg4D {i j l o : Nat} {x y w z : PyData} (h : ED K te σ H (.tuple [x, y, w, z])) (k : ∀ a b c e H1, Ex H H1 → Dq K H1 a x → Dq K H1 b y → Dq K H1 c w → Dq K H1 e z → tz D ((((σ.set i (some a)).set j (some b)).set l (some c)).set o (some e)) H1) :
    tSeq (tAsg te (gTup K 4 (gCons (gName i) (gCons (gName j) (gCons (gName l) (gCons (gName o) gNil)))))) tz D σ H :=
  h H (Ex.refl H) _ fun v H1 e1 hv => by
    cases hv with
    | tup hs ha =>
    cases ha with
    | cons h1 ha =>
    cases ha with
    | cons h2 ha =>
    cases ha with
    | cons h3 ha =>
    cases ha with
    | cons h4 ha =>
    cases ha
    exact ⟨_, _, rfl, hs.sq, rfl, _, _, rfl, _, _, rfl, _, _, rfl, _, _, rfl, rfl, k _ _ _ _ H1 e1 h1 h2 h3 h4⟩
theorem s_par3 {i j l : Nat} {ta : TA} {x y z : PyData} (h : EA K ta σ H [x, y, z]) (k : ∀ u v w H1, Ex H H1 → Dq K H1 u x → Dq K H1 v y → Dq K H1 w z → D.nx (((σ.set i (some u)).set j (some v)).set l (some w)) H1) : tPar3 i j l ta D σ H := h H (Ex.refl H) _ fun vs H1 e1 hv => by
  obtain ⟨u, v, w, rfl, h1, h2, h3⟩ := dpa3 hv
  exact ⟨u, v, w, rfl, k u v w H1 e1 h1 h2 h3⟩
theorem ea_is {ta : TA} {es : List PyData} (h : EA K ta σ H ds) (e : ds = es) : EA K ta σ H es := e ▸ h
theorem q_ifD {i : Nat} {t : TT} {b : Bool} (h : EvT t σ H b) (h1 : b = true → ED K ta σ H d) (h2 : b = false → ED K tb σ H d) (k : ∀ v H1, Ex H H1 → Dq K H1 v d → tz D (σ.set i (some v)) H1) : tSeq (tIfS t (tAsg ta (gName i)) (tAsg tb (gName i))) tz D σ H :=
  s_if (D := { D with nx := tz D }) h (fun hb H1 e1 => h1 hb H1 e1 _ fun v H2 e2 hv => k v H2 (e1.trans e2) hv) (fun hb H1 e1 => h2 hb H1 e1 _ fun v H2 e2 hv => k v H2 (e1.trans e2) hv)
/-- a, (b, c) = x, (y, z) -/
theorem q_asg12D {i j l : Nat} {x y z : PyData} (h : ED K te σ H (.tuple [x, .tuple [y, z]])) (k : ∀ a b c H1, Ex H H1 → Dq K H1 a x → Dq K H1 b y → Dq K H1 c z → tz D (((σ.set i (some a)).set j (some b)).set l (some c)) H1) :
    tSeq (tAsg te (gTup K 2 (gCons (gName i) (gCons (gTup K 2 (gCons (gName j) (gCons (gName l) gNil))) gNil)))) tz D σ H :=
  h H (Ex.refl H) _ fun v H1 e1 hv => by
    cases hv with
    | tup hs ha =>
    cases ha with
    | cons h1 ha =>
    cases ha with
    | cons h2 ha =>
    cases ha
    cases h2 with
    | tup hs2 ha =>
    cases ha with
    | cons h3 ha =>
    cases ha with
    | cons h4 ha =>
    cases ha
    exact ⟨_, _, rfl, hs.sq, rfl, _, _, rfl, _, _, rfl, ⟨_, _, rfl, hs2.sq, rfl, _, _, rfl, _, _, rfl, rfl, rfl, k _ _ _ H1 e1 h1 h3 h4⟩⟩
/-- [*some, ..] -/
theorem ea_star {tr : TA} (h : EM K te σ H ds) (hr : EA K tr σ H es) : EA K (StX.tStar K te tr) σ H (ds ++ es) := fun H1 e1 Q q =>
  h H1 e1 _ fun a xs H2 e2 hs hd => ⟨a, xs, rfl, .inr hs.sq, hr H2 (e1.trans e2) _ fun ws H3 e3 hw => q _ H3 (e2.trans e3) (dpa_app (DqAll_ex hd e3) hw)⟩
end
theorem pa_starK {X : Cx} {K : PySem.W.Frag} (hK : X.K = K) {e : Expr} {es : List Expr} {te : TE} {t : TA} {p : Pos} (he : PE X e te) (hr : PA X es t) (hs : starEach (.Starred e p :: es) X.env = (true, eval e X.env) :: starEach es X.env := by rfl) : PA X (.Starred e p :: es) (StX.tStar K te t) := by
  subst hK
  exact StX.pa_star he hr hs
/-- a def of the text with what it is made of: for calls by keywords -/
def OkK (P : Program) (w : World) (K : PySem.W.Frag) (mg : Str → Option Value) (base : Heap) (k : Nat) (x : Str) (ps : List Str) (sp : Sp) (st : Stmt) : Prop :=
  ∃ fd, FunD K x x (defArgs st) (defBody st) (defScope st) [] [] (He.ga K x) fd ∧ FnOk P w K mg base CX0 k (He.ga K x) fd ps sp ∧ mg x = some (.ref (He.ga K x))
theorem OkK.mk {P : Program} {w : World} {K : PySem.W.Frag} {mg : Str → Option Value} {base : Heap} {k : Nat} {x : Str} {st : Stmt} {N ps : List Str} {sp : Sp}
    (hF : ∃ fd, FunD K x x (defArgs st) (defBody st) (defScope st) [] [] (He.ga K x) fd) (S : FnScope N ps (defScope st)) (gm : mg x = some (.ref (He.ga K x)))
    (len : ∀ vs H Q E, sp vs H Q E → vs.length = ps.length)
    (body : ∀ (cdv : Value) (A : Around) (outer : List Env) (s : Shared) (H : Hp) (vs : List V) (Q : VK) (E : XK), Room k (A.deeper (envOfC x (defScope st) s.heap.objs.size (He.ga K x) cdv)) → sp vs H Q E →
      ∃ t, PSs (cxOf CX0 P w K mg base N x (defScope st) (He.ga K x) cdv A outer s H E) (defBody st) t ∧ t { nx := fun _ H' => Q .non H', rt := Q } (start N vs) H) :
    OkK P w K mg base (k + 1) x ps sp st := by
  obtain ⟨fd, F⟩ := hF
  exact ⟨fd, F, F.ok S len body, gm⟩
theorem OkK.ok {P : Program} {w : World} {K : PySem.W.Frag} {mg : Str → Option Value} {base : Heap} {k : Nat} {x : Str} {st : Stmt} {ps : List Str} {sp : Sp} (O : OkK P w K mg base k x ps sp st)
    (hb : ∀ (kV doc pm : Value) (an : Option Addr) (cdv ct : Value) (us : List Value), us.length = ps.length → bindArgs (PySem.W.fnOf x x (defArgs st) (defBody st) (defScope st) .none kV doc pm an cdv ct) ⟨us, []⟩ = pure (ps.zip us)) : Ok P w K mg base k x ps sp := by
  obtain ⟨fd, F, G, gm⟩ := O
  exact ⟨fd, G, F.bindsN hb, F.kp, gm⟩
end My

namespace My
open PySem PySem.Spec PyProof.Rows L2 Evl TL
/-! ### the law's own look at two steps: plain -/
theorem mk_back (r : Nat) {T : Nat} (h : 0 < T) : (0 : Int) < ((mkRat (r : Int) T).den : Int) ∧ max 1 ((mkRat (r : Int) T).den : Int) = ((mkRat (r : Int) T).den : Int) ∧ (mkRat (r : Int) T).num * (T : Int) / ((mkRat (r : Int) T).den : Int) = (r : Int) := by
  have d0 := den_pos (mkRat (r : Int) T)
  refine ⟨by omega, by omega, ?_⟩
  have n1 := norm_num (r : Int) T (by omega)
  have d1 := norm_den (r : Int) T (by omega)
  obtain ⟨a, ha⟩ : ((Int.gcd (r : Int) (T : Int) : Nat) : Int) ∣ (r : Int) := Int.gcd_dvd_left _ _
  obtain ⟨b, hb⟩ : ((Int.gcd (r : Int) (T : Int) : Nat) : Int) ∣ (T : Int) := Int.gcd_dvd_right _ _
  have g0 : ((Int.gcd (r : Int) (T : Int) : Nat) : Int) ≠ 0 := by
    have : 0 < Int.gcd (r : Int) (T : Int) := Int.gcd_pos_of_ne_zero_right _ (by omega)
    omega
  have en : (mkRat (r : Int) T).num = a := n1.trans (Int.ediv_eq_of_eq_mul_right g0 ha)
  have ed : (((mkRat (r : Int) T).den : Nat) : Int) = b := d1.trans (Int.ediv_eq_of_eq_mul_right g0 hb)
  rw [en, ed]
  clear en ed n1 d1
  generalize ((Int.gcd (r : Int) (T : Int) : Nat) : Int) = g at ha hb g0
  have b0 : b ≠ 0 := fun z => by rw [z, Int.mul_zero] at hb; omega
  rw [ha, hb, show a * (g * b) = (g * a) * b by grind]
  exact Int.mul_ediv_cancel _ b0
theorem bits12w {w : Nat} {n : Num} (h : TwN w n) : 12 * bitsOf (wholesL n) ≤ lcmN n * w := by
  have hc := h.ok.can
  rw [wholes_pow hc]
  have ok : NumOk (npow n (((lcmN n : Nat) : Int) : Rat)) := ok_npow h.ok
  have hI := int_lcm h.ok
  obtain ⟨z, hz, hw⟩ := h.z
  generalize lcmN n = L at ok hI ⊢
  rw [bits_R ok.can, ← sumR_mul]
  refine Nat.le_trans (sumR_le (g := fun p => L * (bl p * (z p).natAbs)) fun p hp => ?_) (by rw [sumR_mul]; exact Nat.mul_le_mul_left _ hw)
  have e : ev (npow n ((L : Int) : Rat)) p = (z p : Rat) / 12 * ((L : Int) : Rat) := by
    unfold npow
    rw [ev_canE hp, hz]
  have hd := hI p
  rw [e] at hd ⊢
  generalize hv : (z p : Rat) / 12 * ((L : Int) : Rat) = v at hd
  have hn : v = ((v.num : Int) : Rat) := Rat.ext (Rat.num_intCast _).symm (hd.trans (Rat.den_intCast _).symm)
  have key : v.num * 12 = z p * (L : Int) := by
    refine int_inj ?_
    rw [Rat.intCast_mul, Rat.intCast_mul, ← hn, ← hv]
    have : ((12 : Int) : Rat) = 12 := rfl
    grind
  have k2 := congrArg Int.natAbs key
  rw [Int.natAbs_mul, Int.natAbs_mul] at k2
  have k3 : (12 : Int).natAbs = 12 := rfl
  have k4 : (L : Int).natAbs = L := rfl
  rw [k3, k4] at k2
  rw [Nat.mul_left_comm 12, Nat.mul_left_comm L]
  refine Nat.mul_le_mul_left _ ?_
  have : 12 * v.num.natAbs = v.num.natAbs * 12 := Nat.mul_comm _ _
  have : L * (z p).natAbs = (z p).natAbs * L := Nat.mul_comm _ _
  omega
theorem bt_tw {n : Num} {f : Nat} (h : TwN 7488 n) (hf : f ≤ 12) : BtOk n f := ⟨h.ok, (sm_of_tw h (by decide)).mono (by decide), Nat.le_of_dvd (by decide) h.lcm, bits12w h, hf⟩
def rWPow (ds : List PyData) (d : PyData) : Prop := ∃ n, ds = [eN n] ∧ NumOk n ∧ SmN 4000 n ∧ lcmN n < 2 ^ 4000 ∧ bitsOf (wholesL n) ≤ 65536 ∧ d = .tuple [.int (lcmN n), .int (prodL (upsOf (wholesL n))), .int (prodL (downsOf (wholesL n)))]
abbrev spWPow (K : PySem.W.Frag) : Sp := spR K 1 rWPow
def rIsBtw (ds : List PyData) (d : PyData) : Prop := ∃ (n : Num) (f : Nat), ds = [eN n, .int f, .tuple [eF (mkRat (partB n f : Nat) (10 ^ f)), eF (mkRat (partB n f + 1 : Nat) (10 ^ f))]] ∧ BtOk n f ∧ d = .bool true
abbrev spIsBtw (K : PySem.W.Frag) : Sp := spR K 3 rIsBtw
/-! ### a fraction over a power of ten -/
def spLawPrimesX (K : PySem.W.Frag) : Sp := fun vs H Q _ => ∃ (n : Nat) (s : Int), vs = [.int n, .int s] ∧ 1 ≤ n ∧ n ≤ 100000 ∧ ∀ p H', H p = none → Ex H H' → H' p = some (.dK (entI (sI s (fac n)))) → Q (.ref p) H'
theorem len_spLawPrimesX {vs : List V} {Q : VK} {E : XK} {K : PySem.W.Frag} {H : Hp} (h : spLawPrimesX K vs H Q E) : vs.length = 2 := by
  obtain ⟨n, s, rfl, _⟩ := h
  rfl
theorem ek_lprimesX {K : PySem.W.Frag} {σ : L2.St} {H : Hp} {n : Nat} {s : Int} {E : XK} {ta : TA} (h : EA K ta σ H [.int n, .int s]) (h1 : 1 ≤ n) (h2 : n ≤ 100000) : EK K (tCall (spLawPrimesX K) [] E ta) σ H (sI s (fac n)) := fun H1 e1 Q q =>
  h H1 e1 _ fun vs H2 e2 hv => by
    obtain ⟨v, w, rfl, hd, hw⟩ := dpa2 hv
    cases hd; cases hw
    exact ⟨n, s, rfl, h1, h2, fun p H3 hp e3 h3 => q p H3 (none_of_ex e2 hp) (e2.trans e3) h3⟩
def rLWholeX (ds : List PyData) (d : PyData) : Prop := ∃ t f : Nat, ds = [.int t, .int (10 ^ f : Nat)] ∧ 1 ≤ t ∧ t ≤ 9999 ∧ f ≤ 5 ∧ d = eN (nfrac t (10 ^ f))
abbrev spLWholeX (K : PySem.W.Frag) : Sp := spR K 2 rLWholeX
theorem pr_two2 : Pr 2 := ⟨by decide, by decide +kernel⟩
theorem fac_ten {f : Nat} (h1 : 1 ≤ f) : fac (10 ^ f) = [(2, f), (5, f)] := fac_of (Nat.pow_pos (by decide)) (List.pairwise_pair.mpr (show 2 < 5 by decide)) (fun x h => by
    rcases List.mem_cons.mp h with rfl | h
    · exact ⟨pr2, h1⟩
    · rw [List.mem_singleton.mp h]; exact ⟨pr5, h1⟩) (by
    show 2 ^ f * (5 ^ f * 1) = 10 ^ f
    rw [Nat.mul_one, ← Nat.mul_pow])
theorem fac_one : fac 1 = [] := fac_of (by decide) .nil (fun x h => by cases h) rfl
theorem ten_mem {f : Nat} (hf : f ≤ 5) : ∀ x ∈ fac (10 ^ f), Pr x.1 ∧ x.1 ≤ 9999 ∧ 1 ≤ x.2 ∧ x.2 ≤ 5 := fun x hx => by
  rcases Nat.eq_zero_or_pos f with z | z
  · rw [z, Nat.pow_zero, fac_one] at hx; cases hx
  · rw [fac_ten z] at hx
    rcases List.mem_cons.mp hx with rfl | hx
    · exact ⟨pr2, show 2 ≤ 9999 by decide, z, hf⟩
    · rw [List.mem_singleton.mp hx]; exact ⟨pr5, show 5 ≤ 9999 by decide, z, hf⟩
theorem ten_len {f : Nat} : (fac (10 ^ f)).length ≤ 2 := by
  rcases Nat.eq_zero_or_pos f with z | z
  · rw [z, Nat.pow_zero, fac_one]; decide
  · rw [fac_ten z]; exact Nat.le_refl 2
theorem ten_above {f : Nat} (hf : f ≤ 5) : above (fac (10 ^ f)) ≤ 26 := by
  rcases Nat.eq_zero_or_pos f with z | z
  · rw [z, Nat.pow_zero, fac_one]; decide
  · rw [fac_ten z]
    show bl 2 * f + (bl 5 * f + 0) ≤ 26
    rw [show bl 2 = 2 by decide, show bl 5 = 3 by decide]
    omega
theorem can_nST {f : Nat} {s : Int} (hs : s ≠ 0) (hf : f ≤ 5) : Can (nS s (fac (10 ^ f))) := ⟨List.pairwise_map.mpr (fac_is (Nat.pow_pos (by decide))).asc, fun x hx => by
  obtain ⟨y, hy, rfl⟩ := List.mem_map.mp hx
  obtain ⟨a, b, c, d⟩ := ten_mem hf y hy
  refine ⟨b, fun z => ?_⟩
  have z : ((s * (y.2 : Int) : Int) : Rat) = 0 := z
  have z2 : ((s * (y.2 : Int) : Int) : Rat).num = 0 := by rw [z]; rfl
  rw [Rat.num_intCast] at z2
  rcases Int.mul_eq_zero.mp z2 with q | q
  · exact hs q
  · omega⟩
theorem sm_nST {f : Nat} {s : Int} (hs : s.natAbs = 1) (hf : f ≤ 5) : SmN 4 (nS s (fac (10 ^ f))) := fun x hx => by
  obtain ⟨y, hy, rfl⟩ := List.mem_map.mp hx
  obtain ⟨a, b, c, d⟩ := ten_mem hf y hy
  refine ⟨?_, ?_⟩
  · show ((s * (y.2 : Int) : Int) : Rat).num.natAbs < _
    rw [Rat.num_intCast, Int.natAbs_mul, hs, Nat.one_mul]
    show y.2 < 2 ^ 4
    omega
  · show ((s * (y.2 : Int) : Int) : Rat).den < _
    rw [Rat.den_intCast]
    decide
theorem ten_ok {f : Nat} (hf : f ≤ 5) : NumOk (nL (fac (10 ^ f))) := ⟨asc_nL (fac_is (Nat.pow_pos (by decide))).asc, fun x hx => by
  obtain ⟨y, hy, rfl⟩ := List.mem_map.mp hx
  obtain ⟨a, b, c, d⟩ := ten_mem hf y hy
  exact ⟨a, b, natCast_ne c⟩⟩
theorem ten_nfrac_ok {t f : Nat} (t1 : 1 ≤ t) (t2 : t ≤ 9999) (hf : f ≤ 5) : NumOk (nfrac t (10 ^ f)) := ok_ndiv (can_fac t1 t2) (ten_ok hf)
theorem ten_tw {t f : Nat} (t1 : 1 ≤ t) (t2 : t ≤ 9999) (hf : f ≤ 5) : TwN 624 (nfrac t (10 ^ f)) := by
  have kt : ∀ x ∈ fac t, x.1 < 10000 := fun x hx => by have := (fac_bound t1 t2 x hx).2.1; omega
  have kl : ∀ x ∈ fac (10 ^ f), x.1 < 10000 := fun x hx => by have := (ten_mem hf x hx).2.1; omega
  refine TwN.of (ten_nfrac_ok t1 t2 hf) (fun p => 12 * (((mult (fac t) p : Nat) : Int) - ((mult (fac (10 ^ f)) p : Nat) : Int))) (fun p hp => ?_) ?_
  · rw [ev_nfrac hp, Rat.intCast_mul]
    have : ((12 : Int) : Rat) = 12 := rfl
    grind
  · have a := above_fac t1 t2
    have b := ten_above hf
    rw [above_R kt] at a
    rw [above_R kl] at b
    have c : sumR 10000 (fun p => bl p * (((mult (fac t) p : Nat) : Int) - ((mult (fac (10 ^ f)) p : Nat) : Int)).natAbs) ≤ 52 := by
      refine Nat.le_trans (sumR_le (g := fun p => bl p * mult (fac t) p + bl p * mult (fac (10 ^ f)) p) fun p hp => ?_) ?_
      · rw [← Nat.mul_add]
        exact Nat.mul_le_mul_left _ (by omega)
      · rw [sumR_add]
        omega
    refine Nat.le_trans (sumR_le (g := fun p => 12 * (bl p * (((mult (fac t) p : Nat) : Int) - ((mult (fac (10 ^ f)) p : Nat) : Int)).natAbs)) fun p hp => ?_) ?_
    · rw [Int.natAbs_mul, Nat.mul_left_comm]
      exact Nat.le_refl _
    · rw [sumR_mul]
      omega
theorem ratio_ten {f : Nat} (hf : f ≤ 5) : Ratio (ev (nL (fac (10 ^ f)))) (10 ^ f) 1 := by
  have hk : ∀ x ∈ fac (10 ^ f), x.1 < 10000 := fun x hx => by have := (ten_mem hf x hx).2.1; omega
  have e1 : upR (ev (nL (fac (10 ^ f)))) = 10 ^ f := by
    have := prodL_R hk
    rw [(fac_is (Nat.pow_pos (by decide))).prod] at this
    refine Eq.trans ?_ this.symm
    exact prodR_congr fun p _ => by rw [ev_nL, Rat.num_natCast, Int.toNat_natCast]
  have e2 : dnR (ev (nL (fac (10 ^ f)))) = 1 := prodR_one fun p _ => by
    rw [ev_nL, Rat.num_natCast, show (-((mult (fac (10 ^ f)) p : Nat) : Int)).toNat = 0 by omega, Nat.pow_zero]
  unfold Ratio
  rw [e1, e2]
theorem ratio_nten {t f : Nat} (t1 : 1 ≤ t) (t2 : t ≤ 9999) (hf : f ≤ 5) : Ratio (ev (nfrac t (10 ^ f))) t (10 ^ f) := by
  have h0 := (can_fac t1 t2).ev0
  have h0' := (ten_ok hf).ev0
  have := ratio_add (int_fac t) (f := fun p => -(ev (nL (fac (10 ^ f))) p)) (fun p => (Rat.neg_den _).trans (int_fac (10 ^ f) p)) h0 (by rw [h0']; rfl) (ratio_fac t1 t2) (ratio_neg (ratio_ten hf))
  rw [Nat.mul_one, Nat.one_mul] at this
  refine ratio_congr (fun p hp => ?_) this
  unfold nfrac
  rw [ev_canE hp, Rat.sub_eq_add_neg]
theorem part_ten {t f : Nat} (t1 : 1 ≤ t) (t2 : t ≤ 9999) (hf : f ≤ 5) : partB (nfrac t (10 ^ f)) f = t := by
  have ok := ten_nfrac_ok t1 t2 hf
  have hI := int_nf t (10 ^ f)
  have hr := ratio_nten t1 t2 hf
  unfold partB
  rw [lcm_one ok.asc hI, iroot_one, wholes_int ok.asc hI, (prod_ups ok.can).1, (prod_ups ok.can).2, Nat.pow_one]
  unfold Ratio at hr
  rw [hr]
  exact Nat.mul_div_cancel _ (up_pos _ ok.ev0).2
theorem short17 {n k u : Nat} {L : List (Nat × Nat)} (h : PInv n k u L) (hn : n ≤ 100000) : L.length ≤ 17 := by
  have a : ∀ {M : List (Nat × Nat)}, (∀ x ∈ M, 2 ≤ x.1 ∧ 1 ≤ x.2) → 2 ^ M.length ≤ prodL M := by
    intro M
    induction M with
    | nil => intro _; exact Nat.le_refl _
    | cons x r ih =>
      intro hm
      have i := ih fun y hy => hm y (List.mem_cons_of_mem _ hy)
      obtain ⟨x1, x2⟩ := hm x List.mem_cons_self
      have : 2 ≤ x.1 ^ x.2 := Nat.le_trans x1 (by
        have := Nat.pow_le_pow_right (show 0 < x.1 by omega) x2
        rwa [Nat.pow_one] at this)
      show 2 ^ (r.length + 1) ≤ x.1 ^ x.2 * prodL r
      rw [Nat.pow_succ, Nat.mul_comm]
      exact Nat.mul_le_mul this i
  have b := a fun x hx => ⟨(h.pr x hx).1.1, (h.pr x hx).2.1⟩
  have c : prodL L ≤ n := by rw [← h.prod]; exact Nat.le_mul_of_pos_right _ h.w1
  by_cases z : L.length ≤ 17
  · exact z
  · have := Nat.pow_le_pow_right (show 0 < 2 by decide) (show 18 ≤ L.length by omega)
    have : (2 : Nat) ^ 18 = 262144 := by decide
    omega
/-! ### rules -/
section
variable {K : PySem.W.Frag} {σ : L2.St} {H : Hp} {ta tb te : TE} {D : Ends} {tz tu : TS} {ds es : List PyData} {d z : PyData} {p : Addr} {m n : Nat}
/-- for x in range(drawn) -/
theorem q_forRG {N j : Nat} (hp : PotAt p m H) (h : EG K p te σ H m n (fun d => ∃ x : Nat, x ≤ N ∧ d = .int x)) (hN : N ≤ 40000)
    (k : ∀ H1 x, Go p H H1 → PotAt p n H1 → x ≤ N → ∃ Pv : Nat → L2.St → Hp → Prop, Pv 0 σ H1 ∧ (∀ i σ' H', i < x → Pv i σ' H' → tu { D with nx := Pv (i + 1), ct := Pv (i + 1), bk := tz D } (σ'.set j (some (.int (i : Nat)))) H') ∧ ∀ σ' H', Pv x σ' H' → tz D σ' H') :
    tSeq (tFor (iRng1 (tCons te tNil)) (gName j) tu) tz D σ H :=
  h H (Go.refl H) hp _ fun v H1 d g1 hp1 hd hv => by
    obtain ⟨x, hx, rfl⟩ := hd
    cases hv
    obtain ⟨Pv, p0, ps, pe⟩ := k H1 x g1 hp1 hx
    refine ⟨x, rfl, by omega, by omega, fun i r σ' H' => r = x - i ∧ i ≤ x ∧ Pv i σ' H', ⟨_, rfl, Nat.zero_le _, p0⟩, ?_⟩
    rintro i r σ' H' ⟨rfl, hi, P⟩
    have en : ((x : Nat) : Int).toNat = x := Int.toNat_natCast x
    by_cases hlt : i < x
    · refine .inr ⟨by show i < _; rw [en]; exact hlt, Pv (i + 1), fun σ2 H2 p2 => ⟨_, by omega, rfl, hlt, p2⟩, ?_⟩
      rintro v H2 ⟨rfl, rfl⟩
      have := ps i σ' H2 hlt P
      rw [show (i : Int) = 0 + (i : Int) by omega] at this
      exact this
    · refine .inl ⟨by show _ ≤ i; rw [en]; omega, ?_⟩
      have : i = x := by omega
      subst this
      exact pe _ _ P
def tCallKw (sp : Sp) (gV : List V → List V) (E : XK) (tk : TA) : TE := fun σ H Q => tk σ H fun zs H2 => sp (gV zs) H2 Q E
theorem ed_callKw {n : Nat} {R : List PyData → PyData → Prop} {E : XK} {ta : TA} (h : EA K ta σ H ds) (hr : R ds z) (hl : ds.length = n := by rfl) : ED K (tCallKw (spR K n R) id E ta) σ H z := fun H1 e1 Q q =>
  h H1 e1 _ fun vs H2 e2 hv => ⟨ds, z, hl, hv, hr, fun v H3 e3 hv3 => q v H3 (e2.trans e3) hv3⟩
end
theorem pcallKw {X : Cx} {k : Nat} {x : Str} {ps ks : List Str} {sp : Sp} {p pos : Pos} {kws : List Keyword} {tk : TA} {st : Stmt} {g : List Value → List Value} {gV : List V → List V} (O : OkK X.prog X.w X.K X.mg X.base k x ps sp st) (hr : Room k X.A) (hg : L2.Gl X x)
    (rel : ∀ {zs : List V} {ws : List Value}, Vals zs ws → Vals (gV zs) (g ws))
    (hb : ∀ (kV doc pm : Value) (an : Option Addr) (cdv ct : Value) (ws : List Value), (g ws).length = ps.length → bindArgs (PySem.W.fnOf x x (defArgs st) (defBody st) (defScope st) .none kV doc pm an cdv ct) ⟨[], ks.zip ws⟩ = pure (ps.zip (g ws)))
    (hkw : PK X kws tk) (hks : (backToKw pos (keywordEach kws X.env)).filterMap (·.1) = ks := by rfl) (hall : (backToKw pos (keywordEach kws X.env)).all (·.1.isSome) = true := by rfl)
    (hdb : (x == ("__debug__" : Str)) = false := by decide) (hpl : ((backTo pos (starEach [] X.env)).any (·.1) || (backToKw pos (keywordEach kws X.env)).any (·.1.isNone)) = false := by rfl) :
    PE X (.Call (.Name x p) [] kws pos) (tCallKw sp gV E0 tk) := by
  obtain ⟨fd, FD, F, gm⟩ := O
  refine ⟨fun pins s σ H Q I h => ?_⟩
  refine wpAny_Call_Name_kw (ld_glob I hg gm ?_ hdb)
  refine PySem.W.callWith_KW0 (h₀ := X.base) I.ok.mod.kin FD.kp hall (thn (hkw.run pos pins s σ H _ I h) fun ws s2 ⟨zs, H2, I2, rz, q2⟩ => ⟨I2.kIn, ?_⟩) hpl
  rw [hks]
  have r2 := rel rz
  have hl : (g ws).length = ps.length := by rw [← r2.length]; exact F.len _ _ _ _ q2
  have hbt : BindsTo s2 fd ⟨[], ks.zip ws⟩ (ps.zip (g ws)) := by
    obtain ⟨oc, od, dV, kV, doc, pm, an, cdv, ct, osl, rfl, lk, hcd, hD, hK⟩ := FD.ex
    rcases hD with ⟨_, rfl⟩ | ⟨e, _⟩
    · exact .of_eq (hb kV doc pm an cdv ct ws hl)
    · exact absurd rfl e
  refine wpAny_call (codeAny_mono (F.run X.A X.stack s2 H2 ⟨[], ks.zip ws⟩ (g ws) (gV zs) Q E0 hr I2.env0 hbt r2 q2) fun r s' hq => ?_)
  cases r with
  | error e => exact (pass0 (X := X)) pins σ H2 s2 e s' I2 hq
  | ok fl =>
    cases fl with
    | ret u => exact I2.after hq
    | next => exact False.elim hq
    | brk => exact False.elim hq
    | cont => exact False.elim hq
end My

namespace K03
open PySem PySem.Spec PyProof.Rows L2
/-! ### the text -/
def top (i : Nat) : Stmt := PySem.Challenge.pw_modeltrials_k03_whole_numbers_between_tw.main.body.getD i (.Pass ⟨0, 0, 0, 0⟩)
abbrev s_log_bounds : Stmt := top 8
abbrev s_sign_by_logs : Stmt := top 9
abbrev s_is_integer : Stmt := top 12
abbrev s_is_whole : Stmt := top 13
abbrev s_is_tuple : Stmt := top 14
abbrev s_is_ascending : Stmt := top 15
abbrev s_divisor : Stmt := top 16
abbrev s_lowest : Stmt := top 17
abbrev s_is_fraction : Stmt := top 18
abbrev s_powered : Stmt := top 26
abbrev s_is_prime : Stmt := top 27
abbrev s_is_number : Stmt := top 28
abbrev s_check_number : Stmt := top 29
abbrev s_wholes : Stmt := top 30
abbrev s_bits_above : Stmt := top 31
abbrev s_whole_product : Stmt := top 32
abbrev s_between : Stmt := top 33
abbrev s_step_below : Stmt := top 34
abbrev s_root_below : Stmt := top 35
abbrev s_u_law_pot : Stmt := top 37
abbrev s_u_law_take : Stmt := top 38
abbrev s_u_law_of : Stmt := top 39
abbrev s_u_law_cells : Stmt := top 40
abbrev s_u_law_divisor : Stmt := top 41
abbrev s_u_law_lowest : Stmt := top 42
abbrev s_u_law_plus : Stmt := top 43
abbrev s_u_law_by : Stmt := top 44
abbrev s_u_law_fraction_text : Stmt := top 45
abbrev s_u_law_times : Stmt := top 46
abbrev s_u_law_raised : Stmt := top 47
abbrev s_u_law_prime_powers : Stmt := top 48
abbrev s_u_law_whole_number : Stmt := top 49
abbrev s_u_law_great : Stmt := top 50
abbrev s_u_law_power_of : Stmt := top 51
abbrev s_u_law_factor : Stmt := top 52
abbrev s_u_law_text_and_number : Stmt := top 53
abbrev s_u_law_powered : Stmt := top 54
abbrev s_u_law_whole_power : Stmt := top 55
abbrev s_u_law_is_between : Stmt := top 56
abbrev s_u_law_right : Stmt := top 57
abbrev s_law : Stmt := top 58
abbrev fa : List He.Fa := [.glo "log_bounds", .glo "sign_by_logs", .glo "is_integer", .glo "is_whole", .glo "is_tuple", .glo "is_ascending", .glo "divisor", .glo "lowest", .glo "is_fraction", .glo "powered", .glo "is_prime", .glo "is_number", .glo "check_number", .glo "wholes", .glo "bits_above", .glo "whole_product", .glo "between", .glo "step_below", .glo "root_below", .glo "_law_pot", .glo "_law_take", .glo "_law_of", .glo "_law_cells", .glo "_law_divisor", .glo "_law_lowest", .glo "_law_plus", .glo "_law_by", .glo "_law_fraction_text", .glo "_law_times", .glo "_law_raised", .glo "_law_prime_powers", .glo "_law_whole_number", .glo "_law_great", .glo "_law_power_of", .glo "_law_factor", .glo "_law_text_and_number", .glo "_law_powered", .glo "_law_whole_power", .glo "_law_is_between", .glo "_law_right", .glo "law", .glo "ModelError", .glo "BadNumber", .glo "BadFigures", .free "abs", .free "all", .free "bool", .free "dict", .free "int", .free "isinstance", .free "len", .free "list", .free "max", .free "min", .free "range", .free "repr", .free "sorted", .free "str", .free "sum", .free "tuple", .free "zip", .int "PAIR_logs" (2), .int "MORE_FIGURES" (10), .int "FIRST_FIGURES" (64), .int "PAIR_plain" (2), .int "PAIR_numbers" (2), .int "LEAST_PRIME" (2), .int "MOST_PRIME" (9999), .int "MOST_FIGURES" (12), .int "MOST_BITS" (4194304), .int "TEN" (10)]
def d_log_bounds : He.DefD := ⟨("log_bounds", none), "log_bounds", "log_bounds", defArgs s_log_bounds, defBody s_log_bounds, defScope s_log_bounds, [], []⟩
def d_sign_by_logs : He.DefD := ⟨("sign_by_logs", none), "sign_by_logs", "sign_by_logs", defArgs s_sign_by_logs, defBody s_sign_by_logs, defScope s_sign_by_logs, [], []⟩
def d_is_integer : He.DefD := ⟨("is_integer", none), "is_integer", "is_integer", defArgs s_is_integer, defBody s_is_integer, defScope s_is_integer, [], []⟩
def d_is_whole : He.DefD := ⟨("is_whole", none), "is_whole", "is_whole", defArgs s_is_whole, defBody s_is_whole, defScope s_is_whole, [], []⟩
def d_is_tuple : He.DefD := ⟨("is_tuple", none), "is_tuple", "is_tuple", defArgs s_is_tuple, defBody s_is_tuple, defScope s_is_tuple, [], []⟩
def d_is_ascending : He.DefD := ⟨("is_ascending", none), "is_ascending", "is_ascending", defArgs s_is_ascending, defBody s_is_ascending, defScope s_is_ascending, [], []⟩
def d_divisor : He.DefD := ⟨("divisor", none), "divisor", "divisor", defArgs s_divisor, defBody s_divisor, defScope s_divisor, [], []⟩
def d_lowest : He.DefD := ⟨("lowest", none), "lowest", "lowest", defArgs s_lowest, defBody s_lowest, defScope s_lowest, [], []⟩
def d_is_fraction : He.DefD := ⟨("is_fraction", none), "is_fraction", "is_fraction", defArgs s_is_fraction, defBody s_is_fraction, defScope s_is_fraction, [], []⟩
def d_powered : He.DefD := ⟨("powered", none), "powered", "powered", defArgs s_powered, defBody s_powered, defScope s_powered, [], []⟩
def d_is_prime : He.DefD := ⟨("is_prime", none), "is_prime", "is_prime", defArgs s_is_prime, defBody s_is_prime, defScope s_is_prime, [], []⟩
def d_is_number : He.DefD := ⟨("is_number", none), "is_number", "is_number", defArgs s_is_number, defBody s_is_number, defScope s_is_number, [], []⟩
def d_check_number : He.DefD := ⟨("check_number", none), "check_number", "check_number", defArgs s_check_number, defBody s_check_number, defScope s_check_number, [], []⟩
def d_wholes : He.DefD := ⟨("wholes", none), "wholes", "wholes", defArgs s_wholes, defBody s_wholes, defScope s_wholes, [], []⟩
def d_bits_above : He.DefD := ⟨("bits_above", none), "bits_above", "bits_above", defArgs s_bits_above, defBody s_bits_above, defScope s_bits_above, [], []⟩
def d_whole_product : He.DefD := ⟨("whole_product", none), "whole_product", "whole_product", defArgs s_whole_product, defBody s_whole_product, defScope s_whole_product, [], []⟩
def d_between : He.DefD := ⟨("between", none), "between", "between", defArgs s_between, defBody s_between, defScope s_between, [], []⟩
def d_step_below : He.DefD := ⟨("step_below", none), "step_below", "step_below", defArgs s_step_below, defBody s_step_below, defScope s_step_below, [], []⟩
def d_root_below : He.DefD := ⟨("root_below", none), "root_below", "root_below", defArgs s_root_below, defBody s_root_below, defScope s_root_below, [], []⟩
def d_u_law_pot : He.DefD := ⟨("_law_pot", none), "_law_pot", "_law_pot", defArgs s_u_law_pot, defBody s_u_law_pot, defScope s_u_law_pot, [], []⟩
def d_u_law_take : He.DefD := ⟨("_law_take", none), "_law_take", "_law_take", defArgs s_u_law_take, defBody s_u_law_take, defScope s_u_law_take, [], []⟩
def d_u_law_of : He.DefD := ⟨("_law_of", none), "_law_of", "_law_of", defArgs s_u_law_of, defBody s_u_law_of, defScope s_u_law_of, [], []⟩
def d_u_law_cells : He.DefD := ⟨("_law_cells", none), "_law_cells", "_law_cells", defArgs s_u_law_cells, defBody s_u_law_cells, defScope s_u_law_cells, [], []⟩
def d_u_law_divisor : He.DefD := ⟨("_law_divisor", none), "_law_divisor", "_law_divisor", defArgs s_u_law_divisor, defBody s_u_law_divisor, defScope s_u_law_divisor, [], []⟩
def d_u_law_lowest : He.DefD := ⟨("_law_lowest", none), "_law_lowest", "_law_lowest", defArgs s_u_law_lowest, defBody s_u_law_lowest, defScope s_u_law_lowest, [], []⟩
def d_u_law_plus : He.DefD := ⟨("_law_plus", none), "_law_plus", "_law_plus", defArgs s_u_law_plus, defBody s_u_law_plus, defScope s_u_law_plus, [], []⟩
def d_u_law_by : He.DefD := ⟨("_law_by", none), "_law_by", "_law_by", defArgs s_u_law_by, defBody s_u_law_by, defScope s_u_law_by, [], []⟩
def d_u_law_fraction_text : He.DefD := ⟨("_law_fraction_text", none), "_law_fraction_text", "_law_fraction_text", defArgs s_u_law_fraction_text, defBody s_u_law_fraction_text, defScope s_u_law_fraction_text, [], []⟩
def d_u_law_times : He.DefD := ⟨("_law_times", none), "_law_times", "_law_times", defArgs s_u_law_times, defBody s_u_law_times, defScope s_u_law_times, [], []⟩
def d_u_law_raised : He.DefD := ⟨("_law_raised", none), "_law_raised", "_law_raised", defArgs s_u_law_raised, defBody s_u_law_raised, defScope s_u_law_raised, [], []⟩
def d_u_law_prime_powers : He.DefD := ⟨("_law_prime_powers", none), "_law_prime_powers", "_law_prime_powers", defArgs s_u_law_prime_powers, defBody s_u_law_prime_powers, defScope s_u_law_prime_powers, [], []⟩
def d_u_law_whole_number : He.DefD := ⟨("_law_whole_number", none), "_law_whole_number", "_law_whole_number", defArgs s_u_law_whole_number, defBody s_u_law_whole_number, defScope s_u_law_whole_number, [], []⟩
def d_u_law_great : He.DefD := ⟨("_law_great", none), "_law_great", "_law_great", defArgs s_u_law_great, defBody s_u_law_great, defScope s_u_law_great, [], []⟩
def d_u_law_power_of : He.DefD := ⟨("_law_power_of", none), "_law_power_of", "_law_power_of", defArgs s_u_law_power_of, defBody s_u_law_power_of, defScope s_u_law_power_of, [], []⟩
def d_u_law_factor : He.DefD := ⟨("_law_factor", none), "_law_factor", "_law_factor", defArgs s_u_law_factor, defBody s_u_law_factor, defScope s_u_law_factor, [], []⟩
def d_u_law_text_and_number : He.DefD := ⟨("_law_text_and_number", none), "_law_text_and_number", "_law_text_and_number", defArgs s_u_law_text_and_number, defBody s_u_law_text_and_number, defScope s_u_law_text_and_number, [], []⟩
def d_u_law_powered : He.DefD := ⟨("_law_powered", none), "_law_powered", "_law_powered", defArgs s_u_law_powered, defBody s_u_law_powered, defScope s_u_law_powered, [], []⟩
def d_u_law_whole_power : He.DefD := ⟨("_law_whole_power", none), "_law_whole_power", "_law_whole_power", defArgs s_u_law_whole_power, defBody s_u_law_whole_power, defScope s_u_law_whole_power, [], []⟩
def d_u_law_is_between : He.DefD := ⟨("_law_is_between", none), "_law_is_between", "_law_is_between", defArgs s_u_law_is_between, defBody s_u_law_is_between, defScope s_u_law_is_between, [], []⟩
def d_u_law_right : He.DefD := ⟨("_law_right", none), "_law_right", "_law_right", defArgs s_u_law_right, defBody s_u_law_right, defScope s_u_law_right, [], []⟩
def d_law : He.DefD := ⟨("law", none), "law", "law", defArgs s_law, defBody s_law, defScope s_law, [], []⟩
def fn : List He.DefD := [d_log_bounds, d_sign_by_logs, d_is_integer, d_is_whole, d_is_tuple, d_is_ascending, d_divisor, d_lowest, d_is_fraction, d_powered, d_is_prime, d_is_number, d_check_number, d_wholes, d_bits_above, d_whole_product, d_between, d_step_below, d_root_below, d_u_law_pot, d_u_law_take, d_u_law_of, d_u_law_cells, d_u_law_divisor, d_u_law_lowest, d_u_law_plus, d_u_law_by, d_u_law_fraction_text, d_u_law_times, d_u_law_raised, d_u_law_prime_powers, d_u_law_whole_number, d_u_law_great, d_u_law_power_of, d_u_law_factor, d_u_law_text_and_number, d_u_law_powered, d_u_law_whole_power, d_u_law_is_between, d_u_law_right, d_law]
/-- what the top has left -/
def ex (K : PySem.W.Frag) : Bool := true
structure Tx (K : PySem.W.Frag) (mg : Str → Option Value) : Prop where
  c : He.SaysD fa fn K
  h : ∃ h : Heap, K.In h ∧ h.Ns mainGlobals mg
  x : ex K = true
section
variable {K : PySem.W.Frag} {mg : Str → Option Value}
theorem Tx.g_log_bounds (T : Tx K mg) : mg "log_bounds" = some (.ref (He.ga K "log_bounds")) := by obtain ⟨h, X, G⟩ := T.h; exact He.glo_ok X G (T.c.fact 0 (f := .glo "log_bounds") rfl)
theorem Tx.g_sign_by_logs (T : Tx K mg) : mg "sign_by_logs" = some (.ref (He.ga K "sign_by_logs")) := by obtain ⟨h, X, G⟩ := T.h; exact He.glo_ok X G (T.c.fact 1 (f := .glo "sign_by_logs") rfl)
theorem Tx.g_is_integer (T : Tx K mg) : mg "is_integer" = some (.ref (He.ga K "is_integer")) := by obtain ⟨h, X, G⟩ := T.h; exact He.glo_ok X G (T.c.fact 2 (f := .glo "is_integer") rfl)
theorem Tx.g_is_whole (T : Tx K mg) : mg "is_whole" = some (.ref (He.ga K "is_whole")) := by obtain ⟨h, X, G⟩ := T.h; exact He.glo_ok X G (T.c.fact 3 (f := .glo "is_whole") rfl)
theorem Tx.g_is_tuple (T : Tx K mg) : mg "is_tuple" = some (.ref (He.ga K "is_tuple")) := by obtain ⟨h, X, G⟩ := T.h; exact He.glo_ok X G (T.c.fact 4 (f := .glo "is_tuple") rfl)
theorem Tx.g_is_ascending (T : Tx K mg) : mg "is_ascending" = some (.ref (He.ga K "is_ascending")) := by obtain ⟨h, X, G⟩ := T.h; exact He.glo_ok X G (T.c.fact 5 (f := .glo "is_ascending") rfl)
theorem Tx.g_divisor (T : Tx K mg) : mg "divisor" = some (.ref (He.ga K "divisor")) := by obtain ⟨h, X, G⟩ := T.h; exact He.glo_ok X G (T.c.fact 6 (f := .glo "divisor") rfl)
theorem Tx.g_lowest (T : Tx K mg) : mg "lowest" = some (.ref (He.ga K "lowest")) := by obtain ⟨h, X, G⟩ := T.h; exact He.glo_ok X G (T.c.fact 7 (f := .glo "lowest") rfl)
theorem Tx.g_is_fraction (T : Tx K mg) : mg "is_fraction" = some (.ref (He.ga K "is_fraction")) := by obtain ⟨h, X, G⟩ := T.h; exact He.glo_ok X G (T.c.fact 8 (f := .glo "is_fraction") rfl)
theorem Tx.g_powered (T : Tx K mg) : mg "powered" = some (.ref (He.ga K "powered")) := by obtain ⟨h, X, G⟩ := T.h; exact He.glo_ok X G (T.c.fact 9 (f := .glo "powered") rfl)
theorem Tx.g_is_prime (T : Tx K mg) : mg "is_prime" = some (.ref (He.ga K "is_prime")) := by obtain ⟨h, X, G⟩ := T.h; exact He.glo_ok X G (T.c.fact 10 (f := .glo "is_prime") rfl)
theorem Tx.g_is_number (T : Tx K mg) : mg "is_number" = some (.ref (He.ga K "is_number")) := by obtain ⟨h, X, G⟩ := T.h; exact He.glo_ok X G (T.c.fact 11 (f := .glo "is_number") rfl)
theorem Tx.g_check_number (T : Tx K mg) : mg "check_number" = some (.ref (He.ga K "check_number")) := by obtain ⟨h, X, G⟩ := T.h; exact He.glo_ok X G (T.c.fact 12 (f := .glo "check_number") rfl)
theorem Tx.g_wholes (T : Tx K mg) : mg "wholes" = some (.ref (He.ga K "wholes")) := by obtain ⟨h, X, G⟩ := T.h; exact He.glo_ok X G (T.c.fact 13 (f := .glo "wholes") rfl)
theorem Tx.g_bits_above (T : Tx K mg) : mg "bits_above" = some (.ref (He.ga K "bits_above")) := by obtain ⟨h, X, G⟩ := T.h; exact He.glo_ok X G (T.c.fact 14 (f := .glo "bits_above") rfl)
theorem Tx.g_whole_product (T : Tx K mg) : mg "whole_product" = some (.ref (He.ga K "whole_product")) := by obtain ⟨h, X, G⟩ := T.h; exact He.glo_ok X G (T.c.fact 15 (f := .glo "whole_product") rfl)
theorem Tx.g_between (T : Tx K mg) : mg "between" = some (.ref (He.ga K "between")) := by obtain ⟨h, X, G⟩ := T.h; exact He.glo_ok X G (T.c.fact 16 (f := .glo "between") rfl)
theorem Tx.g_step_below (T : Tx K mg) : mg "step_below" = some (.ref (He.ga K "step_below")) := by obtain ⟨h, X, G⟩ := T.h; exact He.glo_ok X G (T.c.fact 17 (f := .glo "step_below") rfl)
theorem Tx.g_root_below (T : Tx K mg) : mg "root_below" = some (.ref (He.ga K "root_below")) := by obtain ⟨h, X, G⟩ := T.h; exact He.glo_ok X G (T.c.fact 18 (f := .glo "root_below") rfl)
theorem Tx.g_u_law_pot (T : Tx K mg) : mg "_law_pot" = some (.ref (He.ga K "_law_pot")) := by obtain ⟨h, X, G⟩ := T.h; exact He.glo_ok X G (T.c.fact 19 (f := .glo "_law_pot") rfl)
theorem Tx.g_u_law_take (T : Tx K mg) : mg "_law_take" = some (.ref (He.ga K "_law_take")) := by obtain ⟨h, X, G⟩ := T.h; exact He.glo_ok X G (T.c.fact 20 (f := .glo "_law_take") rfl)
theorem Tx.g_u_law_of (T : Tx K mg) : mg "_law_of" = some (.ref (He.ga K "_law_of")) := by obtain ⟨h, X, G⟩ := T.h; exact He.glo_ok X G (T.c.fact 21 (f := .glo "_law_of") rfl)
theorem Tx.g_u_law_cells (T : Tx K mg) : mg "_law_cells" = some (.ref (He.ga K "_law_cells")) := by obtain ⟨h, X, G⟩ := T.h; exact He.glo_ok X G (T.c.fact 22 (f := .glo "_law_cells") rfl)
theorem Tx.g_u_law_divisor (T : Tx K mg) : mg "_law_divisor" = some (.ref (He.ga K "_law_divisor")) := by obtain ⟨h, X, G⟩ := T.h; exact He.glo_ok X G (T.c.fact 23 (f := .glo "_law_divisor") rfl)
theorem Tx.g_u_law_lowest (T : Tx K mg) : mg "_law_lowest" = some (.ref (He.ga K "_law_lowest")) := by obtain ⟨h, X, G⟩ := T.h; exact He.glo_ok X G (T.c.fact 24 (f := .glo "_law_lowest") rfl)
theorem Tx.g_u_law_plus (T : Tx K mg) : mg "_law_plus" = some (.ref (He.ga K "_law_plus")) := by obtain ⟨h, X, G⟩ := T.h; exact He.glo_ok X G (T.c.fact 25 (f := .glo "_law_plus") rfl)
theorem Tx.g_u_law_by (T : Tx K mg) : mg "_law_by" = some (.ref (He.ga K "_law_by")) := by obtain ⟨h, X, G⟩ := T.h; exact He.glo_ok X G (T.c.fact 26 (f := .glo "_law_by") rfl)
theorem Tx.g_u_law_fraction_text (T : Tx K mg) : mg "_law_fraction_text" = some (.ref (He.ga K "_law_fraction_text")) := by obtain ⟨h, X, G⟩ := T.h; exact He.glo_ok X G (T.c.fact 27 (f := .glo "_law_fraction_text") rfl)
theorem Tx.g_u_law_times (T : Tx K mg) : mg "_law_times" = some (.ref (He.ga K "_law_times")) := by obtain ⟨h, X, G⟩ := T.h; exact He.glo_ok X G (T.c.fact 28 (f := .glo "_law_times") rfl)
theorem Tx.g_u_law_raised (T : Tx K mg) : mg "_law_raised" = some (.ref (He.ga K "_law_raised")) := by obtain ⟨h, X, G⟩ := T.h; exact He.glo_ok X G (T.c.fact 29 (f := .glo "_law_raised") rfl)
theorem Tx.g_u_law_prime_powers (T : Tx K mg) : mg "_law_prime_powers" = some (.ref (He.ga K "_law_prime_powers")) := by obtain ⟨h, X, G⟩ := T.h; exact He.glo_ok X G (T.c.fact 30 (f := .glo "_law_prime_powers") rfl)
theorem Tx.g_u_law_whole_number (T : Tx K mg) : mg "_law_whole_number" = some (.ref (He.ga K "_law_whole_number")) := by obtain ⟨h, X, G⟩ := T.h; exact He.glo_ok X G (T.c.fact 31 (f := .glo "_law_whole_number") rfl)
theorem Tx.g_u_law_great (T : Tx K mg) : mg "_law_great" = some (.ref (He.ga K "_law_great")) := by obtain ⟨h, X, G⟩ := T.h; exact He.glo_ok X G (T.c.fact 32 (f := .glo "_law_great") rfl)
theorem Tx.g_u_law_power_of (T : Tx K mg) : mg "_law_power_of" = some (.ref (He.ga K "_law_power_of")) := by obtain ⟨h, X, G⟩ := T.h; exact He.glo_ok X G (T.c.fact 33 (f := .glo "_law_power_of") rfl)
theorem Tx.g_u_law_factor (T : Tx K mg) : mg "_law_factor" = some (.ref (He.ga K "_law_factor")) := by obtain ⟨h, X, G⟩ := T.h; exact He.glo_ok X G (T.c.fact 34 (f := .glo "_law_factor") rfl)
theorem Tx.g_u_law_text_and_number (T : Tx K mg) : mg "_law_text_and_number" = some (.ref (He.ga K "_law_text_and_number")) := by obtain ⟨h, X, G⟩ := T.h; exact He.glo_ok X G (T.c.fact 35 (f := .glo "_law_text_and_number") rfl)
theorem Tx.g_u_law_powered (T : Tx K mg) : mg "_law_powered" = some (.ref (He.ga K "_law_powered")) := by obtain ⟨h, X, G⟩ := T.h; exact He.glo_ok X G (T.c.fact 36 (f := .glo "_law_powered") rfl)
theorem Tx.g_u_law_whole_power (T : Tx K mg) : mg "_law_whole_power" = some (.ref (He.ga K "_law_whole_power")) := by obtain ⟨h, X, G⟩ := T.h; exact He.glo_ok X G (T.c.fact 37 (f := .glo "_law_whole_power") rfl)
theorem Tx.g_u_law_is_between (T : Tx K mg) : mg "_law_is_between" = some (.ref (He.ga K "_law_is_between")) := by obtain ⟨h, X, G⟩ := T.h; exact He.glo_ok X G (T.c.fact 38 (f := .glo "_law_is_between") rfl)
theorem Tx.g_u_law_right (T : Tx K mg) : mg "_law_right" = some (.ref (He.ga K "_law_right")) := by obtain ⟨h, X, G⟩ := T.h; exact He.glo_ok X G (T.c.fact 39 (f := .glo "_law_right") rfl)
theorem Tx.g_law (T : Tx K mg) : mg "law" = some (.ref (He.ga K "law")) := by obtain ⟨h, X, G⟩ := T.h; exact He.glo_ok X G (T.c.fact 40 (f := .glo "law") rfl)
theorem Tx.g_ModelError (T : Tx K mg) : mg "ModelError" = some (.ref (He.ga K "ModelError")) := by obtain ⟨h, X, G⟩ := T.h; exact He.glo_ok X G (T.c.fact 41 (f := .glo "ModelError") rfl)
theorem Tx.g_BadNumber (T : Tx K mg) : mg "BadNumber" = some (.ref (He.ga K "BadNumber")) := by obtain ⟨h, X, G⟩ := T.h; exact He.glo_ok X G (T.c.fact 42 (f := .glo "BadNumber") rfl)
theorem Tx.g_BadFigures (T : Tx K mg) : mg "BadFigures" = some (.ref (He.ga K "BadFigures")) := by obtain ⟨h, X, G⟩ := T.h; exact He.glo_ok X G (T.c.fact 43 (f := .glo "BadFigures") rfl)
theorem Tx.b_abs (T : Tx K mg) : mg "abs" = none := by obtain ⟨h, X, G⟩ := T.h; exact He.free_ok X G (T.c.fact 44 (f := .free "abs") rfl)
theorem Tx.b_all (T : Tx K mg) : mg "all" = none := by obtain ⟨h, X, G⟩ := T.h; exact He.free_ok X G (T.c.fact 45 (f := .free "all") rfl)
theorem Tx.b_bool (T : Tx K mg) : mg "bool" = none := by obtain ⟨h, X, G⟩ := T.h; exact He.free_ok X G (T.c.fact 46 (f := .free "bool") rfl)
theorem Tx.b_dict (T : Tx K mg) : mg "dict" = none := by obtain ⟨h, X, G⟩ := T.h; exact He.free_ok X G (T.c.fact 47 (f := .free "dict") rfl)
theorem Tx.b_int (T : Tx K mg) : mg "int" = none := by obtain ⟨h, X, G⟩ := T.h; exact He.free_ok X G (T.c.fact 48 (f := .free "int") rfl)
theorem Tx.b_isinstance (T : Tx K mg) : mg "isinstance" = none := by obtain ⟨h, X, G⟩ := T.h; exact He.free_ok X G (T.c.fact 49 (f := .free "isinstance") rfl)
theorem Tx.b_len (T : Tx K mg) : mg "len" = none := by obtain ⟨h, X, G⟩ := T.h; exact He.free_ok X G (T.c.fact 50 (f := .free "len") rfl)
theorem Tx.b_list (T : Tx K mg) : mg "list" = none := by obtain ⟨h, X, G⟩ := T.h; exact He.free_ok X G (T.c.fact 51 (f := .free "list") rfl)
theorem Tx.b_max (T : Tx K mg) : mg "max" = none := by obtain ⟨h, X, G⟩ := T.h; exact He.free_ok X G (T.c.fact 52 (f := .free "max") rfl)
theorem Tx.b_min (T : Tx K mg) : mg "min" = none := by obtain ⟨h, X, G⟩ := T.h; exact He.free_ok X G (T.c.fact 53 (f := .free "min") rfl)
theorem Tx.b_range (T : Tx K mg) : mg "range" = none := by obtain ⟨h, X, G⟩ := T.h; exact He.free_ok X G (T.c.fact 54 (f := .free "range") rfl)
theorem Tx.b_repr (T : Tx K mg) : mg "repr" = none := by obtain ⟨h, X, G⟩ := T.h; exact He.free_ok X G (T.c.fact 55 (f := .free "repr") rfl)
theorem Tx.b_sorted (T : Tx K mg) : mg "sorted" = none := by obtain ⟨h, X, G⟩ := T.h; exact He.free_ok X G (T.c.fact 56 (f := .free "sorted") rfl)
theorem Tx.b_str (T : Tx K mg) : mg "str" = none := by obtain ⟨h, X, G⟩ := T.h; exact He.free_ok X G (T.c.fact 57 (f := .free "str") rfl)
theorem Tx.b_sum (T : Tx K mg) : mg "sum" = none := by obtain ⟨h, X, G⟩ := T.h; exact He.free_ok X G (T.c.fact 58 (f := .free "sum") rfl)
theorem Tx.b_tuple (T : Tx K mg) : mg "tuple" = none := by obtain ⟨h, X, G⟩ := T.h; exact He.free_ok X G (T.c.fact 59 (f := .free "tuple") rfl)
theorem Tx.b_zip (T : Tx K mg) : mg "zip" = none := by obtain ⟨h, X, G⟩ := T.h; exact He.free_ok X G (T.c.fact 60 (f := .free "zip") rfl)
theorem Tx.i_PAIR_logs (T : Tx K mg) : ∃ t, mg "PAIR_logs" = some (.int (2) t) := by obtain ⟨h, X, G⟩ := T.h; exact He.int_ok X G (T.c.fact 61 (f := .int "PAIR_logs" (2)) rfl)
theorem Tx.i_MORE_FIGURES (T : Tx K mg) : ∃ t, mg "MORE_FIGURES" = some (.int (10) t) := by obtain ⟨h, X, G⟩ := T.h; exact He.int_ok X G (T.c.fact 62 (f := .int "MORE_FIGURES" (10)) rfl)
theorem Tx.i_FIRST_FIGURES (T : Tx K mg) : ∃ t, mg "FIRST_FIGURES" = some (.int (64) t) := by obtain ⟨h, X, G⟩ := T.h; exact He.int_ok X G (T.c.fact 63 (f := .int "FIRST_FIGURES" (64)) rfl)
theorem Tx.i_PAIR_plain (T : Tx K mg) : ∃ t, mg "PAIR_plain" = some (.int (2) t) := by obtain ⟨h, X, G⟩ := T.h; exact He.int_ok X G (T.c.fact 64 (f := .int "PAIR_plain" (2)) rfl)
theorem Tx.i_PAIR_numbers (T : Tx K mg) : ∃ t, mg "PAIR_numbers" = some (.int (2) t) := by obtain ⟨h, X, G⟩ := T.h; exact He.int_ok X G (T.c.fact 65 (f := .int "PAIR_numbers" (2)) rfl)
theorem Tx.i_LEAST_PRIME (T : Tx K mg) : ∃ t, mg "LEAST_PRIME" = some (.int (2) t) := by obtain ⟨h, X, G⟩ := T.h; exact He.int_ok X G (T.c.fact 66 (f := .int "LEAST_PRIME" (2)) rfl)
theorem Tx.i_MOST_PRIME (T : Tx K mg) : ∃ t, mg "MOST_PRIME" = some (.int (9999) t) := by obtain ⟨h, X, G⟩ := T.h; exact He.int_ok X G (T.c.fact 67 (f := .int "MOST_PRIME" (9999)) rfl)
theorem Tx.i_MOST_FIGURES (T : Tx K mg) : ∃ t, mg "MOST_FIGURES" = some (.int (12) t) := by obtain ⟨h, X, G⟩ := T.h; exact He.int_ok X G (T.c.fact 68 (f := .int "MOST_FIGURES" (12)) rfl)
theorem Tx.i_MOST_BITS (T : Tx K mg) : ∃ t, mg "MOST_BITS" = some (.int (4194304) t) := by obtain ⟨h, X, G⟩ := T.h; exact He.int_ok X G (T.c.fact 69 (f := .int "MOST_BITS" (4194304)) rfl)
theorem Tx.i_TEN (T : Tx K mg) : ∃ t, mg "TEN" = some (.int (10) t) := by obtain ⟨h, X, G⟩ := T.h; exact He.int_ok X G (T.c.fact 70 (f := .int "TEN" (10)) rfl)
theorem Tx.f_log_bounds (T : Tx K mg) : ∃ fd, FunD K "log_bounds" "log_bounds" (defArgs s_log_bounds) (defBody s_log_bounds) (defScope s_log_bounds) [] [] (He.ga K "log_bounds") fd := T.c.def_ 0 (d := d_log_bounds) rfl
theorem Tx.f_sign_by_logs (T : Tx K mg) : ∃ fd, FunD K "sign_by_logs" "sign_by_logs" (defArgs s_sign_by_logs) (defBody s_sign_by_logs) (defScope s_sign_by_logs) [] [] (He.ga K "sign_by_logs") fd := T.c.def_ 1 (d := d_sign_by_logs) rfl
theorem Tx.f_is_integer (T : Tx K mg) : ∃ fd, FunD K "is_integer" "is_integer" (defArgs s_is_integer) (defBody s_is_integer) (defScope s_is_integer) [] [] (He.ga K "is_integer") fd := T.c.def_ 2 (d := d_is_integer) rfl
theorem Tx.f_is_whole (T : Tx K mg) : ∃ fd, FunD K "is_whole" "is_whole" (defArgs s_is_whole) (defBody s_is_whole) (defScope s_is_whole) [] [] (He.ga K "is_whole") fd := T.c.def_ 3 (d := d_is_whole) rfl
theorem Tx.f_is_tuple (T : Tx K mg) : ∃ fd, FunD K "is_tuple" "is_tuple" (defArgs s_is_tuple) (defBody s_is_tuple) (defScope s_is_tuple) [] [] (He.ga K "is_tuple") fd := T.c.def_ 4 (d := d_is_tuple) rfl
theorem Tx.f_is_ascending (T : Tx K mg) : ∃ fd, FunD K "is_ascending" "is_ascending" (defArgs s_is_ascending) (defBody s_is_ascending) (defScope s_is_ascending) [] [] (He.ga K "is_ascending") fd := T.c.def_ 5 (d := d_is_ascending) rfl
theorem Tx.f_divisor (T : Tx K mg) : ∃ fd, FunD K "divisor" "divisor" (defArgs s_divisor) (defBody s_divisor) (defScope s_divisor) [] [] (He.ga K "divisor") fd := T.c.def_ 6 (d := d_divisor) rfl
theorem Tx.f_lowest (T : Tx K mg) : ∃ fd, FunD K "lowest" "lowest" (defArgs s_lowest) (defBody s_lowest) (defScope s_lowest) [] [] (He.ga K "lowest") fd := T.c.def_ 7 (d := d_lowest) rfl
theorem Tx.f_is_fraction (T : Tx K mg) : ∃ fd, FunD K "is_fraction" "is_fraction" (defArgs s_is_fraction) (defBody s_is_fraction) (defScope s_is_fraction) [] [] (He.ga K "is_fraction") fd := T.c.def_ 8 (d := d_is_fraction) rfl
theorem Tx.f_powered (T : Tx K mg) : ∃ fd, FunD K "powered" "powered" (defArgs s_powered) (defBody s_powered) (defScope s_powered) [] [] (He.ga K "powered") fd := T.c.def_ 9 (d := d_powered) rfl
theorem Tx.f_is_prime (T : Tx K mg) : ∃ fd, FunD K "is_prime" "is_prime" (defArgs s_is_prime) (defBody s_is_prime) (defScope s_is_prime) [] [] (He.ga K "is_prime") fd := T.c.def_ 10 (d := d_is_prime) rfl
theorem Tx.f_is_number (T : Tx K mg) : ∃ fd, FunD K "is_number" "is_number" (defArgs s_is_number) (defBody s_is_number) (defScope s_is_number) [] [] (He.ga K "is_number") fd := T.c.def_ 11 (d := d_is_number) rfl
theorem Tx.f_check_number (T : Tx K mg) : ∃ fd, FunD K "check_number" "check_number" (defArgs s_check_number) (defBody s_check_number) (defScope s_check_number) [] [] (He.ga K "check_number") fd := T.c.def_ 12 (d := d_check_number) rfl
theorem Tx.f_wholes (T : Tx K mg) : ∃ fd, FunD K "wholes" "wholes" (defArgs s_wholes) (defBody s_wholes) (defScope s_wholes) [] [] (He.ga K "wholes") fd := T.c.def_ 13 (d := d_wholes) rfl
theorem Tx.f_bits_above (T : Tx K mg) : ∃ fd, FunD K "bits_above" "bits_above" (defArgs s_bits_above) (defBody s_bits_above) (defScope s_bits_above) [] [] (He.ga K "bits_above") fd := T.c.def_ 14 (d := d_bits_above) rfl
theorem Tx.f_whole_product (T : Tx K mg) : ∃ fd, FunD K "whole_product" "whole_product" (defArgs s_whole_product) (defBody s_whole_product) (defScope s_whole_product) [] [] (He.ga K "whole_product") fd := T.c.def_ 15 (d := d_whole_product) rfl
theorem Tx.f_between (T : Tx K mg) : ∃ fd, FunD K "between" "between" (defArgs s_between) (defBody s_between) (defScope s_between) [] [] (He.ga K "between") fd := T.c.def_ 16 (d := d_between) rfl
theorem Tx.f_step_below (T : Tx K mg) : ∃ fd, FunD K "step_below" "step_below" (defArgs s_step_below) (defBody s_step_below) (defScope s_step_below) [] [] (He.ga K "step_below") fd := T.c.def_ 17 (d := d_step_below) rfl
theorem Tx.f_root_below (T : Tx K mg) : ∃ fd, FunD K "root_below" "root_below" (defArgs s_root_below) (defBody s_root_below) (defScope s_root_below) [] [] (He.ga K "root_below") fd := T.c.def_ 18 (d := d_root_below) rfl
theorem Tx.f_u_law_pot (T : Tx K mg) : ∃ fd, FunD K "_law_pot" "_law_pot" (defArgs s_u_law_pot) (defBody s_u_law_pot) (defScope s_u_law_pot) [] [] (He.ga K "_law_pot") fd := T.c.def_ 19 (d := d_u_law_pot) rfl
theorem Tx.f_u_law_take (T : Tx K mg) : ∃ fd, FunD K "_law_take" "_law_take" (defArgs s_u_law_take) (defBody s_u_law_take) (defScope s_u_law_take) [] [] (He.ga K "_law_take") fd := T.c.def_ 20 (d := d_u_law_take) rfl
theorem Tx.f_u_law_of (T : Tx K mg) : ∃ fd, FunD K "_law_of" "_law_of" (defArgs s_u_law_of) (defBody s_u_law_of) (defScope s_u_law_of) [] [] (He.ga K "_law_of") fd := T.c.def_ 21 (d := d_u_law_of) rfl
theorem Tx.f_u_law_cells (T : Tx K mg) : ∃ fd, FunD K "_law_cells" "_law_cells" (defArgs s_u_law_cells) (defBody s_u_law_cells) (defScope s_u_law_cells) [] [] (He.ga K "_law_cells") fd := T.c.def_ 22 (d := d_u_law_cells) rfl
theorem Tx.f_u_law_divisor (T : Tx K mg) : ∃ fd, FunD K "_law_divisor" "_law_divisor" (defArgs s_u_law_divisor) (defBody s_u_law_divisor) (defScope s_u_law_divisor) [] [] (He.ga K "_law_divisor") fd := T.c.def_ 23 (d := d_u_law_divisor) rfl
theorem Tx.f_u_law_lowest (T : Tx K mg) : ∃ fd, FunD K "_law_lowest" "_law_lowest" (defArgs s_u_law_lowest) (defBody s_u_law_lowest) (defScope s_u_law_lowest) [] [] (He.ga K "_law_lowest") fd := T.c.def_ 24 (d := d_u_law_lowest) rfl
theorem Tx.f_u_law_plus (T : Tx K mg) : ∃ fd, FunD K "_law_plus" "_law_plus" (defArgs s_u_law_plus) (defBody s_u_law_plus) (defScope s_u_law_plus) [] [] (He.ga K "_law_plus") fd := T.c.def_ 25 (d := d_u_law_plus) rfl
theorem Tx.f_u_law_by (T : Tx K mg) : ∃ fd, FunD K "_law_by" "_law_by" (defArgs s_u_law_by) (defBody s_u_law_by) (defScope s_u_law_by) [] [] (He.ga K "_law_by") fd := T.c.def_ 26 (d := d_u_law_by) rfl
theorem Tx.f_u_law_fraction_text (T : Tx K mg) : ∃ fd, FunD K "_law_fraction_text" "_law_fraction_text" (defArgs s_u_law_fraction_text) (defBody s_u_law_fraction_text) (defScope s_u_law_fraction_text) [] [] (He.ga K "_law_fraction_text") fd := T.c.def_ 27 (d := d_u_law_fraction_text) rfl
theorem Tx.f_u_law_times (T : Tx K mg) : ∃ fd, FunD K "_law_times" "_law_times" (defArgs s_u_law_times) (defBody s_u_law_times) (defScope s_u_law_times) [] [] (He.ga K "_law_times") fd := T.c.def_ 28 (d := d_u_law_times) rfl
theorem Tx.f_u_law_raised (T : Tx K mg) : ∃ fd, FunD K "_law_raised" "_law_raised" (defArgs s_u_law_raised) (defBody s_u_law_raised) (defScope s_u_law_raised) [] [] (He.ga K "_law_raised") fd := T.c.def_ 29 (d := d_u_law_raised) rfl
theorem Tx.f_u_law_prime_powers (T : Tx K mg) : ∃ fd, FunD K "_law_prime_powers" "_law_prime_powers" (defArgs s_u_law_prime_powers) (defBody s_u_law_prime_powers) (defScope s_u_law_prime_powers) [] [] (He.ga K "_law_prime_powers") fd := T.c.def_ 30 (d := d_u_law_prime_powers) rfl
theorem Tx.f_u_law_whole_number (T : Tx K mg) : ∃ fd, FunD K "_law_whole_number" "_law_whole_number" (defArgs s_u_law_whole_number) (defBody s_u_law_whole_number) (defScope s_u_law_whole_number) [] [] (He.ga K "_law_whole_number") fd := T.c.def_ 31 (d := d_u_law_whole_number) rfl
theorem Tx.f_u_law_great (T : Tx K mg) : ∃ fd, FunD K "_law_great" "_law_great" (defArgs s_u_law_great) (defBody s_u_law_great) (defScope s_u_law_great) [] [] (He.ga K "_law_great") fd := T.c.def_ 32 (d := d_u_law_great) rfl
theorem Tx.f_u_law_power_of (T : Tx K mg) : ∃ fd, FunD K "_law_power_of" "_law_power_of" (defArgs s_u_law_power_of) (defBody s_u_law_power_of) (defScope s_u_law_power_of) [] [] (He.ga K "_law_power_of") fd := T.c.def_ 33 (d := d_u_law_power_of) rfl
theorem Tx.f_u_law_factor (T : Tx K mg) : ∃ fd, FunD K "_law_factor" "_law_factor" (defArgs s_u_law_factor) (defBody s_u_law_factor) (defScope s_u_law_factor) [] [] (He.ga K "_law_factor") fd := T.c.def_ 34 (d := d_u_law_factor) rfl
theorem Tx.f_u_law_text_and_number (T : Tx K mg) : ∃ fd, FunD K "_law_text_and_number" "_law_text_and_number" (defArgs s_u_law_text_and_number) (defBody s_u_law_text_and_number) (defScope s_u_law_text_and_number) [] [] (He.ga K "_law_text_and_number") fd := T.c.def_ 35 (d := d_u_law_text_and_number) rfl
theorem Tx.f_u_law_powered (T : Tx K mg) : ∃ fd, FunD K "_law_powered" "_law_powered" (defArgs s_u_law_powered) (defBody s_u_law_powered) (defScope s_u_law_powered) [] [] (He.ga K "_law_powered") fd := T.c.def_ 36 (d := d_u_law_powered) rfl
theorem Tx.f_u_law_whole_power (T : Tx K mg) : ∃ fd, FunD K "_law_whole_power" "_law_whole_power" (defArgs s_u_law_whole_power) (defBody s_u_law_whole_power) (defScope s_u_law_whole_power) [] [] (He.ga K "_law_whole_power") fd := T.c.def_ 37 (d := d_u_law_whole_power) rfl
theorem Tx.f_u_law_is_between (T : Tx K mg) : ∃ fd, FunD K "_law_is_between" "_law_is_between" (defArgs s_u_law_is_between) (defBody s_u_law_is_between) (defScope s_u_law_is_between) [] [] (He.ga K "_law_is_between") fd := T.c.def_ 38 (d := d_u_law_is_between) rfl
theorem Tx.f_u_law_right (T : Tx K mg) : ∃ fd, FunD K "_law_right" "_law_right" (defArgs s_u_law_right) (defBody s_u_law_right) (defScope s_u_law_right) [] [] (He.ga K "_law_right") fd := T.c.def_ 39 (d := d_u_law_right) rfl
theorem Tx.f_law (T : Tx K mg) : ∃ fd, FunD K "law" "law" (defArgs s_law) (defBody s_law) (defScope s_law) [] [] (He.ga K "law") fd := T.c.def_ 40 (d := d_law) rfl
end
end K03

namespace K03
open PySem PySem.Spec PyProof.Rows L2 Evl My TL
section
variable {P : Program} {w : World} {K : PySem.W.Frag} {mg : Str → Option Value} {base : Heap}
def N_divisor : List Str := ["one", "other"]
theorem sc_divisor : FnScope N_divisor ["one", "other"] (defScope s_divisor) := ⟨rfl, rfl, rfl, by decide +kernel, rfl, by decide +kernel, by decide +kernel⟩
theorem ok_divisor (T : Tx K mg) : Ok P w K mg base 1 "divisor" ["one", "other"] (spDivisor K) := by
  refine Ok.mk (k := 0) T.f_divisor sc_divisor T.g_divisor (fun _ _ _ _ _ _ us hl => match us, hl with | [_, _], _ => rfl) (fun vs H Q E h => ?_) (fun cdv A outer s H vs Q E hr h => ?_)
  · exact len_spR h
  · refine ⟨_, PSs.nox (pss_cons (ps_par (i := 0) (j := 1) rfl sc_divisor.nd rfl rfl (by decide) rfl rfl (pa_cons (pe_callB call_abs rfl T.b_abs (by decide +kernel) (pa_cons (pv 0) pa_nil)) (pa_cons (pe_callB call_abs rfl T.b_abs (by decide +kernel) (pa_cons (pv 1) pa_nil)) pa_nil)) (by rfl))
        (pss_cons (ps_while PassesOwn.never (pt_cmpR (op_neDK (K := K) (by rfl) hr.units) (pv 1) pe_int (nomark _)) (pss_one (ps_par (i := 0) (j := 1) rfl sc_divisor.nd rfl rfl (by decide) rfl rfl (pa_cons (pv 1) (pa_cons (pe_op op_mod (pe_callTy call_int1 rfl T.b_int (by decide +kernel) (pa_cons (pv 0) pa_nil)) (pe_callTy call_int1 rfl T.b_int (by decide +kernel) (pa_cons (pv 1) pa_nil))) pa_nil)) (by rfl))))
        (pss_one (ps_ret (pv 0))))), ?_⟩
    obtain ⟨ds, d, -, hv, ⟨a, b, rfl, rfl⟩, q⟩ := h
    cases hv with
    | cons h1 h2 =>
    cases h2 with
    | cons h3 h4 =>
    cases h4; cases h1; cases h3
    refine par_D (K := K) (ea_cons (ed_cb (ea_cons (ed_var rfl (.int _)) ea_nil) rb_abs) (ea_cons (ed_cb (ea_cons (ed_var rfl (.int _)) ea_nil) rb_abs) ea_nil)) fun v w' H1 e1 k1 k2 => ?_
    cases k1; cases k2
    refine s_while (fun m σ H' => ∃ x y : Nat, σ = [some (.int x), some (.int y)] ∧ m = y ∧ Nat.gcd x y = Int.gcd a b ∧ Ex H H') b.natAbs ⟨a.natAbs, b.natAbs, rfl, rfl, rfl, e1⟩ ?_
    rintro y σ' H' ⟨x, y', rfl, rfl, hg, e⟩
    refine ⟨_, et_D (K := K) (ed_op (ed_var rfl (.int _)) ed_i rd_neI), fun hb H2 e2 => ?_, fun hb H2 e2 => ?_⟩
    · have hy : (y : Int) ≠ 0 := by simpa using hb
      refine ⟨fun σ2 H2 => ∃ x' y' : Nat, σ2 = [some (.int x'), some (.int y')] ∧ y' < y ∧ Nat.gcd x' y' = Int.gcd a b ∧ Ex H H2, fun σ2 H2 ⟨x', y', e1, e2, e3, e4⟩ => ⟨y', e2, x', y', e1, rfl, e3, e4⟩, ?_⟩
      refine par_D (K := K) (ea_cons (ed_var rfl (.int _)) (ea_cons (ed_op (ed_cb (ea_cons (ed_var rfl (.int _)) ea_nil) rb_int) (ed_cb (ea_cons (ed_var rfl (.int _)) ea_nil) rb_int) (rd_mod (by omega))) ea_nil)) fun v w' H3 e3 k1 k2 => ?_
      cases k1; cases k2
      refine ⟨y, x % y, rfl, Nat.mod_lt _ (by omega), ?_, (e.trans e2).trans e3⟩
      rw [← hg, Nat.gcd_comm x y, Nat.gcd_rec y x, Nat.gcd_comm]
    · have hy : y = 0 := by simpa using hb
      subst hy
      refine s_retD (K := K) (ed_var rfl (.int _)) fun v H3 e3 k => q v H3 ((e.trans e2).trans e3) ?_
      rw [← hg, Nat.gcd_zero_right]
      exact k
def N_lowest : List Str := ["top", "low", "part"]
theorem sc_lowest : FnScope N_lowest ["top", "low"] (defScope s_lowest) := ⟨rfl, rfl, rfl, by decide +kernel, rfl, by decide +kernel, by decide +kernel⟩
theorem ok_lowest (T : Tx K mg) : Ok P w K mg base 2 "lowest" ["top", "low"] (spLowest K) := by
  have O_divisor := ok_divisor (P := P) (w := w) (base := base) T
  refine Ok.mk (k := 1) T.f_lowest sc_lowest T.g_lowest (fun _ _ _ _ _ _ us hl => match us, hl with | [_, _], _ => rfl) (fun vs H Q E h => ?_) (fun cdv A outer s H vs Q E hr h => ?_)
  · exact len_spR h
  · refine ⟨_, PSs.nox (pss_cons (ps_set (i := 2) sc_lowest.nd rfl (by first | exact Or.inl rfl | exact Or.inr rfl) (pe_op op_mulX (pcall O_divisor (hr.mono (by decide)) rfl (pa_cons (pv 0) (pa_cons (pv 1) pa_nil))) (pe_ifExp (pt_cmpR op_gt (pv 1) pe_int (nomark _)) pe_int (pe_un un_neg pe_int))))
        (pss_one (ps_ret (pe_tupF (pa_cons (pe_op op_fdivW (pv 0) (pv 2)) (pa_cons (pe_op op_fdivW (pv 1) (pv 2)) pa_nil)))))), ?_⟩
    obtain ⟨ds, d, -, hv, ⟨t, l, rfl, hl, st, sl, rfl⟩, q⟩ := h
    cases hv with
    | cons h1 h2 =>
    cases h2 with
    | cons h3 h4 =>
    cases h4; cases h1; cases h3
    have l0 : decide ((0 : Int) < (l : Int)) = true := by simp; omega
    have gpos : 0 < Int.gcd t l := Int.gcd_pos_of_ne_zero_right _ (by omega)
    have gle : Int.gcd t l ≤ l := Nat.le_of_dvd (by omega) (by simpa using Int.gcd_dvd_right t (l : Int) |> Int.natAbs_dvd_natAbs.mpr)
    have gs : ((Int.gcd t l : Nat) : Int).natAbs < 2 ^ 8000 := Nat.lt_of_le_of_lt gle sl
    refine q_asgD (K := K) (d := .int (Int.gcd t l : Nat)) (ed_is (ed_op (ed_call (ea_cons (ed_var rfl (.int _)) (ea_cons (ed_var rfl (.int _)) ea_nil)) ⟨t, l, rfl, rfl⟩)
      (ed_if (et_D (K := K) (ed_op (ed_var rfl (.int _)) ed_i rd_gt)) (fun _ => ed_i) (fun hb => by rw [l0] at hb; cases hb)) (rd_mul (mulx_ok (a := 8000) (b := 2) gs (by decide) (by decide)))) (by rw [Int.mul_one])) fun v H1 e1 k => ?_
    cases k
    have hd : CDivW t ((Int.gcd t l : Nat) : Int) := wide_div (by omega) gs (by decide) (by decide)
    have hd2 : CDivW (l : Int) ((Int.gcd t l : Nat) : Int) := wide_div (by omega) gs (by decide) (by decide)
    refine s_retD (K := K) (ed_tup (ea_cons (ed_op (ed_var rfl (.int _)) (ed_var rfl (.int _)) (rd_div hd)) (ea_cons (ed_op (ed_var rfl (.int _)) (ed_var rfl (.int _)) (rd_div hd2)) ea_nil)) le2) fun v H2 e2 k => q v H2 (e1.trans e2) ?_
    unfold eF
    rw [norm_num t l hl, norm_den t l hl]
    exact k
end
end K03

namespace K03
open PySem PySem.Spec PyProof.Rows L2 Evl My TL
section
variable {P : Program} {w : World} {K : PySem.W.Frag} {mg : Str → Option Value} {base : Heap}
def N_is_integer : List Str := ["value", "low", "high"]
theorem sc_is_integer : FnScope N_is_integer ["value", "low", "high"] (defScope s_is_integer) := ⟨rfl, rfl, rfl, by decide +kernel, rfl, by decide +kernel, by decide +kernel⟩
theorem ok_is_integer (T : Tx K mg) : Ok P w K mg base 1 "is_integer" ["value", "low", "high"] (spIsInteger K) := by
  refine Ok.mk (k := 0) T.f_is_integer sc_is_integer T.g_is_integer (fun _ _ _ _ _ _ us hl => match us, hl with | [_, _, _], _ => rfl) (fun vs H Q E h => ?_) (fun cdv A outer s H vs Q E hr h => ?_)
  · exact len_spR h
  · refine ⟨_, PSs.nox (pss_one (ps_ret (pe_and (pe_callB (call_isiK1 (K := K) (by rfl)) rfl T.b_isinstance (by decide +kernel) (pa_cons (pv 0) (pa_cons (pe_bltn (v := .ty "int") rfl T.b_int (by decide +kernel) rfl) pa_nil))) (pe_and (pe_not (pe_callB (call_isiK1 (K := K) (by rfl)) rfl T.b_isinstance (by decide +kernel) (pa_cons (pv 0) (pa_cons (pe_bltn (v := .ty "bool") rfl T.b_bool (by decide +kernel) rfl) pa_nil)))) (pe_one (pe_chain op_le op_le (pv 1) (pv 0) (pv 2))))))), ?_⟩
    obtain ⟨ds, d, -, hv, ⟨x, lo, hi, rfl, rfl⟩, q⟩ := h
    cases hv with
    | cons h1 h2 =>
    cases h2 with
    | cons h3 h4 =>
    cases h4 with
    | cons h5 h6 =>
    cases h6; cases h3; cases h5
    refine s_retD (K := K) (d := .bool (isIntD lo hi x)) ?_ fun v H1 e1 k => q v H1 e1 k
    by_cases hx : ∃ i, x = .int i
    · obtain ⟨i, rfl⟩ := hx
      refine ed_is (ed_and (ed_isi (ed_var rfl h1) (kB _ "int")) fun _ => ed_and (ed_not (ed_isi (ed_var rfl h1) (kB _ "bool"))) fun _ => ed_chain (ed_var rfl (.int _)) (ed_var rfl h1) (ed_var rfl (.int _)) rd_le fun _ => rd_le) ?_
      rw [isC_int_int, isC_bool_int]
      simp [isIntD]
    · rw [isInt_no lo hi hx]
      refine ed_is (ed_and (b := false) (ed_isi (ed_var rfl h1) (kB _ "int")) fun c1 => ed_is (ed_and (b := false) (ed_not (ed_isi (ed_var rfl h1) (kB _ "bool"))) fun c2 => absurd (int_of_isC c1 (by simpa using c2)) hx) (by rw [Bool.and_false])) (by rw [Bool.and_false])
def N_is_whole : List Str := ["value"]
theorem sc_is_whole : FnScope N_is_whole ["value"] (defScope s_is_whole) := ⟨rfl, rfl, rfl, by decide +kernel, rfl, by decide +kernel, by decide +kernel⟩
theorem ok_is_whole (T : Tx K mg) : Ok P w K mg base 1 "is_whole" ["value"] (spIsWhole K) := by
  refine Ok.mk (k := 0) T.f_is_whole sc_is_whole T.g_is_whole (fun _ _ _ _ _ _ us hl => match us, hl with | [_], _ => rfl) (fun vs H Q E h => ?_) (fun cdv A outer s H vs Q E hr h => ?_)
  · exact len_spR h
  · refine ⟨_, PSs.nox (pss_one (ps_ret (pe_and (pe_callB (call_isiK1 (K := K) (by rfl)) rfl T.b_isinstance (by decide +kernel) (pa_cons (pv 0) (pa_cons (pe_bltn (v := .ty "int") rfl T.b_int (by decide +kernel) rfl) pa_nil))) (pe_one (pe_not (pe_callB (call_isiK1 (K := K) (by rfl)) rfl T.b_isinstance (by decide +kernel) (pa_cons (pv 0) (pa_cons (pe_bltn (v := .ty "bool") rfl T.b_bool (by decide +kernel) rfl) pa_nil)))))))), ?_⟩
    obtain ⟨ds, d, -, hv, ⟨x, rfl, rfl⟩, q⟩ := h
    cases hv with
    | cons h1 h2 =>
    cases h2
    refine s_retD (K := K) (d := .bool (isWholeD x)) ?_ fun v H1 e1 k => q v H1 e1 k
    refine ed_is (ed_and (ed_isi (ed_var rfl h1) (kB _ "int")) fun _ => ed_not (ed_isi (ed_var rfl h1) (kB _ "bool"))) ?_
    by_cases hx : ∃ i, x = .int i
    · obtain ⟨i, rfl⟩ := hx
      rw [isC_int_int, isC_bool_int]
      rfl
    · rw [isWhole_no hx]
      congr 1
      cases c1 : isC "int" x with
      | false => rfl
      | true =>
        cases c2 : isC "bool" x with
        | true => rfl
        | false => exact absurd (int_of_isC c1 c2) hx
def N_is_tuple : List Str := ["value", "least", "most"]
theorem sc_is_tuple : FnScope N_is_tuple ["value", "least", "most"] (defScope s_is_tuple) := ⟨rfl, rfl, rfl, by decide +kernel, rfl, by decide +kernel, by decide +kernel⟩
theorem ok_is_tuple (T : Tx K mg) : Ok P w K mg base 1 "is_tuple" ["value", "least", "most"] (spIsTuple K) := by
  refine Ok.mk (k := 0) T.f_is_tuple sc_is_tuple T.g_is_tuple (fun _ _ _ _ _ _ us hl => match us, hl with | [_, _, _], _ => rfl) (fun vs H Q E h => ?_) (fun cdv A outer s H vs Q E hr h => ?_)
  · exact len_spR h
  · refine ⟨_, PSs.nox (pss_one (ps_ret (pe_and (pe_callB (call_isiK1 (K := K) (by rfl)) rfl T.b_isinstance (by decide +kernel) (pa_cons (pv 0) (pa_cons (pe_bltn (v := .ty "tuple") rfl T.b_tuple (by decide +kernel) rfl) pa_nil))) (pe_one (pe_chain op_le op_le (pv 1) (pe_callB (call_lenK (K := K) (by rfl)) rfl T.b_len (by decide +kernel) (pa_cons (pv 0) pa_nil)) (pv 2)))))), ?_⟩
    obtain ⟨ds, d, -, hv, ⟨x, lo, hi, rfl, hs, rfl⟩, q⟩ := h
    cases hv with
    | cons h1 h2 =>
    cases h2 with
    | cons h3 h4 =>
    cases h4 with
    | cons h5 h6 =>
    cases h6; cases h3; cases h5
    refine s_retD (K := K) (d := .bool (isTupD lo hi x)) ?_ fun v H1 e1 k => q v H1 e1 k
    by_cases hx : ∃ ds, x = .tuple ds
    · obtain ⟨ds, rfl⟩ := hx
      refine ed_is (ed_and (ed_isi (ed_var rfl h1) (kB _ "tuple")) fun _ => ed_chain (ed_var rfl (.int _)) (ed_cb (ea_cons (ed_var rfl h1) ea_nil) (rb_len (Nat.le_trans (hs ds rfl) (by decide)))) (ed_var rfl (.int _)) rd_le fun _ => rd_le) ?_
      rw [isC_tup_tup]
      rfl
    · rw [isTup_no lo hi hx]
      exact ed_is (ed_and (b := false) (ed_isi (ed_var rfl h1) (kB _ "tuple")) fun c1 => absurd (tup_of_isC c1) hx) (by rw [Bool.and_false])
end
end K03

namespace K03
open PySem PySem.Spec PyProof.Rows L2 Evl My TL
section
variable {P : Program} {w : World} {K : PySem.W.Frag} {mg : Str → Option Value} {base : Heap}
def N_is_ascending : List Str := ["some", "one", "other"]
theorem sc_is_ascending : FnScope N_is_ascending ["some"] (defScope s_is_ascending) := ⟨rfl, rfl, rfl, by decide +kernel, rfl, by decide +kernel, by decide +kernel⟩
theorem ok_is_ascending (T : Tx K mg) : Ok P w K mg base 1 "is_ascending" ["some"] (spIsAscending K) := by
  refine Ok.mk (k := 0) T.f_is_ascending sc_is_ascending T.g_is_ascending (fun _ _ _ _ _ _ us hl => match us, hl with | [_], _ => rfl) (fun vs H Q E h => ?_) (fun cdv A outer s H vs Q E hr h => ?_)
  · exact len_spR h
  · refine ⟨_, PSs.nox (pss_one (ps_ret (pe_callB (cr_allK (K := K) (by rfl) (by rfl)) rfl T.b_all (by decide +kernel) (pa_cons (pe_frz (pe_lc (own := [("one", 1), ("other", 2)]) rfl sc_is_ascending.nd (pi_zipK (K := K) (by rfl) rfl T.b_zip (pa_cons (pv 0) (pa_cons (pe_frz (pe_slice (sl_listK (K := K) (by rfl)) (pv 0) (po_some pe_int) po_none)) pa_nil))) (blkOk_by (N := N_is_ascending) (sc := defScope s_is_ascending) (by decide +kernel)) (fun _ _ _ _ _ => (pg_tupK (K := K) (n := 2) (by rfl) (by rfl) (pgs_cons (pg_name (i := 1) sc_is_ascending.nd (by rfl) (by first | exact Or.inl rfl | exact Or.inr rfl)) (pgs_cons (pg_name (i := 2) sc_is_ascending.nd (by rfl) (by first | exact Or.inl rfl | exact Or.inr rfl)) pgs_nil)))) (fun _ _ _ _ _ => pts_nil) (fun _ _ _ _ _ => (pe_cmpR op_lt (pv 1) (pv 2) (nomark _))))) pa_nil)))), ?_⟩
    obtain ⟨ds, d, -, hv, ⟨ns, rfl, hn, rfl⟩, q⟩ := h
    cases hv with
    | cons h1 h2 =>
    cases h2
    have hsl : ∀ v0, Dq K H v0 (.list (ns.map PyData.int)) → ED K (tFrz (tSl (rSlL K) (tVar 0) (tPart (tC (.int 1))) tNoPart)) (start N_is_ascending [v0]) H (.list (ns.tail.map PyData.int)) := fun v0 h1 H1 e1 Q q => by
      cases h1 with
      | lst hs ha =>
        refine ⟨_, rfl, 1, rfl, _, _, rfl, ex_l e1 hs.sq, fun p hp => frz_done (Ex.refl H1) hp (Ex.new hp) upd_same ?_ q⟩
        rw [dpa_ints ha]
        have e : cutV (ns.map V.int) (some 1) none = ns.tail.map V.int := cut_tail ns
        rw [e]
        exact ints_dpa _
    refine s_retD (K := K) (ed_cb (ea_cons (ed_is (el_zip (K := K) PyData.int ns ns.tail (fun a b => .bool (decide (a < b))) (ea_cons (ed_var rfl h1) (ea_cons (hsl _ h1) ea_nil)) (by omega) (fun _ _ => rfl) (fun _ _ => rfl) (fun x y _ _ a b H1 e1 ha hb => ed_op (ed_var rfl ha) (ed_var rfl hb) rd_lt)) (congrArg PyData.list (zip_bools ns ns.tail))) ea_nil) rb_all) fun v H1 e1 k => q v H1 e1 k
def N_is_fraction : List Str := ["value", "part"]
theorem sc_is_fraction : FnScope N_is_fraction ["value"] (defScope s_is_fraction) := ⟨rfl, rfl, rfl, by decide +kernel, rfl, by decide +kernel, by decide +kernel⟩
theorem ok_is_fraction (T : Tx K mg) : Ok P w K mg base 2 "is_fraction" ["value"] (spIsFraction K) := by
  have O_is_whole := ok_is_whole (P := P) (w := w) (base := base) T
  have O_is_tuple := ok_is_tuple (P := P) (w := w) (base := base) T
  have O_divisor := ok_divisor (P := P) (w := w) (base := base) T
  refine Ok.mk (k := 1) T.f_is_fraction sc_is_fraction T.g_is_fraction (fun _ _ _ _ _ _ us hl => match us, hl with | [_], _ => rfl) (fun vs H Q E h => ?_) (fun cdv A outer s H vs Q E hr h => ?_)
  · exact len_spR h
  · refine ⟨_, PSs.nox (pss_cons (ps_if (PW.pt (pw_or (pt_not (pt_val (pcall O_is_tuple (hr.mono (by decide)) rfl (pa_cons (pv 0) (pa_cons (pe_glob (v := .int (2)) rfl T.i_PAIR_plain.choose_spec ⟨_, rfl⟩) (pa_cons (pe_glob (v := .int (2)) rfl T.i_PAIR_plain.choose_spec ⟨_, rfl⟩) pa_nil)))))) (pw_or (pt_not (pt_val (pe_callB (cr_allK (K := K) (by rfl) (by rfl)) rfl T.b_all (by decide +kernel) (pa_cons (pe_frz (pe_lc (own := [("part", 1)]) rfl sc_is_fraction.nd (pi_tupK (K := K) (by rfl) (pv 0)) (blkOk_by (N := N_is_fraction) (sc := defScope s_is_fraction) (by decide +kernel)) (fun _ _ _ _ _ => (pg_name (i := 1) sc_is_fraction.nd (by rfl) (by first | exact Or.inl rfl | exact Or.inr rfl))) (fun _ _ _ _ _ => pts_nil) (fun _ _ _ _ _ => (pcall O_is_whole (hr.mono (by decide)) rfl (pa_cons (pv 1) pa_nil))))) pa_nil)))) (pw_or1 (pt_cmpR op_lt (pe_ix (ix_tupK (K := K) (by rfl)) (pv 0) pe_int (fun _ _ => rfl)) pe_int (nomark _)))))) (pss_one (ps_ret pe_bl)) pss_nil)
        (pss_one (ps_ret (pe_cmpR (op_eqDK (K := K) (by rfl) hr.units) (pcall O_divisor (hr.mono (by decide)) rfl (pa_cons (pe_ix (ix_tupK (K := K) (by rfl)) (pv 0) pe_int (fun _ _ => rfl)) (pa_cons (pe_ix (ix_tupK (K := K) (by rfl)) (pv 0) pe_int (fun _ _ => rfl)) pa_nil))) pe_int (nomark _))))), ?_⟩
    obtain ⟨ds, d, -, hv, ⟨x, rfl, hs, rfl⟩, q⟩ := h
    cases hv with
    | cons h1 h2 =>
    cases h2
    by_cases h2 : ∃ a b, x = .tuple [a, b]
    · obtain ⟨a, b, rfl⟩ := h2
      have hall : ∀ v0, Dq K H v0 (.tuple [a, b]) → ED K (tCB (rAll K) (tCons (tFrz (tLc (iTup K (tVar 0)) (gName 1) tYes (tCall (spIsWhole K) [] E0 (tCons (tVar 1) tNil)) [1])) tNil)) (start N_is_fraction [v0]) H (.bool (isWholeD a && isWholeD b)) := by
        intro v0 h1
        refine ed_is (ed_cb (ea_cons (ed_is (el_tup (K := K) id [a, b] (fun _ => true) (fun x => .bool (isWholeD x)) (ed_var rfl h1) (by show 2 ≤ 40000; decide) (fun _ _ => rfl) (fun x _ => turn_one (fun _ => rfl) (fun _ _ _ _ => et_yes) (fun _ v H1 e1 hv => ed_call (ea_cons (ed_var rfl hv) ea_nil) ⟨_, rfl, rfl⟩)))
          (show _ = .list ([isWholeD a, isWholeD b].map PyData.bool) from rfl)) ea_nil) rb_all) ?_
        simp
      have htup : ∀ v0, Dq K H v0 (.tuple [a, b]) → ED K (tCall (spIsTuple K) [] E0 (tCons (tVar 0) (tCons (tC (.int 2)) (tCons (tC (.int 2)) tNil)))) (start N_is_fraction [v0]) H (.bool true) := fun v0 h1 => ed_call (ea_cons (ed_var rfl h1) (ea_cons ed_i (ea_cons ed_i ea_nil))) ⟨_, _, _, rfl, hs, rfl⟩
      by_cases hw : ∃ i j, a = .int i ∧ b = .int j
      · obtain ⟨i, j, rfl, rfl⟩ := hw
        refine q_when (b := decide (j < 1)) (et_is (et_or (et_not (et_DB (K := K) (htup _ h1))) fun _ => et_or (et_not (et_DB (K := K) (hall _ h1))) fun _ => et_D (K := K) (ed_op (ed_op (ed_var rfl h1) ed_i (rd_ixT (n := 1) rfl)) ed_i rd_lt)) (by simp [isWholeD])) (fun hb H1 e1 => ?_) (fun hb H1 e1 => ?_)
        · refine s_retD (K := K) ed_b fun v H2 e2 k => q v H2 (e1.trans e2) ?_
          have hj : ¬ 1 ≤ j := by have := of_decide_eq_true hb; omega
          simp only [isFracD, hj, decide_false, Bool.false_and]
          exact k
        · have hj : 1 ≤ j := by have := of_decide_eq_false hb; omega
          have h1' := Dq_ex h1 e1
          refine s_retD (K := K) (ed_op (ed_call (ea_cons (ed_op (ed_var rfl h1') ed_i (rd_ixT (n := 0) rfl)) (ea_cons (ed_op (ed_var rfl h1') ed_i (rd_ixT (n := 1) rfl)) ea_nil)) ⟨i, j, rfl, rfl⟩) ed_i rd_eqI) fun v H2 e2 k => q v H2 (e1.trans e2) ?_
          have e : decide (((Int.gcd i j : Nat) : Int) = 1) = decide (Int.gcd i j = 1) := by
            by_cases hh : Int.gcd i j = 1
            · simp [hh]
            · simp [hh]; omega
          simp only [isFracD, hj, decide_true, Bool.true_and]
          rw [← e]
          exact k
      · refine q_when (b := true) (et_is (et_or (b := true) (et_not (et_DB (K := K) (htup _ h1))) fun _ => et_is (et_or (b := false) (et_not (et_DB (K := K) (hall _ h1))) fun hc => absurd ?_ hw) ?_) (by simp)) (fun _ H1 e1 => ?_) (fun hb => by cases hb)
        · have hc' : isWholeD a = true ∧ isWholeD b = true := by simpa using hc
          cases a <;> simp [isWholeD] at hc'
          cases b <;> simp [isWholeD] at hc'
          exact ⟨_, _, rfl, rfl⟩
        · cases hc : (isWholeD a && isWholeD b) with
          | false => rfl
          | true =>
            exfalso
            have hc' : isWholeD a = true ∧ isWholeD b = true := by simpa using hc
            cases a <;> simp [isWholeD] at hc'
            cases b <;> simp [isWholeD] at hc'
            exact hw ⟨_, _, rfl, rfl⟩
        · refine s_retD (K := K) ed_b fun v H2 e2 k => q v H2 (e1.trans e2) ?_
          have e : isFracD (.tuple [a, b]) = false := by
            cases a <;> first | rfl | (cases b <;> first | rfl | exact absurd ⟨_, _, rfl, rfl⟩ hw)
          rw [e]
          exact k
    · have e2 : isTupD 2 2 x = false := isTup2_no h2
      have e3 : isFracD x = false := isFrac_no h2
      refine q_when (b := true) (et_is (et_or (b := false) (et_not (et_DB (K := K) (ed_call (ea_cons (ed_var rfl h1) (ea_cons ed_i (ea_cons ed_i ea_nil))) ⟨_, _, _, rfl, hs, rfl⟩))) fun hb => by rw [e2] at hb; cases hb) (by rw [e2]; rfl)) (fun _ H1 e1 => ?_) (fun hb => by cases hb)
      refine s_retD (K := K) ed_b fun v H2 e2 k => q v H2 (e1.trans e2) ?_
      rw [e3]
      exact k
def N_powered : List Str := ["base", "many", "found"]
theorem sc_powered : FnScope N_powered ["base", "many"] (defScope s_powered) := ⟨rfl, rfl, rfl, by decide +kernel, rfl, by decide +kernel, by decide +kernel⟩
theorem ok_powered (T : Tx K mg) : Ok P w K mg base 1 "powered" ["base", "many"] (spPowered K) := by
  refine Ok.mk (k := 0) T.f_powered sc_powered T.g_powered (fun _ _ _ _ _ _ us hl => match us, hl with | [_, _], _ => rfl) (fun vs H Q E h => ?_) (fun cdv A outer s H vs Q E hr h => ?_)
  · exact len_spR h
  · refine ⟨_, PSs.nox (pss_cons (ps_set (i := 2) sc_powered.nd rfl (by first | exact Or.inl rfl | exact Or.inr rfl) pe_int)
        (pss_cons (ps_while PassesOwn.never (pt_cmpR op_gt (pv 1) pe_int (nomark _)) (pss_cons (ps_if (pt_truth (pe_op op_odd (pv 1) pe_int) (by intro _; rfl)) (pss_one (ps_set (i := 2) sc_powered.nd rfl (by first | exact Or.inl rfl | exact Or.inr rfl) (pe_op op_mulX (pv 2) (pv 0)))) pss_nil)
        (pss_one (ps_par (i := 0) (j := 1) rfl sc_powered.nd rfl rfl (by decide) rfl rfl (pa_cons (pe_op op_mulX (pv 0) (pv 0)) (pa_cons (pe_op op_halfN (pv 1) pe_int) pa_nil)) (by rfl)))))
        (pss_one (ps_ret (pv 2))))), ?_⟩
    obtain ⟨ds, d, -, hv, ⟨b, m, k, rfl, hb, hk, hm, rfl⟩, q⟩ := h
    cases hv with
    | cons h1 h2 =>
    cases h2 with
    | cons h3 h4 =>
    cases h4; cases h1; cases h3
    refine q_asgD (K := K) ed_i fun v H1 e1 kk => ?_
    cases kk
    refine q_while (fun n σ H' => ∃ i : Nat, n = m / 2 ^ i ∧ (2 ^ i ≤ m ∨ n = 0) ∧ σ = [some (.int (b ^ (2 ^ i))), some (.int n), some (.int (b ^ (m % 2 ^ i)))] ∧ Ex H H') m ⟨0, by simp, by omega, by rw [Nat.pow_zero, Int.pow_one, Nat.mod_one, Int.pow_zero]; rfl, e1⟩ ?_
    rintro n σ' H' ⟨i, hn, hi, rfl, e⟩
    refine ⟨_, et_D (K := K) (ed_op (ed_var rfl (.int _)) ed_i rd_gt), fun hc H2 e2 => ?_, fun hc H2 e2 => ?_⟩
    · have hn0 : 0 < n := by simpa using hc
      have hi' : 2 ^ i ≤ m := by omega
      have hmod : m % 2 ^ i < 2 ^ i := Nat.mod_lt _ (Nat.pow_pos (by decide))
      have hbb : (b ^ (2 ^ i)).natAbs < 2 ^ 60000001 := Nat.lt_of_lt_of_le (pow_lt2 hb) (Nat.pow_le_pow_right (by decide) (by have := Nat.mul_le_mul_left k hi'; have : k * (m + 1) = k * m + k := Nat.mul_succ k m; omega))
      have hff : (b ^ (m % 2 ^ i)).natAbs < 2 ^ 60000001 := Nat.lt_of_lt_of_le (pow_lt2 hb) (Nat.pow_le_pow_right (by decide) (by have := Nat.mul_le_mul_left k (Nat.le_trans (Nat.le_of_lt hmod) hi'); have : k * (m + 1) = k * m + k := Nat.mul_succ k m; omega))
      refine ⟨fun σ2 H2 => ∃ n', n' < n ∧ ∃ i : Nat, n' = m / 2 ^ i ∧ (2 ^ i ≤ m ∨ n' = 0) ∧ σ2 = [some (.int (b ^ (2 ^ i))), some (.int n'), some (.int (b ^ (m % 2 ^ i)))] ∧ Ex H H2, fun σ2 H2 h => h, ?_⟩
      have key : ∀ (D : Ends) σ3 H3, (∀ σ2 H2, (∃ n', n' < n ∧ ∃ i : Nat, n' = m / 2 ^ i ∧ (2 ^ i ≤ m ∨ n' = 0) ∧ σ2 = [some (.int (b ^ (2 ^ i))), some (.int n'), some (.int (b ^ (m % 2 ^ i)))] ∧ Ex H H2) → D.nx σ2 H2) → σ3 = [some (.int (b ^ (2 ^ i))), some (.int n), some (.int (b ^ (m % 2 ^ (i + 1))))] → Ex H H3 →
          tPar 0 1 (tCons (tOp (rI CMulX fun i j => .int (i * j)) (tVar 0) (tVar 0)) (tCons (tOp (fun x y H Q => ∃ n : Nat, x = .int (n : Int) ∧ y = .int 1 ∧ Q (.int ((n / 2 : Nat) : Int)) H) (tVar 1) (tC (.int 1))) tNil)) D σ3 H3 := by
        rintro D σ3 H3 hD rfl e3
        refine par_D (K := K) (ea_cons (ed_op (ed_var rfl (.int _)) (ed_var rfl (.int _)) (rd_mul (mulx_ok hbb hbb (by decide)))) (ea_cons (ed_op (ed_var rfl (.int _)) ed_i rd_half) ea_nil)) fun v w' H4 e4 k1 k2 => ?_
        cases k1; cases k2
        have e2i : b ^ (2 ^ i) * b ^ (2 ^ i) = b ^ (2 ^ (i + 1)) := by rw [← Int.pow_add, Nat.pow_succ, Nat.mul_two]
        refine hD _ _ ⟨n / 2, by omega, i + 1, by rw [hn, Nat.div_div_eq_div_mul, Nat.pow_succ], ?_, by rw [← e2i]; rfl, e3.trans e4⟩
        by_cases h2 : 2 ^ (i + 1) ≤ m
        · exact .inl h2
        · right
          rw [hn, Nat.div_div_eq_div_mul, ← Nat.pow_succ]
          exact Nat.div_eq_of_lt (by omega)
      refine q_when (et_tru (ed_op (ed_var rfl (.int _)) ed_i rd_odd)) (fun ho H3 e3 => ?_) (fun ho H3 e3 => ?_)
      · have ho' : n % 2 = 1 := by
          have : ¬ ((n % 2 : Nat) : Int) = 0 := by simpa using ho
          omega
        refine s_asgD (K := K) (ed_op (ed_var rfl (.int _)) (ed_var rfl (.int _)) (rd_mul (mulx_ok hff hbb (by decide)))) fun v H4 e4 kk => ?_
        cases kk
        refine key _ _ _ (fun _ _ h => h) ?_ (((e.trans e2).trans e3).trans e4)
        rw [mod_up_odd hn ho', Int.pow_add]
        rfl
      · have ho' : n % 2 = 0 := by
          have : ((n % 2 : Nat) : Int) = 0 := by simpa using ho
          omega
        refine key _ _ _ (fun _ _ h => h) ?_ ((e.trans e2).trans e3)
        rw [mod_up_even hn ho']
    · have hn0 : n = 0 := by
        have : ¬ (0 : Int) < n := by simpa using hc
        omega
      refine s_retD (K := K) (ed_var rfl (.int _)) fun v H3 e3 kk => q v H3 ((e.trans e2).trans e3) ?_
      rw [pow_end hn hn0] at kk
      exact kk
def N_is_prime : List Str := ["number", "part"]
theorem sc_is_prime : FnScope N_is_prime ["number"] (defScope s_is_prime) := ⟨rfl, rfl, rfl, by decide +kernel, rfl, by decide +kernel, by decide +kernel⟩
theorem ok_is_prime (T : Tx K mg) : Ok P w K mg base 1 "is_prime" ["number"] (spIsPrime K) := by
  refine Ok.mk (k := 0) T.f_is_prime sc_is_prime T.g_is_prime (fun _ _ _ _ _ _ us hl => match us, hl with | [_], _ => rfl) (fun vs H Q E h => ?_) (fun cdv A outer s H vs Q E hr h => ?_)
  · exact len_spR h
  · refine ⟨_, PSs.nox (pss_cons (ps_set (i := 1) sc_is_prime.nd rfl (by first | exact Or.inl rfl | exact Or.inr rfl) (pe_glob (v := .int (2)) rfl T.i_LEAST_PRIME.choose_spec ⟨_, rfl⟩))
        (pss_cons (ps_while PassesOwn.never (pt_cmpR op_le (pe_op op_mulX (pv 1) (pv 1)) (pv 0) (nomark _)) (pss_cons (ps_if (pt_cmpR (op_eqDK (K := K) (by rfl) hr.units) (pe_op op_mod (pe_callTy call_int1 rfl T.b_int (by decide +kernel) (pa_cons (pv 0) pa_nil)) (pv 1)) pe_int (nomark _)) (pss_one (ps_ret pe_bl)) pss_nil)
        (pss_one (ps_aug (i := 1) sc_is_prime.nd rfl (by first | exact Or.inl rfl | exact Or.inr rfl) pe_int ip_add))))
        (pss_one (ps_ret pe_bl)))), ?_⟩
    obtain ⟨ds, d, -, hv, ⟨n, rfl, hn, rfl⟩, q⟩ := h
    cases hv with
    | cons h1 h2 =>
    cases h2; cases h1
    refine q_asgD (K := K) ed_i fun v H1 e1 kk => ?_
    cases kk
    refine q_while (fun z σ H' => ∃ k : Nat, 2 ≤ k ∧ z = n + 2 - k ∧ k ≤ n + 2 ∧ (∀ j, 2 ≤ j → j < k → n % j ≠ 0) ∧ σ = [some (.int n), some (.int k)] ∧ Ex H H') n ⟨2, by omega, by omega, by omega, by omega, rfl, e1⟩ ?_
    rintro z σ' H' ⟨k, hk, hz, hk2, hj, rfl, e⟩
    refine ⟨decide (k * k ≤ n), et_D (K := K) (ed_is (ed_op (ed_op (ed_var rfl (.int _)) (ed_var rfl (.int _)) (rd_mul (mulx_ok (a := 20) (b := 20) (show k < 2 ^ 20 by omega) (show k < 2 ^ 20 by omega) (by decide)))) (ed_var rfl (.int _)) rd_le) (by congr 1; exact decide_eq_decide.mpr (by omega))), fun hc H2 e2 => ?_, fun hc H2 e2 => ?_⟩
    · have hkn : k * k ≤ n := of_decide_eq_true hc
      have hkn2 : k ≤ n := Nat.le_trans (by have := Nat.mul_le_mul_left k (show 1 ≤ k by omega); omega) hkn
      refine ⟨fun σ2 H2 => ∃ z', z' < z ∧ ∃ k : Nat, 2 ≤ k ∧ z' = n + 2 - k ∧ k ≤ n + 2 ∧ (∀ j, 2 ≤ j → j < k → n % j ≠ 0) ∧ σ2 = [some (.int n), some (.int k)] ∧ Ex H H2, fun σ2 H2 h => h, ?_⟩
      refine q_when (b := decide (n % k = 0)) (et_D (K := K) (ed_is (ed_op (ed_op (ed_cb (ea_cons (ed_var rfl (.int _)) ea_nil) rb_int) (ed_var rfl (.int _)) (rd_mod (by omega))) ed_i rd_eqI) (by congr 1; exact decide_eq_decide.mpr (by omega)))) (fun hd H3 e3 => ?_) (fun hd H3 e3 => ?_)
      · refine s_retD (K := K) ed_b fun v H4 e4 kk => q v H4 (((e.trans e2).trans e3).trans e4) ?_
        have ef : isP n = false := by
          cases hp : isP n with
          | false => rfl
          | true => exact absurd (of_decide_eq_true hd) (isP_iff.mp hp k hk hkn)
        rw [ef]
        exact kk
      · have hd' : n % k ≠ 0 := of_decide_eq_false hd
        refine ⟨.int k, rfl, ?_⟩
        refine ed_i (K := K) H3 (Ex.refl H3) _ fun v H4 e4 kk => ?_
        cases kk
        refine ⟨_, _, rfl, rfl, n + 2 - (k + 1), by omega, k + 1, by omega, rfl, by omega, fun j h1 h2 => ?_, rfl, ((e.trans e2).trans e3).trans e4⟩
        by_cases hjk : j = k
        · rw [hjk]; exact hd'
        · exact hj j h1 (by omega)
    · have hkn : ¬ k * k ≤ n := of_decide_eq_false hc
      refine s_retD (K := K) ed_b fun v H4 e4 kk => q v H4 ((e.trans e2).trans e4) ?_
      have et : isP n = true := isP_iff.mpr fun j h1 h2 => hj j h1 (by
        by_cases hh : j < k
        · exact hh
        · have := Nat.mul_le_mul (show k ≤ j by omega) (show k ≤ j by omega)
          omega)
      rw [et]
      exact kk
end
end K03

namespace K03
open PySem PySem.Spec PyProof.Rows L2 Evl My TL
section
variable {P : Program} {w : World} {K : PySem.W.Frag} {mg : Str → Option Value} {base : Heap}
end
end K03

namespace K03
open PySem PySem.Spec PyProof.Rows L2 Evl My TL
section
variable {P : Program} {w : World} {K : PySem.W.Frag} {mg : Str → Option Value} {base : Heap}
def N_is_number : List Str := ["value", "prime", "power", "part"]
theorem sc_is_number : FnScope N_is_number ["value"] (defScope s_is_number) := ⟨rfl, rfl, rfl, by decide +kernel, rfl, by decide +kernel, by decide +kernel⟩
theorem ok_is_number (T : Tx K mg) : Ok P w K mg base 3 "is_number" ["value"] (spIsNum K) := by
  have O_is_integer := ok_is_integer (P := P) (w := w) (base := base) T
  have O_is_tuple := ok_is_tuple (P := P) (w := w) (base := base) T
  have O_is_ascending := ok_is_ascending (P := P) (w := w) (base := base) T
  have O_is_fraction := ok_is_fraction (P := P) (w := w) (base := base) T
  have O_is_prime := ok_is_prime (P := P) (w := w) (base := base) T
  refine Ok.mk (k := 2) T.f_is_number sc_is_number T.g_is_number (fun _ _ _ _ _ _ us hl => match us, hl with | [_], _ => rfl) (fun vs H Q E h => ?_) (fun cdv A outer s H vs Q E hr h => ?_)
  · exact len_spR h
  · refine ⟨_, PSs.nox (pss_cons (ps_if (PW.pt (pw_or (pt_not (pt_val (pe_callB (call_isiK1 (K := K) (by rfl)) rfl T.b_isinstance (by decide +kernel) (pa_cons (pv 0) (pa_cons (pe_bltn (v := .ty "tuple") rfl T.b_tuple (by decide +kernel) rfl) pa_nil))))) (pw_or1 (pt_not (pt_val (pe_callB (cr_allK (K := K) (by rfl) (by rfl)) rfl T.b_all (by decide +kernel) (pa_cons (pe_frz (pe_lc (own := [("part", 3)]) rfl sc_is_number.nd (pi_tupK (K := K) (by rfl) (pv 0)) (blkOk_by (N := N_is_number) (sc := defScope s_is_number) (by decide +kernel)) (fun _ _ _ _ _ => (pg_name (i := 3) sc_is_number.nd (by rfl) (by first | exact Or.inl rfl | exact Or.inr rfl))) (fun _ _ _ _ _ => pts_nil) (fun _ _ _ _ _ => (pcall O_is_tuple (hr.mono (by decide)) rfl (pa_cons (pv 3) (pa_cons (pe_glob (v := .int (2)) rfl T.i_PAIR_numbers.choose_spec ⟨_, rfl⟩) (pa_cons (pe_glob (v := .int (2)) rfl T.i_PAIR_numbers.choose_spec ⟨_, rfl⟩) pa_nil))))))) pa_nil))))))) (pss_one (ps_ret pe_bl)) pss_nil)
        (pss_cons (ps_for PassesOwn.never rfl (pi_tupK (K := K) (by rfl) (pv 0)) (pg_tupK (K := K) (n := 2) (by rfl) (by rfl) (pgs_cons (pg_name (i := 1) sc_is_number.nd (by rfl) (by first | exact Or.inl rfl | exact Or.inr rfl)) (pgs_cons (pg_name (i := 2) sc_is_number.nd (by rfl) (by first | exact Or.inl rfl | exact Or.inr rfl)) pgs_nil))) (pss_cons (ps_if (PW.pt (pw_or (pt_not (pt_val (pcall O_is_integer (hr.mono (by decide)) rfl (pa_cons (pv 1) (pa_cons (pe_glob (v := .int (2)) rfl T.i_LEAST_PRIME.choose_spec ⟨_, rfl⟩) (pa_cons (pe_glob (v := .int (9999)) rfl T.i_MOST_PRIME.choose_spec ⟨_, rfl⟩) pa_nil)))))) (pw_or1 (pt_not (pt_val (pcall O_is_prime (hr.mono (by decide)) rfl (pa_cons (pv 1) pa_nil))))))) (pss_one (ps_ret pe_bl)) pss_nil)
        (pss_one (ps_if (PW.pt (pw_or (pt_not (pt_val (pcall O_is_fraction (hr.mono (by decide)) rfl (pa_cons (pv 2) pa_nil)))) (pw_or1 (pt_cmpR (op_eqDK (K := K) (by rfl) hr.units) (pe_ix (ix_tupK (K := K) (by rfl)) (pv 2) pe_int (fun _ _ => rfl)) pe_int (nomark _))))) (pss_one (ps_ret pe_bl)) pss_nil))))
        (pss_one (ps_ret (pcall O_is_ascending (hr.mono (by decide)) rfl (pa_cons (pe_frz (pe_lc (own := [("prime", 1), ("power", 2)]) rfl sc_is_number.nd (pi_tupK (K := K) (by rfl) (pv 0)) (blkOk_by (N := N_is_number) (sc := defScope s_is_number) (by decide +kernel)) (fun _ _ _ _ _ => (pg_tupK (K := K) (n := 2) (by rfl) (by rfl) (pgs_cons (pg_name (i := 1) sc_is_number.nd (by rfl) (by first | exact Or.inl rfl | exact Or.inr rfl)) (pgs_cons (pg_name (i := 2) sc_is_number.nd (by rfl) (by first | exact Or.inl rfl | exact Or.inr rfl)) pgs_nil)))) (fun _ _ _ _ _ => pts_nil) (fun _ _ _ _ _ => (pv 1)))) pa_nil)))))), ?_⟩
    obtain ⟨ds, d, -, hv, ⟨n, rfl, ok, rfl⟩, q⟩ := h
    obtain ⟨v0, rfl, h1⟩ := dpa1 hv
    have len := ok.can.len
    refine q_when (b := false) (et_is (et_or (b := false) (et_not (et_DB (K := K) (ed_isi (ed_var rfl h1) (kB _ "tuple")))) fun _ => et_is (et_not (et_DB (K := K) (ed_is (ed_cb (ea_cons (ed_is (el_tup (K := K) ePw n (fun _ => true) (fun _ => .bool true) (ed_var rfl h1) (by omega) (fun _ _ => rfl) (fun x _ => turn_one (fun _ => rfl) (fun _ _ _ _ => et_yes) (fun _ v H1 e1 hv => ed_call (ea_cons (ed_var rfl hv) (ea_cons ed_i (ea_cons ed_i ea_nil))) ⟨_, _, _, rfl, short2 _ _, rfl⟩)))
      ((congrArg PyData.list (outs_all _ n)).trans (all_true n))) ea_nil) rb_all) (congrArg PyData.bool (all_true2 n))))) rfl) (by rw [show isC "tuple" (eN n) = true from isC_tup_tup _]; rfl)) (fun hb => by cases hb) fun _ H1 e1 => ?_
    refine q_forX (K := K) (enc := ePw) (xs := n) h1 (ev_var rfl) (fun i σ H' => ∃ o1 o2, σ = [some v0, o1, o2, none] ∧ Ex H H') (fun i σ' H' p => p.choose_spec.choose_spec.2) (fun H2 e2 => ⟨_, _, rfl, e1.trans e2⟩) ?_ ?_
    · rintro i x σ' H' hx ⟨o1, o2, rfl, e⟩ u hu
      refine g_two (K := K) hu fun a b ha hb => ?_
      cases ha
      obtain ⟨pr, p9, nz⟩ := ok.pr x (List.mem_of_getElem? hx)
      refine q_when (b := false) (et_is (et_or (b := false) (et_not (et_DB (K := K) (ed_call (ea_cons (ed_var rfl (.int _)) (ea_cons ed_i (ea_cons ed_i ea_nil))) ⟨_, _, _, rfl, rfl⟩))) fun _ => et_is (et_not (et_DB (K := K) (ed_call (ea_cons (ed_var rfl (.int _)) ea_nil) ⟨x.1, rfl, by omega, rfl⟩))) (by rw [pr.2]; rfl)) (by rw [isInt_ok pr.1 p9]; rfl)) (fun hb => by cases hb) fun _ H2 e2 => ?_
      have hb2 := Dq_ex hb e2
      refine s_when (b := false) (et_is (et_or (b := false) (et_not (et_DB (K := K) (ed_call (ea_cons (ed_var rfl hb2) ea_nil) ⟨_, rfl, short2 _ _, rfl⟩))) fun _ => et_D (K := K) (ed_is (ed_op (ed_op (ed_var rfl hb2) ed_i (rd_ixT (n := 0) rfl)) ed_i rd_eqI) (congrArg PyData.bool (decide_eq_false (num_ne nz))))) (by rw [isFrac_eF]; rfl)) (fun hb => by cases hb) fun _ H3 e3 => ⟨_, _, rfl, (e.trans e2).trans e3⟩
    · rintro σ' H' ⟨o1, o2, rfl, e⟩
      refine s_retD (K := K) (d := .bool true) (ed_is (ed_call (ea_cons (el_tup (K := K) ePw n (fun _ => true) (fun x => .int x.1) (ed_var rfl (Dq_ex h1 e)) (by omega) (fun _ _ => rfl) (fun x _ => turn_two rfl (fun _ _ => rfl) (fun _ _ _ _ _ _ => et_yes) (fun _ a b H1 e1 ha hb => ed_var rfl ha))) ea_nil) ⟨n.map fun x => (x.1 : Int), ?_, ?_, rfl⟩) ?_) fun v H2 e2 k => q v H2 (e.trans e2) k
      · rw [outs_all, List.map_map]; rfl
      · rw [List.length_map]; omega
      · rw [asc_keys ok.asc]
def N_check_number : List Str := ["value"]
theorem sc_check_number : FnScope N_check_number ["value"] (defScope s_check_number) := ⟨rfl, rfl, rfl, by decide +kernel, rfl, by decide +kernel, by decide +kernel⟩
theorem ok_check_number (T : Tx K mg) : Ok P w K mg base 4 "check_number" ["value"] (spCheck K) := by
  have O_is_number := ok_is_number (P := P) (w := w) (base := base) T
  refine Ok.mk (k := 3) T.f_check_number sc_check_number T.g_check_number (fun _ _ _ _ _ _ us hl => match us, hl with | [_], _ => rfl) (fun vs H Q E h => ?_) (fun cdv A outer s H vs Q E hr h => ?_)
  · exact len_spR h
  · refine ⟨_, PSs.nox (pss_one (ps_if (pt_not (pt_val (pcall O_is_number (hr.mono (by decide)) rfl (pa_cons (pv 0) pa_nil)))) (pss_one ps_never) pss_nil)), ?_⟩
    obtain ⟨ds, d, -, hv, ⟨n, rfl, ok, rfl⟩, q⟩ := h
    obtain ⟨v0, rfl, h1⟩ := dpa1 hv
    exact s_when (b := false) (et_is (et_not (et_DB (K := K) (ed_call (ea_cons (ed_var rfl h1) ea_nil) ⟨n, rfl, ok, rfl⟩))) rfl) (fun hb => by cases hb) fun _ H2 e2 => q _ _ e2 .non
end
end K03

namespace K03
open PySem PySem.Spec PyProof.Rows L2 Evl My TL
section
variable {P : Program} {w : World} {K : PySem.W.Frag} {mg : Str → Option Value} {base : Heap}
def N_wholes : List Str := ["number", "low", "prime", "power"]
theorem sc_wholes : FnScope N_wholes ["number"] (defScope s_wholes) := ⟨rfl, rfl, rfl, by decide +kernel, rfl, by decide +kernel, by decide +kernel⟩
theorem ok_wholes (T : Tx K mg) : Ok P w K mg base 2 "wholes" ["number"] (spWholes K) := by
  have O_divisor := ok_divisor (P := P) (w := w) (base := base) T
  refine Ok.mk (k := 1) T.f_wholes sc_wholes T.g_wholes (fun _ _ _ _ _ _ us hl => match us, hl with | [_], _ => rfl) (fun vs H Q E h => ?_) (fun cdv A outer s H vs Q E hr h => ?_)
  · exact len_spR h
  · refine ⟨_, PSs.nox (pss_cons (ps_set (i := 1) sc_wholes.nd rfl (by first | exact Or.inl rfl | exact Or.inr rfl) pe_int)
        (pss_cons (ps_for PassesOwn.never rfl (pi_tupK (K := K) (by rfl) (pv 0)) (pg_tupK (K := K) (n := 2) (by rfl) (by rfl) (pgs_cons (pg_name (i := 2) sc_wholes.nd (by rfl) (by first | exact Or.inl rfl | exact Or.inr rfl)) (pgs_cons (pg_name (i := 3) sc_wholes.nd (by rfl) (by first | exact Or.inl rfl | exact Or.inr rfl)) pgs_nil))) (pss_one (ps_set (i := 1) sc_wholes.nd rfl (by first | exact Or.inl rfl | exact Or.inr rfl) (pe_op op_fdivW (pe_op op_mulX (pv 1) (pe_ix (ix_tupK (K := K) (by rfl)) (pv 3) pe_int (fun _ _ => rfl))) (pcall O_divisor (hr.mono (by decide)) rfl (pa_cons (pv 1) (pa_cons (pe_ix (ix_tupK (K := K) (by rfl)) (pv 3) pe_int (fun _ _ => rfl)) pa_nil)))))))
        (pss_one (ps_ret (pe_tupF (pa_cons (pv 1) (pa_cons (pe_frz (pe_lc (own := [("prime", 2), ("power", 3)]) rfl sc_wholes.nd (pi_tupK (K := K) (by rfl) (pv 0)) (blkOk_by (N := N_wholes) (sc := defScope s_wholes) (by decide +kernel)) (fun _ _ _ _ _ => (pg_tupK (K := K) (n := 2) (by rfl) (by rfl) (pgs_cons (pg_name (i := 2) sc_wholes.nd (by rfl) (by first | exact Or.inl rfl | exact Or.inr rfl)) (pgs_cons (pg_name (i := 3) sc_wholes.nd (by rfl) (by first | exact Or.inl rfl | exact Or.inr rfl)) pgs_nil)))) (fun _ _ _ _ _ => pts_nil) (fun _ _ _ _ _ => (pe_tupF (pa_cons (pv 2) (pa_cons (pe_op op_mulX (pe_ix (ix_tupK (K := K) (by rfl)) (pv 3) pe_int (fun _ _ => rfl)) (pe_op op_fdivW (pv 1) (pe_ix (ix_tupK (K := K) (by rfl)) (pv 3) pe_int (fun _ _ => rfl)))) pa_nil)))))) pa_nil))))))), ?_⟩
    obtain ⟨ds, d, -, hv, ⟨n, rfl, cn, sn, hl, rfl⟩, q⟩ := h
    obtain ⟨v0, rfl, h1⟩ := dpa1 hv
    have len := cn.len
    refine q_asgD (K := K) ed_i fun v H1 e1 kk => ?_
    cases kk
    refine q_forX (K := K) (enc := ePw) (xs := n) h1 (ev_var rfl) (fun i σ H' => ∃ o1 o2, σ = [some v0, some (.int (lcmN (n.take i))), o1, o2] ∧ Ex H H') (fun i σ' H' p => p.choose_spec.choose_spec.2) (fun H2 e2 => ⟨_, _, rfl, e1.trans e2⟩) ?_ ?_
    · rintro i x σ' H' hx ⟨o1, o2, rfl, e⟩ u hu
      refine g_two (K := K) hu fun a b ha hb => ?_
      cases ha
      have lt := lcm_take n i
      have l4 : (lcmN (n.take i) : Nat) < 2 ^ 4000 := Nat.lt_of_le_of_lt lt.1 hl
      have s4 := (sn x (List.mem_of_getElem? hx)).2
      have g0 : 0 < Int.gcd (lcmN (n.take i) : Int) (x.2.den : Int) := Nat.gcd_pos_of_pos_left _ lt.2
      refine s_asgD (K := K) (ed_is (ed_op (ed_op (ed_var rfl (.int _)) (ed_op (ed_var rfl hb) ed_i (rd_ixT (n := 1) rfl)) (rd_mul (mulx_ok (a := 4000) (b := 4000) l4 s4 (by decide)))) (ed_call (ea_cons (ed_var rfl (.int _)) (ea_cons (ed_op (ed_var rfl hb) ed_i (rd_ixT (n := 1) rfl)) ea_nil)) ⟨_, _, rfl, rfl⟩)
        (rd_div (wide_div (b := 4000) (by omega) (Nat.lt_of_le_of_lt (Nat.gcd_le_left _ lt.2) l4) (by decide) (by decide)))) (congrArg PyData.int (lcm_int _ _))) fun v H2 e2 kk => ?_
      cases kk
      rw [← lcm_step hx]
      exact ⟨_, _, rfl, e.trans e2⟩
    · rintro σ' H' ⟨o1, o2, rfl, e⟩
      rw [List.take_length]
      refine s_retD (K := K) (ed_tup (ea_cons (ed_var rfl (.int _)) (ea_cons (ed_is (el_tup (K := K) ePw n (fun _ => true) (fun y => pI (y.1, y.2.num * ((lcmN n : Int) / (y.2.den : Int)))) (ed_var rfl (Dq_ex h1 e)) (by omega) (fun _ _ => rfl) (fun y hy => turn_two rfl (fun _ _ => rfl) (fun _ _ _ _ _ _ => et_yes) (fun _ a b H2 e2 ha hb => ed_tup (ea_cons (ed_var rfl ha) (ea_cons (ed_op (ed_op (ed_var rfl hb) ed_i (rd_ixT (n := 0) rfl)) (ed_op (ed_var rfl (.int _)) (ed_op (ed_var rfl hb) ed_i (rd_ixT (n := 1) rfl)) (rd_div (wide_div (b := 4000) ?_ (sn y hy).2 (by decide) (by decide)))) (rd_mul (mulx_ok (a := 4000) (b := 4000) (sn y hy).1 ?_ (by decide)))) ea_nil)) le2))) ?_) ea_nil)) le2) fun v H2 e2 k => q v H2 (e.trans e2) k
      · have := den_pos y.2; omega
      · exact Nat.lt_of_le_of_lt (Int.natAbs_ediv_le_natAbs _ _) hl
      · rw [outs_all]
        unfold wholesL
        rw [List.map_map]
        rfl
def N_bits_above : List Str := ["powers", "prime", "power"]
theorem sc_bits_above : FnScope N_bits_above ["powers"] (defScope s_bits_above) := ⟨rfl, rfl, rfl, by decide +kernel, rfl, by decide +kernel, by decide +kernel⟩
theorem ok_bits_above (T : Tx K mg) : Ok P w K mg base 1 "bits_above" ["powers"] (spAbove K) := by
  refine Ok.mk (k := 0) T.f_bits_above sc_bits_above T.g_bits_above (fun _ _ _ _ _ _ us hl => match us, hl with | [_], _ => rfl) (fun vs H Q E h => ?_) (fun cdv A outer s H vs Q E hr h => ?_)
  · exact len_spR h
  · refine ⟨_, PSs.nox (pss_one (ps_ret (pe_callB (cr_sumK (K := K) (by rfl) (by rfl)) rfl T.b_sum (by decide +kernel) (pa_cons (pe_frz (pe_lc (own := [("prime", 1), ("power", 2)]) rfl sc_bits_above.nd (pi_listK (K := K) (by rfl) (pv 0)) (blkOk_by (N := N_bits_above) (sc := defScope s_bits_above) (by decide +kernel)) (fun _ _ _ _ _ => (pg_tupK (K := K) (n := 2) (by rfl) (by rfl) (pgs_cons (pg_name (i := 1) sc_bits_above.nd (by rfl) (by first | exact Or.inl rfl | exact Or.inr rfl)) (pgs_cons (pg_name (i := 2) sc_bits_above.nd (by rfl) (by first | exact Or.inl rfl | exact Or.inr rfl)) pgs_nil)))) (fun _ _ _ _ _ => pts_nil) (fun _ _ _ _ _ => (pe_op op_mulX (pe_bits (pv 1)) (pv 2))))) pa_nil)))), ?_⟩
    obtain ⟨ds, d, -, hv, ⟨L, rfl, hL, len, hb, rfl⟩, q⟩ := h
    obtain ⟨v0, rfl, h1⟩ := dpa1 hv
    refine s_retD (K := K) (ed_is (ed_cb (ea_cons (ed_is (el_list (K := K) pN L (fun _ => true) (fun x => .int ((bl x.1 * x.2 : Nat) : Int)) (ed_var rfl h1) (by omega) (fun _ _ => rfl) (fun x hx => turn_two rfl (fun _ _ => rfl) (fun _ _ _ _ _ _ => et_yes) (fun _ a b H2 e2 ha hb' => ed_is (ed_op (ed_bits (ed_var rfl ha)) (ed_var rfl hb') (rd_mul (mulx_ok (a := 20) (b := 30) ?_ ?_ (by decide)))) ?_)))
      (show _ = PyData.list ((L.map fun x => ((bl x.1 * x.2 : Nat) : Int)).map PyData.int) by rw [outs_all, List.map_map]; rfl)) ea_nil) rb_sum) (congrArg PyData.int (sum_cast L fun x => bl x.1 * x.2))) fun v H1 e1 k => q v H1 e1 k
    · have := bl_small (hL x hx).2
      show bl x.1 < _
      omega
    · show x.2 < _
      have := above_mem hx
      have b3 := bl_pos (p := x.1) (by have := (hL x hx).1; omega)
      have h2 : 1 * x.2 ≤ bl x.1 * x.2 := Nat.mul_le_mul_right _ b3
      omega
    · show PyData.int ((bl x.1 : Nat) * (x.2 : Nat)) = _
      rw [Int.natCast_mul]
def N_whole_product : List Str := ["powers", "found", "prime", "power"]
theorem sc_whole_product : FnScope N_whole_product ["powers"] (defScope s_whole_product) := ⟨rfl, rfl, rfl, by decide +kernel, rfl, by decide +kernel, by decide +kernel⟩
theorem ok_whole_product (T : Tx K mg) : Ok P w K mg base 2 "whole_product" ["powers"] (spWP K) := by
  have O_powered := ok_powered (P := P) (w := w) (base := base) T
  refine Ok.mk (k := 1) T.f_whole_product sc_whole_product T.g_whole_product (fun _ _ _ _ _ _ us hl => match us, hl with | [_], _ => rfl) (fun vs H Q E h => ?_) (fun cdv A outer s H vs Q E hr h => ?_)
  · exact len_spR h
  · refine ⟨_, PSs.nox (pss_cons (ps_set (i := 1) sc_whole_product.nd rfl (by first | exact Or.inl rfl | exact Or.inr rfl) pe_int)
        (pss_cons (ps_for PassesOwn.never rfl (pi_listK (K := K) (by rfl) (pv 0)) (pg_tupK (K := K) (n := 2) (by rfl) (by rfl) (pgs_cons (pg_name (i := 2) sc_whole_product.nd (by rfl) (by first | exact Or.inl rfl | exact Or.inr rfl)) (pgs_cons (pg_name (i := 3) sc_whole_product.nd (by rfl) (by first | exact Or.inl rfl | exact Or.inr rfl)) pgs_nil))) (pss_one (ps_set (i := 1) sc_whole_product.nd rfl (by first | exact Or.inl rfl | exact Or.inr rfl) (pe_op op_mulX (pv 1) (pcall O_powered (hr.mono (by decide)) rfl (pa_cons (pv 2) (pa_cons (pv 3) pa_nil)))))))
        (pss_one (ps_ret (pv 1))))), ?_⟩
    obtain ⟨ds, d, -, hv, ⟨L, rfl, hL, len, hb, rfl⟩, q⟩ := h
    obtain ⟨v0, rfl, h1⟩ := dpa1 hv
    refine q_asgD (K := K) ed_i fun v H1 e1 kk => ?_
    cases kk
    refine q_forXL (K := K) (enc := pN) (xs := L) h1 (ev_var rfl) (fun i σ H' => ∃ o1 o2, σ = [some v0, some (.int (prodL (L.take i))), o1, o2] ∧ Ex H H') (fun i σ' H' p => p.choose_spec.choose_spec.2) (fun H2 e2 => ⟨_, _, rfl, e1.trans e2⟩) ?_ ?_
    · rintro i x σ' H' hx ⟨o1, o2, rfl, e⟩ u hu
      refine g_two (K := K) hu fun a b ha hb' => ?_
      cases ha
      cases hb'
      have mx := List.mem_of_getElem? hx
      have b1 := bl_small (hL x mx).2
      have b2 := above_mem mx
      have b3 := bl_pos (p := x.1) (by have := (hL x mx).1; omega)
      have h2 : 1 * x.2 ≤ bl x.1 * x.2 := Nat.mul_le_mul_right _ b3
      have t1 := above_take L i
      have p1 : prodL (L.take i) < 2 ^ 4000001 := Nat.lt_of_le_of_lt (Nat.le_trans prod_le (Nat.pow_le_pow_right (by decide) (Nat.le_trans t1 hb))) (Nat.pow_lt_pow_right (by decide) (by decide))
      have p2 : x.1 ^ x.2 < 2 ^ 4000001 := by
        have : x.1 ^ x.2 ≤ (2 ^ bl x.1) ^ x.2 := Nat.pow_le_pow_left (Nat.le_of_lt (lt_bl _)) _
        rw [← Nat.pow_mul] at this
        exact Nat.lt_of_le_of_lt (Nat.le_trans this (Nat.pow_le_pow_right (by decide) (Nat.le_trans b2 hb))) (Nat.pow_lt_pow_right (by decide) (by decide))
      have e3 : ((x.1 : Nat) : Int) ^ x.2 = ((x.1 ^ x.2 : Nat) : Int) := (Int.natCast_pow _ _).symm
      refine s_asgD (K := K) (ed_op (ed_var rfl (.int _)) (ed_is (ed_call (ea_cons (ed_var rfl (.int _)) (ea_cons (ed_var rfl (.int _)) ea_nil)) ⟨x.1, x.2, 14, rfl, ?_, by decide, by omega, rfl⟩) (congrArg PyData.int e3)) (rd_mul (mulx_ok (a := 4000001) (b := 4000001) p1 p2 (by decide)))) fun v H2 e2 kk => ?_
      · have := (hL x mx).2
        show x.1 < _
        omega
      · cases kk
        rw [← Int.natCast_mul, ← prod_step hx]
        exact ⟨_, _, rfl, e.trans e2⟩
    · rintro σ' H' ⟨o1, o2, rfl, e⟩
      rw [List.take_length]
      exact s_retD (K := K) (ed_var rfl (.int _)) fun v H2 e2 k => q v H2 (e.trans e2) k
end
end K03

namespace K03
open PySem PySem.Spec PyProof.Rows L2 Evl My TL
section
variable {P : Program} {w : World} {K : PySem.W.Frag} {mg : Str → Option Value} {base : Heap}
def N_log_bounds : List Str := ["base", "figures", "kept", "one", "other", "more", "lap", "cut"]
theorem sc_log_bounds : FnScope N_log_bounds ["base", "figures"] (defScope s_log_bounds) := ⟨rfl, rfl, rfl, by decide +kernel, rfl, by decide +kernel, by decide +kernel⟩
theorem ok_log_bounds (T : Tx K mg) : Ok P w K mg base 1 "log_bounds" ["base", "figures"] (spLogs K) := by
  refine Ok.mk (k := 0) T.f_log_bounds sc_log_bounds T.g_log_bounds (fun _ _ _ _ _ _ us hl => match us, hl with | [_, _], _ => rfl) (fun vs H Q E h => ?_) (fun cdv A outer s H vs Q E hr h => ?_)
  · exact len_spR h
  · refine ⟨_, PSs.nox (pss_cons (ps_asg (pe_tupF (pa_cons (pe_op op_add (pe_op op_mulX (pe_glob (v := .int (2)) rfl T.i_PAIR_logs.choose_spec ⟨_, rfl⟩) (pv 1)) (pe_glob (v := .int (10)) rfl T.i_MORE_FIGURES.choose_spec ⟨_, rfl⟩)) (pa_cons (pv 0) (pa_cons (pv 0) (pa_cons pe_int pa_nil))))) (pg_tupK (K := K) (n := 4) (by rfl) (by rfl) (pgs_cons (pg_name (i := 2) sc_log_bounds.nd (by rfl) (by first | exact Or.inl rfl | exact Or.inr rfl)) (pgs_cons (pg_name (i := 3) sc_log_bounds.nd (by rfl) (by first | exact Or.inl rfl | exact Or.inr rfl)) (pgs_cons (pg_name (i := 4) sc_log_bounds.nd (by rfl) (by first | exact Or.inl rfl | exact Or.inr rfl)) (pgs_cons (pg_name (i := 5) sc_log_bounds.nd (by rfl) (by first | exact Or.inl rfl | exact Or.inr rfl)) pgs_nil))))))
        (pss_cons (ps_for PassesOwn.never rfl (pi_range1 rfl T.b_range (pa_cons (pv 1) pa_nil)) (pg_name (i := 6) sc_log_bounds.nd (by rfl) (by first | exact Or.inl rfl | exact Or.inr rfl)) (pss_cons (ps_par3 (i := 3) (j := 4) (l := 5) rfl sc_log_bounds.nd rfl rfl rfl (by decide) (by decide) (by decide) rfl rfl rfl (pa_cons (pe_op op_mulX (pv 3) (pv 3)) (pa_cons (pe_op op_mulX (pv 4) (pv 4)) (pa_cons (pe_op op_mulX (pe_glob (v := .int (2)) rfl T.i_PAIR_logs.choose_spec ⟨_, rfl⟩) (pv 5)) pa_nil))) (by rfl))
        (pss_cons (ps_set (i := 7) sc_log_bounds.nd rfl (by first | exact Or.inl rfl | exact Or.inr rfl) (pe_callB (call_max2 (by rfl)) rfl T.b_max (by decide +kernel) (pa_cons (pe_op op_sub (pe_bits (pv 4)) (pv 2)) (pa_cons pe_int pa_nil))))
        (pss_one (ps_par3 (i := 3) (j := 4) (l := 5) rfl sc_log_bounds.nd rfl rfl rfl (by decide) (by decide) (by decide) rfl rfl rfl (pa_cons (pe_op op_shrN (pv 3) (pv 7)) (pa_cons (pe_op op_add (pe_op op_shrN (pv 4) (pv 7)) (pe_callTy call_int1 rfl T.b_int (by decide +kernel) (pa_cons (pe_cmpR op_gt (pv 7) pe_int (nomark _)) pa_nil))) (pa_cons (pe_op op_add (pv 5) (pv 7)) pa_nil))) (by rfl))))))
        (pss_one (ps_ret (pe_tupF (pa_cons (pe_op op_sub (pe_op op_add (pv 5) (pe_bits (pv 3))) pe_int) (pa_cons (pe_op op_add (pv 5) (pe_bits (pv 4))) pa_nil))))))), ?_⟩
    obtain ⟨ds, d, -, hv, ⟨b, rfl, b1, b2, rfl⟩, q⟩ := h
    obtain ⟨v0, v1, rfl, h1, h2⟩ := dpa2 hv
    cases h1; cases h2
    refine q_asg4D (K := K) (x := .int 138) (ed_tup (ea_cons (ed_is (ed_op (ed_op ed_i (ed_var rfl (.int _)) (rd_mul (mulx_ok (a := 4) (b := 8) (by decide) (by decide) (by decide)))) ed_i rd_add) rfl) (ea_cons (ed_var rfl (.int _)) (ea_cons (ed_var rfl (.int _)) (ea_cons ed_i ea_nil)))) (by show 4 ≤ 100000; decide)) fun va vb vc vd H1 e1 k1 k2 k3 k4 => ?_
    cases k1; cases k2; cases k3; cases k4
    refine q_forR1 (n := 64) (eva_ed1 (K := K) (ed_var rfl (.int _))) ⟨by decide, by decide⟩ (fun i σ H' => ∃ o1 o2 : Option V, σ = [some (.int b), some (.int 64), some (.int 138), some (.int ((lgN b i).1 : Nat)), some (.int ((lgN b i).2.1 : Nat)), some (.int ((lgN b i).2.2 : Nat)), o1, o2] ∧ Ex H H') (fun H2 e2 => ⟨_, _, rfl, e1.trans e2⟩) ?_ ?_
    · rintro i σ' H' hi ⟨o1, o2, rfl, e⟩
      have i6 : i ≤ 66 := by omega
      have inv := lg_inv b1 b2 i i6
      have more := lg_more b1 b2 i6
      have ao : (lgN b i).1 ≤ (lgN b i).2.1 := Nat.le_of_mul_le_mul_right (Nat.le_trans inv.lo inv.hi) (Nat.pow_pos (by decide))
      have o139 := inv.lt
      have m80 : (lgN b i).2.2 < 2 ^ 80 := by
        refine Nat.lt_of_le_of_lt more ?_
        have h1 : bl b ≤ 14 := bl_small b2
        have h2 : 2 ^ i ≤ 2 ^ 66 := Nat.pow_le_pow_right (by decide) i6
        exact Nat.lt_of_le_of_lt (Nat.mul_le_mul h1 h2) (by decide +kernel)
      have nxt : lgN b (i + 1) = lgStep (lgN b i) := rfl
      rw [nxt]
      generalize lgN b i = s at ao o139 m80
      obtain ⟨a, o, m⟩ := s
      have ao : a ≤ o := ao
      have o139 : o < 2 ^ 139 := o139
      have m80 : m < 2 ^ 80 := m80
      have a139 : a < 2 ^ 139 := Nat.lt_of_le_of_lt ao o139
      refine q_par3 (K := K) (ea_cons (ed_is (ed_op (ed_var rfl (.int _)) (ed_var rfl (.int _)) (rd_mul (mulx_ok (a := 139) (b := 139) a139 a139 (by decide)))) (congrArg PyData.int (Int.natCast_mul a a).symm)) (ea_cons (ed_is (ed_op (ed_var rfl (.int _)) (ed_var rfl (.int _)) (rd_mul (mulx_ok (a := 139) (b := 139) o139 o139 (by decide)))) (congrArg PyData.int (Int.natCast_mul o o).symm))
        (ea_cons (ed_is (ed_op ed_i (ed_var rfl (.int _)) (rd_mul (mulx_ok (a := 4) (b := 80) (by decide) m80 (by decide)))) (congrArg PyData.int (show (2 : Int) * (m : Int) = ((2 * m : Nat) : Int) by omega))) ea_nil))) fun va vb vc H2 e2 k1 k2 k3 => ?_
      cases k1; cases k2; cases k3
      refine q_asgD (K := K) (d := .int (lgCut o : Nat)) (ed_is (ed_cb (ea_cons (ed_op (ed_bits (ed_var rfl (.int _))) (ed_var rfl (.int _)) rd_sub) (ea_cons ed_i ea_nil)) rb_max) (show PyData.int (max (((bl (o * o) : Nat) : Int) - 138) 0) = .int (lgCut o : Nat) by unfold lgCut; congr 1; omega)) fun v H3 e3 kk => ?_
      cases kk
      refine s_par3 (K := K) (ea_cons (ed_op (ed_var rfl (.int _)) (ed_var rfl (.int _)) rd_shrN) (ea_cons (ed_op (ed_op (ed_var rfl (.int _)) (ed_var rfl (.int _)) rd_shrN) (ed_cb (ea_cons (ed_op (ed_var rfl (.int _)) ed_i rd_gt) ea_nil) rb_intb) rd_add) (ea_cons (ed_op (ed_var rfl (.int _)) (ed_var rfl (.int _)) rd_add) ea_nil))) fun va vb vc H4 e4 k1 k2 k3 => ?_
      cases k1; cases k2; cases k3
      refine ⟨some (.int (i : Nat)), some (.int (lgCut o : Nat)), ?_, ((e.trans e2).trans e3).trans e4⟩
      have f2 : ((o * o / 2 ^ lgCut o : Nat) : Int) + (if decide ((lgCut o : Int) > 0) = true then 1 else 0) = ((o * o / 2 ^ lgCut o + (if 0 < lgCut o then 1 else 0) : Nat) : Int) := by
        by_cases c : 0 < lgCut o
        · rw [if_pos c, if_pos (decide_eq_true (by omega))]; omega
        · rw [if_neg c, if_neg (by simp; omega)]; omega
      rw [f2]
      have f3 : ((2 * m : Nat) : Int) + (lgCut o : Int) = ((2 * m + lgCut o : Nat) : Int) := by omega
      rw [f3]
      rfl
    · rintro σ' H' ⟨o1, o2, rfl, e⟩
      have e64 : (64 : Int).toNat = 64 := rfl
      rw [e64]
      rw [lgP_eq] at q
      have inv := lg_inv b1 b2 64 (by decide)
      have p := bl_pos inv.one
      refine s_retD (K := K) (ed_tup (ea_cons (ed_is (ed_op (ed_op (ed_var rfl (.int _)) (ed_bits (ed_var rfl (.int _))) rd_add) ed_i rd_sub) (show PyData.int ((((lgN b 64).2.2 : Nat) : Int) + ((bl (lgN b 64).1 : Nat) : Int) - 1) = .int ((lgLo b 64 : Nat) : Int) by unfold lgLo; congr 1; omega)) (ea_cons (ed_is (ed_op (ed_var rfl (.int _)) (ed_bits (ed_var rfl (.int _))) rd_add) (show PyData.int ((((lgN b 64).2.2 : Nat) : Int) + ((bl (lgN b 64).2.1 : Nat) : Int)) = .int ((lgHi b 64 : Nat) : Int) by unfold lgHi; congr 1)) ea_nil)) le2) fun v H2 e2 k => q v H2 (e.trans e2) k
def N_root_below : List Str := ["whole", "root", "bits", "found", "later"]
theorem sc_root_below : FnScope N_root_below ["whole", "root", "bits"] (defScope s_root_below) := ⟨rfl, rfl, rfl, by decide +kernel, rfl, by decide +kernel, by decide +kernel⟩
theorem ok_root_below (T : Tx K mg) : Ok P w K mg base 2 "root_below" ["whole", "root", "bits"] (spRootB K) := by
  have O_powered := ok_powered (P := P) (w := w) (base := base) T
  refine Ok.mk (k := 1) T.f_root_below sc_root_below T.g_root_below (fun _ _ _ _ _ _ us hl => match us, hl with | [_, _, _], _ => rfl) (fun vs H Q E h => ?_) (fun cdv A outer s H vs Q E hr h => ?_)
  · exact len_spR h
  · refine ⟨_, PSs.nox (pss_cons (ps_set (i := 3) sc_root_below.nd rfl (by first | exact Or.inl rfl | exact Or.inr rfl) (pe_ifExp (pt_cmpR op_gt (pv 0) pe_int (nomark _)) (pe_op op_oneShl pe_int (pv 2)) pe_int))
        (pss_cons (ps_while PassesOwn.never (pt_cmpR op_gt (pv 3) pe_int (nomark _)) (pss_cons (ps_set (i := 4) sc_root_below.nd rfl (by first | exact Or.inl rfl | exact Or.inr rfl) (pe_op op_fdivW (pe_op op_add (pe_op op_mulX (pe_op op_sub (pv 1) pe_int) (pv 3)) (pe_op op_fdivW (pv 0) (pcall O_powered (hr.mono (by decide)) rfl (pa_cons (pv 3) (pa_cons (pe_op op_sub (pv 1) pe_int) pa_nil))))) (pv 1)))
        (pss_cons (ps_if (pt_cmpR op_ge (pv 4) (pv 3) (nomark _)) (pss_one (ps_ret (pv 3))) pss_nil)
        (pss_one (ps_set (i := 3) sc_root_below.nd rfl (by first | exact Or.inl rfl | exact Or.inr rfl) (pv 4))))))
        (pss_one (ps_ret pe_int)))), ?_⟩
    obtain ⟨ds, d, -, hv, ⟨w, k, b, rfl, k1, k12, kb, rlt, wlt, rfl⟩, q⟩ := h
    obtain ⟨v0, v1, v2, rfl, h1, h2, h3⟩ := dpa3 hv
    cases h1; cases h2; cases h3
    have b9 : b ≤ 8900 := Nat.le_trans (Nat.le_mul_of_pos_right b k1) kb
    obtain ⟨r1, r2⟩ := iroot_ok w k1
    refine q_asgD (K := K) (d := .int ((if 0 < w then 2 ^ b else 0 : Nat) : Int)) (ed_if (b := decide (0 < w)) (et_D (K := K) (ed_is (ed_op (ed_var rfl (.int _)) ed_i rd_gt) (congrArg PyData.bool (decide_eq_decide.mpr (by omega))))) (fun hb => by rw [if_pos (of_decide_eq_true hb)]; exact ed_op ed_i (ed_var rfl (.int _)) (rd_oneShl (by omega))) (fun hb => by rw [if_neg (of_decide_eq_false hb)]; exact ed_i)) fun v H1 e1 kk => ?_
    cases kk
    refine q_while (fun m σ H' => ∃ (f : Nat) (o : Option V), m = f ∧ σ = [some (.int w), some (.int k), some (.int b), some (.int f), o] ∧ f ≤ 2 ^ b ∧ iroot k w ≤ f ∧ (w = 0 → f = 0) ∧ Ex H H') (if 0 < w then 2 ^ b else 0) ⟨_, _, rfl, rfl, ?_, ?_, fun z => by rw [if_neg (by omega)], e1⟩ ?_
    · split
      · exact Nat.le_refl _
      · exact Nat.zero_le _
    · split
      · exact Nat.le_of_lt rlt
      · have w0 : w = 0 := by omega
        rw [w0] at r1 ⊢
        rcases Nat.eq_zero_or_pos (iroot k 0) with z | z
        · rw [z]; exact Nat.le_refl _
        · have := Nat.pow_pos (n := k) z
          omega
    rintro m σ' H' ⟨f, o, rfl, rfl, f2, fr, f0, e⟩
    refine ⟨decide (0 < m), et_D (K := K) (ed_is (ed_op (ed_var rfl (.int _)) ed_i rd_gt) (congrArg PyData.bool (decide_eq_decide.mpr (by omega)))), fun hb H2 e2 => ?_, fun hb H2 e2 => ?_⟩
    · have m0 : 0 < m := of_decide_eq_true hb
      refine ⟨fun σ2 H2 => ∃ m', m' < m ∧ ∃ (f : Nat) (o : Option V), m' = f ∧ σ2 = [some (.int w), some (.int k), some (.int b), some (.int f), o] ∧ f ≤ 2 ^ b ∧ iroot k w ≤ f ∧ (w = 0 → f = 0) ∧ Ex H H2, fun σ2 H2 h => h, ?_⟩
      obtain ⟨n, rfl⟩ : ∃ n, k = n + 1 := ⟨k - 1, by omega⟩
      have fb : m < 2 ^ (b + 1) := Nat.lt_of_le_of_lt f2 (Nat.pow_lt_pow_right (by decide) (by omega))
      have fn : ((m : Int) ^ n).natAbs < 2 ^ 8950 := by
        rw [← Int.natCast_pow]
        show m ^ n < 2 ^ 8950
        refine Nat.lt_of_le_of_lt (Nat.pow_le_pow_left f2 n) ?_
        rw [← Nat.pow_mul]
        refine Nat.pow_lt_pow_right (by decide) ?_
        have : b * (n + 1) = b * n + b := Nat.mul_succ b n
        clear wlt r1 r2 fr f2 fb rlt
        omega
      have fp : 0 < m ^ n := Nat.pow_pos m0
      have kb1 : (b + 1) * (n + 1) ≤ 60000000 := by
        have e : (b + 1) * (n + 1) = b * (n + 1) + (n + 1) := Nat.succ_mul b (n + 1)
        omega
      have hk1 : ((n + 1 : Nat) : Int) - 1 = (n : Int) := by omega
      refine q_asgD (K := K) (d := .int (((n * m + w / m ^ n) / (n + 1) : Nat) : Int)) (ed_is (ed_op (ed_op (ed_op (ed_is (ed_op (ed_var rfl (.int _)) ed_i rd_sub) (congrArg PyData.int hk1)) (ed_var rfl (.int _)) (rd_mul (mulx_ok (a := 4) (b := 8902) (show n < 2 ^ 4 by omega) (Nat.lt_of_lt_of_le fb (Nat.pow_le_pow_right (by decide) (by omega))) (by decide))))
        (ed_op (ed_var rfl (.int _)) (ed_call (ea_cons (ed_var rfl (.int _)) (ea_cons (ed_is (ed_op (ed_var rfl (.int _)) ed_i rd_sub) (congrArg PyData.int hk1)) ea_nil)) ⟨m, n, b + 1, rfl, fb, by omega, kb1, rfl⟩) (rd_div (wide_div (b := 8950) (by rw [← Int.natCast_pow]; omega) fn (by decide) (by decide)))) rd_add) (ed_var rfl (.int _)) (rd_div (wide_div (b := 4) (by omega) (show n + 1 < 2 ^ 4 by omega) (by decide) (by decide)))) (congrArg PyData.int (by rw [Int.natCast_ediv (n * m + w / m ^ n) (n + 1), Int.natCast_add (n * m), Int.natCast_mul n, Int.natCast_ediv w, Int.natCast_pow]))) fun v H3 e3 kk => ?_
      cases kk
      generalize hl : (n * m + w / m ^ n) / (n + 1) = l
      refine q_when (b := decide (m ≤ l)) (et_D (K := K) (ed_is (ed_op (ed_var rfl (.int _)) (ed_var rfl (.int _)) rd_ge) (congrArg PyData.bool (decide_eq_decide.mpr (by omega))))) (fun hc H4 e4 => ?_) (fun hc H4 e4 => ?_)
      · have c : m ≤ l := of_decide_eq_true hc
        have e0 : iroot (n + 1) w = m := by
          refine Nat.le_antisymm fr (iroot_le (by omega) ?_)
          by_cases z : m ^ (n + 1) ≤ w
          · exact z
          · have := root_lt (n := n) (show w < m ^ (n + 1) by omega)
            omega
        rw [e0] at q
        exact s_retD (K := K) (ed_var rfl (.int _)) fun v H5 e5 kk => q v H5 ((((e.trans e2).trans e3).trans e4).trans e5) kk
      · have c : l < m := by have := of_decide_eq_false hc; omega
        have g : iroot (n + 1) w ≤ l := hl ▸ root_ge r1 m0
        refine s_asgD (K := K) (ed_var rfl (.int _)) fun v H5 e5 kk => ?_
        cases kk
        exact ⟨l, c, l, _, rfl, rfl, by omega, g, fun z => absurd (f0 z) (by omega), (((e.trans e2).trans e3).trans e4).trans e5⟩
    · have m0 : m = 0 := by have := of_decide_eq_false hb; omega
      have e0 : iroot k w = 0 := by omega
      rw [e0] at q
      exact s_retD (K := K) ed_i fun v H3 e3 kk => q v H3 ((e.trans e2).trans e3) kk
def N_step_below : List Str := ["ups", "downs", "root", "high", "bits", "least", "most", "middle", "base", "power"]
theorem sc_step_below : FnScope N_step_below ["ups", "downs", "root"] (defScope s_step_below) := ⟨rfl, rfl, rfl, by decide +kernel, rfl, by decide +kernel, by decide +kernel⟩
theorem ok_step_below (T : Tx K mg) : Ok P w K mg base 3 "step_below" ["ups", "downs", "root"] (spStep K) := by
  have O_log_bounds := ok_log_bounds (P := P) (w := w) (base := base) T
  have O_bits_above := ok_bits_above (P := P) (w := w) (base := base) T
  have O_whole_product := ok_whole_product (P := P) (w := w) (base := base) T
  have O_root_below := ok_root_below (P := P) (w := w) (base := base) T
  refine Ok.mk (k := 2) T.f_step_below sc_step_below T.g_step_below (fun _ _ _ _ _ _ us hl => match us, hl with | [_, _, _], _ => rfl) (fun vs H Q E h => ?_) (fun cdv A outer s H vs Q E hr h => ?_)
  · exact len_spR h
  · refine ⟨_, PSs.nox (pss_cons (ps_set (i := 3) sc_step_below.nd rfl (by first | exact Or.inl rfl | exact Or.inr rfl) (pe_callB (cr_sumK (K := K) (by rfl) (by rfl)) rfl T.b_sum (by decide +kernel) (pa_cons (pe_frz (pe_lc (own := [("base", 8), ("power", 9)]) rfl sc_step_below.nd (pi_listK (K := K) (by rfl) (pv 0)) (blkOk_by (N := N_step_below) (sc := defScope s_step_below) (by decide +kernel)) (fun _ _ _ _ _ => (pg_tupK (K := K) (n := 2) (by rfl) (by rfl) (pgs_cons (pg_name (i := 8) sc_step_below.nd (by rfl) (by first | exact Or.inl rfl | exact Or.inr rfl)) (pgs_cons (pg_name (i := 9) sc_step_below.nd (by rfl) (by first | exact Or.inl rfl | exact Or.inr rfl)) pgs_nil)))) (fun _ _ _ _ _ => pts_nil) (fun _ _ _ _ _ => (pe_op op_mulX (pv 9) (pe_ix (ix_tupK (K := K) (by rfl)) (pcall O_log_bounds (hr.mono (by decide)) rfl (pa_cons (pv 8) (pa_cons (pe_glob (v := .int (64)) rfl T.i_FIRST_FIGURES.choose_spec ⟨_, rfl⟩) pa_nil))) pe_int (fun _ _ => rfl)))))) pa_nil)))
        (pss_cons (ps_set (i := 3) sc_step_below.nd rfl (by first | exact Or.inl rfl | exact Or.inr rfl) (pe_op op_sub (pv 3) (pe_callB (cr_sumK (K := K) (by rfl) (by rfl)) rfl T.b_sum (by decide +kernel) (pa_cons (pe_frz (pe_lc (own := [("base", 8), ("power", 9)]) rfl sc_step_below.nd (pi_listK (K := K) (by rfl) (pv 1)) (blkOk_by (N := N_step_below) (sc := defScope s_step_below) (by decide +kernel)) (fun _ _ _ _ _ => (pg_tupK (K := K) (n := 2) (by rfl) (by rfl) (pgs_cons (pg_name (i := 8) sc_step_below.nd (by rfl) (by first | exact Or.inl rfl | exact Or.inr rfl)) (pgs_cons (pg_name (i := 9) sc_step_below.nd (by rfl) (by first | exact Or.inl rfl | exact Or.inr rfl)) pgs_nil)))) (fun _ _ _ _ _ => pts_nil) (fun _ _ _ _ _ => (pe_op op_mulX (pv 9) (pe_ix (ix_tupK (K := K) (by rfl)) (pcall O_log_bounds (hr.mono (by decide)) rfl (pa_cons (pv 8) (pa_cons (pe_glob (v := .int (64)) rfl T.i_FIRST_FIGURES.choose_spec ⟨_, rfl⟩) pa_nil))) pe_int (fun _ _ => rfl)))))) pa_nil))))
        (pss_cons (ps_set (i := 4) sc_step_below.nd rfl (by first | exact Or.inl rfl | exact Or.inr rfl) (pe_op op_add (pe_callB (call_max2 (by rfl)) rfl T.b_max (by decide +kernel) (pa_cons (pe_op op_fdivW (pv 3) (pe_op op_shlN (pv 2) (pe_glob (v := .int (64)) rfl T.i_FIRST_FIGURES.choose_spec ⟨_, rfl⟩))) (pa_cons pe_int pa_nil))) pe_int))
        (pss_cons (ps_if (pt_cmpR op_le (pe_op op_add (pe_op op_mulX (pv 4) (pv 2)) (pe_callB (call_max2 (by rfl)) rfl T.b_max (by decide +kernel) (pa_cons (pcall O_bits_above (hr.mono (by decide)) rfl (pa_cons (pv 0) pa_nil)) (pa_cons (pcall O_bits_above (hr.mono (by decide)) rfl (pa_cons (pv 1) pa_nil)) pa_nil)))) (pe_glob (v := .int (4194304)) rfl T.i_MOST_BITS.choose_spec ⟨_, rfl⟩) (nomark _)) (pss_one (ps_ret (pcall O_root_below (hr.mono (by decide)) rfl (pa_cons (pe_op op_fdivW (pcall O_whole_product (hr.mono (by decide)) rfl (pa_cons (pv 0) pa_nil)) (pcall O_whole_product (hr.mono (by decide)) rfl (pa_cons (pv 1) pa_nil))) (pa_cons (pv 2) (pa_cons (pv 4) pa_nil)))))) pss_nil)
        (pss_cons (ps_par (i := 5) (j := 6) rfl sc_step_below.nd rfl rfl (by decide) rfl rfl (pa_cons pe_int (pa_cons (pe_op op_oneShl pe_int (pv 4)) pa_nil)) (by rfl))
        (pss_cons (ps_never)
        (pss_one (ps_ret (pv 5))))))))), ?_⟩
    obtain ⟨ds, d, -, hv, ⟨U, D', k, rfl, mU, mD, lU, lD, aU, aD, k1, k12, rfl⟩, q⟩ := h
    obtain ⟨v0, v1, v2, rfl, h1, h2, h3⟩ := dpa3 hv
    cases h3
    obtain ⟨G, hG⟩ : ∃ G : Nat, G = 2 ^ 64 := ⟨_, rfl⟩
    have hiU : ∀ x ∈ U, x.1 ^ G ≤ 2 ^ (lgP x.1).2 := fun x hx => lgP_hi hG (by have := (mU x hx).1; omega) (mU x hx).2
    have loD : ∀ x ∈ D', 2 ^ (lgP x.1).1 ≤ x.1 ^ G := fun x hx => lgP_lo hG (by have := (mD x hx).1; omega) (mD x hx).2
    have wU : wSum (fun p => (lgP p).2) U ≤ above U * G + 2 * above U := wSum_le fun x hx => ⟨by have := (mU x hx).1; omega, lgP_le hG (by have := (mU x hx).1; omega) (mU x hx).2⟩
    have smU : ∀ x ∈ U, x.2 < 2 ^ 20 ∧ (lgP x.1).2 < 2 ^ 80 := fun x hx => by
      have a := above_mem hx
      have b3 := bl_pos (p := x.1) (by have := (mU x hx).1; omega)
      have h2 : 1 * x.2 ≤ bl x.1 * x.2 := Nat.mul_le_mul_right _ b3
      exact ⟨by omega, (lgP_sm (by have := (mU x hx).1; omega) (mU x hx).2).2⟩
    have smD : ∀ x ∈ D', x.2 < 2 ^ 20 ∧ (lgP x.1).1 < 2 ^ 80 := fun x hx => by
      have a := above_mem hx
      have b3 := bl_pos (p := x.1) (by have := (mD x hx).1; omega)
      have h2 : 1 * x.2 ≤ bl x.1 * x.2 := Nat.mul_le_mul_right _ b3
      exact ⟨by omega, (lgP_sm (by have := (mD x hx).1; omega) (mD x hx).2).1⟩
    have pD : 1 ≤ prodL D' := by
      have : ∀ {M : List (Nat × Nat)}, (∀ x ∈ M, 1 ≤ x.1) → 1 ≤ prodL M := by
        intro M
        induction M with
        | nil => intro _; exact Nat.le_refl _
        | cons x s ih =>
          intro h
          exact Nat.mul_pos (Nat.pow_pos (h x List.mem_cons_self)) (ih fun y hy => h y (List.mem_cons_of_mem _ hy))
      exact this fun x hx => by have := (mD x hx).1; omega
    have dU : prodL U < 2 ^ 8801 := Nat.lt_of_le_of_lt (Nat.le_trans prod_le (Nat.pow_le_pow_right (by decide) aU)) (Nat.pow_lt_pow_right (by decide) (by decide))
    have dD : prodL D' < 2 ^ 8801 := Nat.lt_of_le_of_lt (Nat.le_trans prod_le (Nat.pow_le_pow_right (by decide) aD)) (Nat.pow_lt_pow_right (by decide) (by decide))
    refine q_asgD (K := K) (d := .int ((wSum (fun p => (lgP p).2) U : Nat) : Int)) (ed_is (ed_cb (ea_cons (ed_is (el_list (K := K) pN U (fun _ => true) (fun x => .int ((x.2 * (lgP x.1).2 : Nat) : Int)) (ed_var rfl h1) (by omega) (fun _ _ => rfl) (fun x hx => turn_two rfl (fun _ _ => rfl) (fun _ _ _ _ _ _ => et_yes) (fun _ a b H2 e2 ha hb' => ed_is (ed_op (ed_var rfl hb') (ed_op (ed_call (ea_cons (ed_var rfl ha) (ea_cons ed_i ea_nil)) ⟨x.1, rfl, by have := (mU x hx).1; omega, (mU x hx).2, rfl⟩) ed_i (rd_ixT (n := 1) rfl)) (rd_mul (mulx_ok (a := 20) (b := 80) (smU x hx).1 (smU x hx).2 (by decide)))) (congrArg PyData.int (Int.natCast_mul x.2 ((lgP x.1).2)).symm))))
      (show _ = PyData.list ((U.map fun x => ((x.2 * (lgP x.1).2 : Nat) : Int)).map PyData.int) by rw [outs_all, List.map_map]; rfl)) ea_nil) rb_sum) (congrArg PyData.int (sum_cast U fun x => x.2 * (lgP x.1).2))) fun v H1 e1 kk => ?_
    cases kk
    have h1 := Dq_ex h1 e1
    have h2 := Dq_ex h2 e1
    refine q_asgD (K := K) (d := .int (((wSum (fun p => (lgP p).2) U : Nat) : Int) - ((wSum (fun p => (lgP p).1) D' : Nat) : Int))) (ed_op (ed_var rfl (.int _)) (ed_is (ed_cb (ea_cons (ed_is (el_list (K := K) pN D' (fun _ => true) (fun x => .int ((x.2 * (lgP x.1).1 : Nat) : Int)) (ed_var rfl h2) (by omega) (fun _ _ => rfl) (fun x hx => turn_two rfl (fun _ _ => rfl) (fun _ _ _ _ _ _ => et_yes) (fun _ a b H2 e2 ha hb' => ed_is (ed_op (ed_var rfl hb') (ed_op (ed_call (ea_cons (ed_var rfl ha) (ea_cons ed_i ea_nil)) ⟨x.1, rfl, by have := (mD x hx).1; omega, (mD x hx).2, rfl⟩) ed_i (rd_ixT (n := 0) rfl)) (rd_mul (mulx_ok (a := 20) (b := 80) (smD x hx).1 (smD x hx).2 (by decide)))) (congrArg PyData.int (Int.natCast_mul x.2 ((lgP x.1).1)).symm))))
      (show _ = PyData.list ((D'.map fun x => ((x.2 * (lgP x.1).1 : Nat) : Int)).map PyData.int) by rw [outs_all, List.map_map]; rfl)) ea_nil) rb_sum) (congrArg PyData.int (sum_cast D' fun x => x.2 * (lgP x.1).1))) rd_sub) fun v H2 e2 kk => ?_
    cases kk
    have h1 := Dq_ex h1 e2
    have h2 := Dq_ex h2 e2
    have G0 : 0 < G := by rw [hG]; exact Nat.pow_pos (by decide)
    have Gb : 2 * above U ≤ G := by rw [hG]; exact Nat.le_trans (show 2 * above U ≤ 17600 by omega) (by decide +kernel)
    have k64b : k * G < 2 ^ 70 := by rw [hG]; exact Nat.lt_of_le_of_lt (Nat.mul_le_mul_right _ k12) (by decide +kernel)
    obtain ⟨bits, hb1, hb2, hb3⟩ := bits_ex (G := G) (SU := wSum (fun p => (lgP p).2) U) (SD := wSum (fun p => (lgP p).1) D') (a := above U) G0 k1 wU Gb
    have far := far_enough (G := G) (hi := fun p => (lgP p).2) (lo := fun p => (lgP p).1) k1 hiU loD pD hb2
    have sk : Builtin.Int.intBits (k : Int) + 64 ≤ 134217728 := by
      have := intBits_le (a := (k : Int)) (k := 4) (show k < 2 ^ 4 by omega)
      omega
    have k64 : (0 : Int) < ((k * G : Nat) : Int) := Int.ofNat_lt.mpr (Nat.mul_pos k1 G0)
    generalize wSum (fun p => (lgP p).2) U = SU at hb1 hb2
    generalize wSum (fun p => (lgP p).1) D' = SD at hb1 hb2
    refine q_asgD (K := K) (d := .int ((bits : Nat) : Int)) (ed_is (ed_op (ed_cb (ea_cons (ed_op (ed_var rfl (.int _)) (ed_op (ed_var rfl (.int _)) ed_i (rd_shl64 hG sk)) (rd_div (wide_div (b := 70) k64 k64b (by decide) (by decide)))) (ea_cons ed_i ea_nil)) rb_max) ed_i rd_add) (congrArg PyData.int hb1)) fun v H3 e3 kk => ?_
    cases kk
    have h1 := Dq_ex h1 e3
    have h2 := Dq_ex h2 e3
    clear hiU loD wU smU smD
    have kbits : bits * k ≤ 8900 := by omega
    have b9 : bits ≤ 8900 := Nat.le_trans (Nat.le_mul_of_pos_right bits k1) kbits
    have w8 : prodL U / prodL D' < 2 ^ 8901 := Nat.lt_of_le_of_lt (Nat.div_le_self _ _) (Nat.lt_trans dU (Nat.pow_lt_pow_right (by decide) (by decide)))
    refine q_when (b := true) (et_D (K := K) (ed_is (ed_op (ed_op (ed_op (ed_var rfl (.int _)) (ed_var rfl (.int _)) (rd_mul (mulx_ok (a := 14) (b := 4) (show bits < 2 ^ 14 by omega) (show k < 2 ^ 4 by omega) (by decide)))) (ed_cb (ea_cons (ed_call (ea_cons (ed_var rfl h1) ea_nil) ⟨U, rfl, mU, lU, by omega, rfl⟩) (ea_cons (ed_call (ea_cons (ed_var rfl h2) ea_nil) ⟨D', rfl, mD, lD, by omega, rfl⟩) ea_nil)) rb_max) rd_add) ed_i rd_le) (congrArg PyData.bool (decide_eq_true (by rw [← Int.natCast_mul]; omega))))) (fun _ H4 e4 => ?_) fun hb => by cases hb
    have h1 := Dq_ex h1 e4
    have h2 := Dq_ex h2 e4
    refine s_retD (K := K) (ed_call (ea_cons (ed_is (ed_op (ed_call (ea_cons (ed_var rfl h1) ea_nil) ⟨U, rfl, mU, lU, by omega, rfl⟩) (ed_call (ea_cons (ed_var rfl h2) ea_nil) ⟨D', rfl, mD, lD, by omega, rfl⟩) (rd_div (wide_div (b := 8801) (by omega) dD (by decide) (by decide)))) (congrArg PyData.int (Int.natCast_ediv (prodL U) (prodL D')).symm)) (ea_cons (ed_var rfl (.int _)) (ea_cons (ed_var rfl (.int _)) ea_nil))) ⟨_, k, bits, rfl, k1, k12, kbits, far, w8, rfl⟩) fun v H5 e5 kk => q v H5 ((((e1.trans e2).trans e3).trans e4).trans e5) kk
def N_between : List Str := ["number", "figures", "ten", "root", "powers", "ups", "downs", "part", "prime", "power"]
theorem sc_between : FnScope N_between ["number", "figures"] (defScope s_between) := ⟨rfl, rfl, rfl, by decide +kernel, rfl, by decide +kernel, by decide +kernel⟩
theorem okK_between (T : Tx K mg) : OkK P w K mg base 5 "between" ["number", "figures"] (spBetween K) s_between := by
  have O_is_integer := ok_is_integer (P := P) (w := w) (base := base) T
  have O_lowest := ok_lowest (P := P) (w := w) (base := base) T
  have O_powered := ok_powered (P := P) (w := w) (base := base) T
  have O_check_number := ok_check_number (P := P) (w := w) (base := base) T
  have O_wholes := ok_wholes (P := P) (w := w) (base := base) T
  have O_whole_product := ok_whole_product (P := P) (w := w) (base := base) T
  have O_step_below := ok_step_below (P := P) (w := w) (base := base) T
  refine OkK.mk (k := 4) T.f_between sc_between T.g_between (fun vs H Q E h => ?_) (fun cdv A outer s H vs Q E hr h => ?_)
  · exact len_spR h
  · refine ⟨_, PSs.nox (pss_cons (ps_expr (pcall O_check_number (hr.mono (by decide)) rfl (pa_cons (pv 0) pa_nil)))
        (pss_cons (ps_if (pt_not (pt_val (pcall O_is_integer (hr.mono (by decide)) rfl (pa_cons (pv 1) (pa_cons pe_int (pa_cons (pe_glob (v := .int (12)) rfl T.i_MOST_FIGURES.choose_spec ⟨_, rfl⟩) pa_nil)))))) (pss_one ps_never) pss_nil)
        (pss_cons (ps_asg (pe_tupF (pa_cons (pcall O_powered (hr.mono (by decide)) rfl (pa_cons (pe_glob (v := .int (10)) rfl T.i_TEN.choose_spec ⟨_, rfl⟩) (pa_cons (pv 1) pa_nil))) (pa_cons (pcall O_wholes (hr.mono (by decide)) rfl (pa_cons (pv 0) pa_nil)) pa_nil))) (pg_tupK (K := K) (n := 2) (by rfl) (by rfl) (pgs_cons (pg_name (i := 2) sc_between.nd (by rfl) (by first | exact Or.inl rfl | exact Or.inr rfl)) (pgs_cons (pg_tupK (K := K) (n := 2) (by rfl) (by rfl) (pgs_cons (pg_name (i := 3) sc_between.nd (by rfl) (by first | exact Or.inl rfl | exact Or.inr rfl)) (pgs_cons (pg_name (i := 4) sc_between.nd (by rfl) (by first | exact Or.inl rfl | exact Or.inr rfl)) pgs_nil))) pgs_nil))))
        (pss_cons (ps_frz rfl (ps_setLc (i := 5) (own := [("prime", 8), ("power", 9)]) rfl sc_between.nd rfl rfl (sw_true rfl rfl rfl (by decide +kernel)) (pi_listK (K := K) (by rfl) (pv 4)) (blkOk_by (N := N_between) (sc := defScope s_between) (by decide +kernel)) (fun _ _ _ _ _ => (pg_tupK (K := K) (n := 2) (by rfl) (by rfl) (pgs_cons (pg_name (i := 8) sc_between.nd (by rfl) (by first | exact Or.inl rfl | exact Or.inr rfl)) (pgs_cons (pg_name (i := 9) sc_between.nd (by rfl) (by first | exact Or.inl rfl | exact Or.inr rfl)) pgs_nil)))) (fun _ _ _ _ _ => (pts_one (pt_cmpR op_gt (pv 9) pe_int (nomark _)))) (fun _ _ _ _ _ => (pe_tupF (pa_cons (pv 8) (pa_cons (pv 9) pa_nil))))))
        (pss_cons (ps_frz rfl (ps_setLc (i := 6) (own := [("prime", 8), ("power", 9)]) rfl sc_between.nd rfl rfl (sw_true rfl rfl rfl (by decide +kernel)) (pi_listK (K := K) (by rfl) (pv 4)) (blkOk_by (N := N_between) (sc := defScope s_between) (by decide +kernel)) (fun _ _ _ _ _ => (pg_tupK (K := K) (n := 2) (by rfl) (by rfl) (pgs_cons (pg_name (i := 8) sc_between.nd (by rfl) (by first | exact Or.inl rfl | exact Or.inr rfl)) (pgs_cons (pg_name (i := 9) sc_between.nd (by rfl) (by first | exact Or.inl rfl | exact Or.inr rfl)) pgs_nil)))) (fun _ _ _ _ _ => (pts_one (pt_cmpR op_lt (pv 9) pe_int (nomark _)))) (fun _ _ _ _ _ => (pe_tupF (pa_cons (pv 8) (pa_cons (pe_un un_neg (pv 9)) pa_nil))))))
        (pss_cons (ps_if (pt_cmpR (op_eqDK (K := K) (by rfl) hr.units) (pv 3) pe_int (nomark _)) (pss_one (ps_set (i := 7) sc_between.nd rfl (by first | exact Or.inl rfl | exact Or.inr rfl) (pe_op op_fdivW (pe_op op_mulX (pcall O_whole_product (hr.mono (by decide)) rfl (pa_cons (pv 5) pa_nil)) (pv 2)) (pcall O_whole_product (hr.mono (by decide)) rfl (pa_cons (pv 6) pa_nil))))) (pss_one (ps_set (i := 7) sc_between.nd rfl (by first | exact Or.inl rfl | exact Or.inr rfl) (pcall O_step_below (hr.mono (by decide)) rfl (pa_cons (pe_frz (pe_lst (pa_starK (K := K) (by rfl) (pv 5) (pa_cons (pe_tupF (pa_cons (pe_glob (v := .int (10)) rfl T.i_TEN.choose_spec ⟨_, rfl⟩) (pa_cons (pe_op op_mulX (pv 1) (pv 3)) pa_nil))) pa_nil)))) (pa_cons (pv 6) (pa_cons (pv 3) pa_nil)))))))
        (pss_one (ps_ret (pe_tupF (pa_cons (pcall O_lowest (hr.mono (by decide)) rfl (pa_cons (pv 7) (pa_cons (pv 2) pa_nil))) (pa_cons (pcall O_lowest (hr.mono (by decide)) rfl (pa_cons (pe_op op_add (pv 7) pe_int) (pa_cons (pv 2) pa_nil))) pa_nil))))))))))), ?_⟩
    obtain ⟨ds, d, -, hv, ⟨n, f, rfl, ⟨ok, s1, l12, ab, f12⟩, rfl⟩, q⟩ := h
    obtain ⟨v0, v1, rfl, h1, h2⟩ := dpa2 hv
    cases h2
    refine q_dropD (K := K) (ed_call (ea_cons (ed_var rfl h1) ea_nil) ⟨n, rfl, ok, rfl⟩) fun H1 e1 => ?_
    have h1 := Dq_ex h1 e1
    refine q_when (b := false) (et_is (et_not (et_DB (K := K) (ed_is (ed_call (ea_cons (ed_var rfl (.int _)) (ea_cons ed_i (ea_cons ed_i ea_nil))) ⟨_, _, _, rfl, rfl⟩) (show PyData.bool (isIntD 0 12 (.int f)) = .bool true by unfold isIntD; congr 1; simp; omega)))) rfl) (fun hb => by cases hb) fun _ H2 e2 => ?_
    have h1 := Dq_ex h1 e2
    have l4 : lcmN n < 2 ^ 4000 := Nat.lt_of_le_of_lt l12 (Nat.lt_trans (show 12 < 2 ^ 4 by decide) (Nat.pow_lt_pow_right (by decide) (by decide)))
    have lp := lcm_pos n
    have T0 : 0 < 10 ^ f := Nat.pow_pos (by decide)
    have T40 : 10 ^ f < 2 ^ 40 := Nat.lt_of_le_of_lt (Nat.pow_le_pow_right (by decide) f12) (by decide +kernel)
    refine q_asg12D (K := K) (x := .int (10 ^ f : Nat)) (ed_tup (ea_cons (ed_is (ed_call (ea_cons ed_i (ea_cons (ed_var rfl (.int _)) ea_nil)) ⟨10, f, 4, rfl, by decide, by decide, by omega, rfl⟩) (congrArg PyData.int (show (10 : Int) ^ f = ((10 ^ f : Nat) : Int) by rw [Int.natCast_pow]; rfl))) (ea_cons (ed_call (ea_cons (ed_var rfl h1) ea_nil) ⟨n, rfl, ok.can, s1.mono (by decide), l4, rfl⟩) ea_nil)) le2) fun va vb vc H3 e3 k1 k2 k3 => ?_
    cases k1; cases k2
    have cm : ∀ x ∈ wholesL n, 2 ≤ x.1 ∧ x.1 ≤ 9999 := fun x hx => by
      obtain ⟨y, hy, rfl⟩ := List.mem_map.mp hx
      have := ok.pr y hy
      exact ⟨this.1.1, this.2.1⟩
    have cl : (wholesL n).length ≤ 10000 := by unfold wholesL; rw [List.length_map]; exact ok.can.len
    unfold partB at q
    have part_lt := partB_lt l12 ab f12
    unfold partB at part_lt
    have abw := ab
    obtain ⟨m1, m2⟩ := ups_mem cm
    obtain ⟨l1, l2⟩ := ups_len (wholesL n)
    have ab2 := above_ups (wholesL n)
    obtain ⟨u1, u2⟩ := ups_data (wholesL n)
    generalize wholesL n = W at k3 cm cl m1 m2 l1 l2 ab2 u1 u2 q part_lt ab
    refine q_asgD (K := K) (d := .list ((upsOf W).map pN)) (ed_is (el_list (K := K) pI W (fun x => decide (0 < x.2)) (fun x => pI x) (ed_var rfl k3) (by omega) (fun _ _ => rfl) (fun x hx => turn_two rfl (fun _ _ => rfl) (fun a b H2 e2 ha hb' => et_D (K := K) (ed_op (ed_var rfl hb') ed_i rd_gt)) (fun _ a b H2 e2 ha hb' => ed_tup (ea_cons (ed_var rfl ha) (ea_cons (ed_var rfl hb') ea_nil)) le2))) (congrArg PyData.list u1)) fun v3 H4 e4 h3 => ?_
    refine q_asgD (K := K) (d := .list ((downsOf W).map pN)) (ed_is (el_list (K := K) pI W (fun x => decide (x.2 < 0)) (fun x => pI (x.1, -x.2)) (ed_var rfl (Dq_ex k3 e4)) (by omega) (fun _ _ => rfl) (fun x hx => turn_two rfl (fun _ _ => rfl) (fun a b H2 e2 ha hb' => et_D (K := K) (ed_op (ed_var rfl hb') ed_i rd_lt)) (fun _ a b H2 e2 ha hb' => ed_tup (ea_cons (ed_var rfl ha) (ea_cons (ed_neg (ed_var rfl hb')) ea_nil)) le2))) (congrArg PyData.list u2)) fun v4 H5 e5 h4 => ?_
    have h3 := Dq_ex h3 e5
    have bU : above (upsOf W) ≤ 7488 := by omega
    have l1 : (upsOf W).length ≤ 7488 := Nat.le_trans (len_above fun x hx => ⟨by have := (m1 x hx).1; omega, ups_ge1 x hx⟩) bU
    have bD : above (downsOf W) ≤ 7488 := by omega
    generalize upsOf W = U at h3 m1 l1 bU q part_lt
    generalize downsOf W = D' at h4 m2 l2 bD q part_lt
    have dU : prodL U < 2 ^ 7489 := Nat.lt_of_le_of_lt (Nat.le_trans prod_le (Nat.pow_le_pow_right (by decide) bU)) (Nat.pow_lt_pow_right (by decide) (by decide))
    have dD : prodL D' < 2 ^ 7489 := Nat.lt_of_le_of_lt (Nat.le_trans prod_le (Nat.pow_le_pow_right (by decide) bD)) (Nat.pow_lt_pow_right (by decide) (by decide))
    have pD : 0 < prodL D' := prod_pos fun x hx => by have := (m2 x hx).1; omega
    generalize hk : lcmN n = k at l12 lp q part_lt ⊢
    refine q_ifD (K := K) (b := decide (k = 1)) (d := .int (iroot k (prodL U * (10 ^ f) ^ k / prodL D') : Nat)) (i := 7) (et_D (K := K) (ed_is (ed_op (ed_var rfl (.int _)) ed_i rd_eqI) (congrArg PyData.bool (decide_eq_decide.mpr (by omega))))) (fun hb => ?_) (fun hb => ?_) fun v5 H6 e6 kk => ?_
    · have k1 : k = 1 := of_decide_eq_true hb
      rw [k1, iroot_one, Nat.pow_one]
      exact ed_is (ed_op (ed_op (ed_call (ea_cons (ed_var rfl h3) ea_nil) ⟨U, rfl, m1, by omega, by omega, rfl⟩) (ed_var rfl (.int _)) (rd_mul (mulx_ok (a := 7489) (b := 40) dU T40 (by decide)))) (ed_call (ea_cons (ed_var rfl h4) ea_nil) ⟨D', rfl, m2, by omega, by omega, rfl⟩) (rd_div (wide_div (b := 7489) (by omega) dD (by decide) (by decide)))) (congrArg PyData.int (by rw [Int.natCast_ediv, Int.natCast_mul]))
    · have e10 : prodL (U ++ [(10, f * k)]) = prodL U * (10 ^ f) ^ k := by
        rw [prodL_app]
        show _ * (10 ^ (f * k) * 1) = _
        rw [Nat.mul_one, Nat.pow_mul]
      rw [← e10]
      have fk : f * k ≤ 144 := Nat.mul_le_mul f12 l12
      exact ed_call (ea_cons (ed_lst (ea_is (ea_star (ED.em (ed_var rfl h3)) (ea_cons (ed_tup (ea_cons ed_i (ea_cons (ed_op (ed_var rfl (.int _)) (ed_var rfl (.int _)) (rd_mul (mulx_ok (a := 4) (b := 4) (show f < 2 ^ 4 by omega) (show k < 2 ^ 4 by omega) (by decide)))) ea_nil)) le2) ea_nil)) (show _ = (U ++ [(10, f * k)]).map pN by rw [List.map_append]; rfl)) (by rw [List.length_map, List.length_append]; show _ + 1 ≤ _; omega)) (ea_cons (ed_var rfl h4) (ea_cons (ed_var rfl (.int _)) ea_nil)))
        ⟨U ++ [(10, f * k)], D', k, rfl, fun x hx => by
          rcases List.mem_append.mp hx with hx | hx
          · exact m1 x hx
          · rw [List.mem_singleton.mp hx]; exact (show 2 ≤ 10 ∧ 10 ≤ 9999 by decide), m2, by rw [List.length_append]; show _ + 1 ≤ _; omega, by omega, by
          have e : above (U ++ [(10, f * k)]) = above U + 4 * (f * k) := by
            unfold above
            rw [List.map_append, List.sum_append]
            show _ + (bl 10 * (f * k) + 0) = _
            rw [show bl 10 = 4 by decide]
            rfl
          omega, by omega, lp, l12, rfl⟩
    cases kk
    generalize iroot k (prodL U * (10 ^ f) ^ k / prodL D') = r at q part_lt
    have r8 : r < 2 ^ 8000 := Nat.lt_trans part_lt (Nat.pow_lt_pow_right (by decide) (by decide))
    have r9 : r + 1 < 2 ^ 8000 := Nat.lt_of_le_of_lt (show r + 1 ≤ 2 ^ 1400 from part_lt) (Nat.pow_lt_pow_right (by decide) (by decide))
    have t8 : 10 ^ f < 2 ^ 8000 := Nat.lt_trans T40 (Nat.pow_lt_pow_right (by decide) (by decide))
    exact s_retD (K := K) (ed_tup (ea_cons (ed_call (ea_cons (ed_var rfl (.int _)) (ea_cons (ed_var rfl (.int _)) ea_nil)) ⟨r, 10 ^ f, rfl, by omega, r8, t8, rfl⟩) (ea_cons (ed_call (ea_cons (ed_is (ed_op (ed_var rfl (.int _)) ed_i rd_add) (show PyData.int ((r : Int) + 1) = .int ((r + 1 : Nat) : Int) from rfl)) (ea_cons (ed_var rfl (.int _)) ea_nil)) ⟨(r + 1 : Nat), 10 ^ f, rfl, by omega, r9, t8, rfl⟩) ea_nil)) le2) fun v H7 e7 k => q v H7 ((((((e1.trans e2).trans e3).trans e4).trans e5).trans e6).trans e7) k
theorem ok_between (T : Tx K mg) : Ok P w K mg base 5 "between" ["number", "figures"] (spBetween K) := (okK_between T).ok (fun _ _ _ _ _ _ us hl => match us, hl with | [_, _], _ => rfl)
end
end K03

namespace K03
open PySem PySem.Spec PyProof.Rows L2 Evl My TL
section
variable {P : Program} {w : World} {K : PySem.W.Frag} {mg : Str → Option Value} {base : Heap}
def N_u_law_pot : List Str := ["script", "place", "cell", "own", "small"]
theorem sc_u_law_pot : FnScope N_u_law_pot ["script", "place"] (defScope s_u_law_pot) := ⟨rfl, rfl, rfl, by decide +kernel, rfl, by decide +kernel, by decide +kernel⟩
theorem ok_u_law_pot (T : Tx K mg) : Ok P w K mg base 1 "_law_pot" ["script", "place"] (spPot K) := by
  refine Ok.mk (k := 0) T.f_u_law_pot sc_u_law_pot T.g_u_law_pot (fun _ _ _ _ _ _ us hl => match us, hl with | [_, _], _ => rfl) (fun vs H Q E h => ?_) (fun cdv A outer s H vs Q E hr h => ?_)
  · exact len_spPot h
  · refine ⟨_, PSs.nox (pss_cons (ps_set (i := 2) sc_u_law_pot.nd rfl (by first | exact Or.inl rfl | exact Or.inr rfl) (pe_ifExp (pt_cmpR op_lt (pv 1) (pe_callB (call_lenK (K := K) (by rfl)) rfl T.b_len (by decide +kernel) (pa_cons (pv 0) pa_nil)) (nomark _)) (pe_ix (ix_listK (K := K) (by rfl)) (pv 0) (pv 1) (fun _ _ => rfl)) (pe_op op_add (pe_op op_add (pe_op op_mod (pe_callTy call_int1 rfl T.b_int (by decide +kernel) (pa_cons (pe_callB (cr_sumK (K := K) (by rfl) (by rfl)) rfl T.b_sum (by decide +kernel) (pa_cons (pe_frz (pe_slice (sl_listK (K := K) (by rfl)) (pv 0) po_none (po_some pe_int))) pa_nil)) pa_nil)) pe_int) (pe_op op_mulX pe_int (pv 1))) pe_int)))
        (pss_cons (ps_set (i := 3) sc_u_law_pot.nd rfl (by first | exact Or.inl rfl | exact Or.inr rfl) (pe_op op_mulX (pe_op op_mod (pe_callTy call_int1 rfl T.b_int (by decide +kernel) (pa_cons (pe_callB call_abs rfl T.b_abs (by decide +kernel) (pa_cons (pv 2) pa_nil)) pa_nil)) (pe_op op_powW (pe_op op_powW pe_int pe_int) pe_int)) (pe_callTy call_int1 rfl T.b_int (by decide +kernel) (pa_cons (pe_cmpR op_ge (pe_callB call_abs rfl T.b_abs (by decide +kernel) (pa_cons (pv 2) pa_nil)) (pe_op op_pow pe_int pe_int) (nomark _)) pa_nil))))
        (pss_cons (ps_set (i := 4) sc_u_law_pot.nd rfl (by first | exact Or.inl rfl | exact Or.inr rfl) (pe_op op_mod (pe_callTy call_int1 rfl T.b_int (by decide +kernel) (pa_cons (pv 2) pa_nil)) pe_int))
        (pss_one (ps_ret (pe_lst (pa_cons (pv 3) (pa_cons (pe_op op_mod (pe_callTy call_int1 rfl T.b_int (by decide +kernel) (pa_cons (pe_op op_add (pe_op op_add (pe_op op_mulX (pv 4) pe_int) (pe_op op_mulX (pe_op op_mulX pe_int (pv 1)) (pv 1))) pe_int) pa_nil)) pe_int) (pa_cons pe_int pa_nil))))))))), ?_⟩
    obtain ⟨a, ns, n, rfl, hs, hl, hn, q⟩ := h
    have hd : Dq K H (.ref a) (.list (ns.map PyData.int)) := .lst hs (ints_dpa ns)
    have M0 := big_mod
    refine q_asgI (K := K) (P := fun _ => True) ?_ fun c _ H1 e1 => ?_
    · by_cases hlt : n < ns.length
      · refine ⟨ns[n], trivial, ed_if (b := true) (et_D (K := K) (ed_is (ed_op (ed_var rfl (.int _)) (ed_cb (ea_cons (ed_var rfl hd) ea_nil) (rb_lenL (by rw [List.length_map]; omega))) rd_lt) (congrArg PyData.bool (decide_eq_true (by rw [List.length_map]; omega))))) (fun _ => ed_op (ed_var rfl hd) (ed_var rfl (.int _)) (rd_ixL (n := n) ?_)) fun hb => by cases hb⟩
        rw [List.getElem?_map, List.getElem?_eq_getElem hlt]
        rfl
      · exact ⟨_, trivial, ed_if (b := false) (et_D (K := K) (ed_is (ed_op (ed_var rfl (.int _)) (ed_cb (ea_cons (ed_var rfl hd) ea_nil) (rb_lenL (by rw [List.length_map]; omega))) rd_lt) (congrArg PyData.bool (decide_eq_false (by rw [List.length_map]; omega))))) (fun hb => by cases hb) fun _ =>
          ed_op (ed_op (ed_op (ed_cb (ea_cons (ed_cb (ea_cons (ed_is (ed_takeL (j := 1) (ed_var rfl hd)) (congrArg PyData.list (List.map_take).symm)) ea_nil) rb_sum) ea_nil) rb_int) ed_i (rd_mod (by decide))) (ed_op ed_i (ed_var rfl (.int _)) (rd_mul (sq_mul1 (by omega) (by decide) (by decide)))) rd_add) ed_i rd_add⟩
    refine q_asgI (K := K) (P := fun i => 0 ≤ i) ⟨_, ?_, ed_op (ed_op (ed_cb (ea_cons (ed_cb (ea_cons (ed_var rfl (.int _)) ea_nil) rb_abs) ea_nil) rb_int) (ed_op (ed_op ed_i ed_i (rd_powW (j := 60) (b := 4) (by decide) (by decide))) ed_i (rd_powW (j := 5) (b := 240) (by decide +kernel) (by decide))) (rd_mod M0.2)) (ed_cb (ea_cons (ed_op (ed_cb (ea_cons (ed_var rfl (.int _)) ea_nil) rb_abs) (ed_op ed_i ed_i (rd_pow ⟨by decide, by decide, by decide⟩)) rd_ge) ea_nil) rb_intb) (rd_mul ?_)⟩ fun a' ha' H2 e2 => ?_
    · exact Int.mul_nonneg (mod_in _ M0.2).1 (by split <;> decide)
    · refine mulx_ok (a := 1000) (b := 2) ?_ (by split <;> decide) (by decide)
      have h1 := mod_in ((c.natAbs : Nat) : Int) M0.2
      have h2 := M0.1
      omega
    refine q_asgI (K := K) (P := fun i => 0 ≤ i ∧ i < 2305843009213693951) ⟨_, mod_in _ (by decide), ed_op (ed_cb (ea_cons (ed_var rfl (.int _)) ea_nil) rb_int) ed_i (rd_mod (by decide))⟩ fun sm hsm H3 e3 => ?_
    have c0 : 0 ≤ (n : Int) := Int.natCast_nonneg n
    refine s_retNL (K := K) ⟨_, ?_, ea_cons (ed_var rfl (.int _)) (ea_cons (ed_op (ed_cb (ea_cons (ed_op (ed_op (ed_op (ed_var rfl (.int _)) ed_i (rd_mul (mulx_ok (a := 64) (b := 64) (by omega) (by decide) (by decide)))) (ed_op (ed_op ed_i (ed_var rfl (.int _)) (rd_mul (sq_mul1 (by omega) (by decide) (by decide)))) (ed_var rfl (.int _)) (rd_mul (sq_mul2 (by omega) (by decide) (by decide)))) rd_add) ed_i rd_add) ea_nil) rb_int) ed_i (rd_mod (by decide))) (ea_cons ed_i ea_nil))⟩ ha' rfl fun p H4 h4 e4 hp => q p H4 (none_of_ex ((e1.trans e2).trans e3) h4) (((e1.trans e2).trans e3).trans e4) hp
    exact mod_61 _
def N_u_law_take : List Str := ["pot", "upto", "digit", "prime", "blend"]
theorem sc_u_law_take : FnScope N_u_law_take ["pot", "upto"] (defScope s_u_law_take) := ⟨rfl, rfl, rfl, by decide +kernel, rfl, by decide +kernel, by decide +kernel⟩
theorem ok_u_law_take (T : Tx K mg) : Ok P w K mg base 1 "_law_take" ["pot", "upto"] (spTake K) := by
  refine Ok.mk (k := 0) T.f_u_law_take sc_u_law_take T.g_u_law_take (fun _ _ _ _ _ _ us hl => match us, hl with | [_, _], _ => rfl) (fun vs H Q E h => ?_) (fun cdv A outer s H vs Q E hr h => ?_)
  · exact len_spP h
  · refine ⟨_, PSs.nox (pss_cons (ps_if (pt_cmpR op_gt (pe_ix (ix_listK (K := K) (by rfl)) (pv 0) pe_int (fun _ _ => rfl)) pe_int (nomark _)) (pss_cons (ps_set (i := 2) sc_u_law_take.nd rfl (by first | exact Or.inl rfl | exact Or.inr rfl) (pe_op op_mod (pe_callTy call_int1 rfl T.b_int (by decide +kernel) (pa_cons (pe_ix (ix_listK (K := K) (by rfl)) (pv 0) pe_int (fun _ _ => rfl)) pa_nil)) (pv 1)))
        (pss_cons (ps_asg (pe_op op_fdivW (pe_ix (ix_listK (K := K) (by rfl)) (pv 0) pe_int (fun _ _ => rfl)) (pv 1)) (pg_sub (pv 0) pe_int set_list))
        (pss_one (ps_ret (pv 2))))) pss_nil)
        (pss_cons (ps_asg (pe_op op_add (pe_ix (ix_listK (K := K) (by rfl)) (pv 0) pe_int (fun _ _ => rfl)) pe_int) (pg_sub (pv 0) pe_int set_list))
        (pss_cons (ps_set (i := 3) sc_u_law_take.nd rfl (by first | exact Or.inl rfl | exact Or.inr rfl) (pe_ix (ix_listK (K := K) (by rfl)) (pe_frz (pe_lst (pa_cons pe_int (pa_cons pe_int (pa_cons pe_int (pa_cons pe_int (pa_cons pe_int pa_nil))))))) (pe_op op_mod (pe_callTy call_int1 rfl T.b_int (by decide +kernel) (pa_cons (pe_ix (ix_listK (K := K) (by rfl)) (pv 0) pe_int (fun _ _ => rfl)) pa_nil)) pe_int) (fun _ _ => rfl)))
        (pss_cons (ps_set (i := 4) sc_u_law_take.nd rfl (by first | exact Or.inl rfl | exact Or.inr rfl) (pe_op op_mod (pe_callTy call_int1 rfl T.b_int (by decide +kernel) (pa_cons (pe_op op_pow (pe_callTy call_int1 rfl T.b_int (by decide +kernel) (pa_cons (pe_op op_add (pe_op op_add (pe_ix (ix_listK (K := K) (by rfl)) (pv 0) pe_int (fun _ _ => rfl)) (pe_op op_mulX (pe_op op_mulX pe_int (pe_ix (ix_listK (K := K) (by rfl)) (pv 0) pe_int (fun _ _ => rfl))) (pe_ix (ix_listK (K := K) (by rfl)) (pv 0) pe_int (fun _ _ => rfl)))) pe_int) pa_nil)) pe_int) pa_nil)) (pv 3)))
        (pss_one (ps_ret (pe_op op_mod (pe_callTy call_int1 rfl T.b_int (by decide +kernel) (pa_cons (pe_op op_fdivW (pe_op op_mulX (pv 4) (pe_op op_add (pe_op op_mod (pe_callTy call_int1 rfl T.b_int (by decide +kernel) (pa_cons (pv 4) pa_nil)) pe_int) (pe_op op_mulX pe_int (pe_ix (ix_listK (K := K) (by rfl)) (pv 0) pe_int (fun _ _ => rfl))))) pe_int) pa_nil)) (pv 1)))))))), ?_⟩
    obtain ⟨p, m, ds, ws, rfl, hl, hp, hk, hv, him, ⟨u, rfl, u1, u2⟩, q⟩ := h
    obtain ⟨v1, rfl, h1⟩ := dpa1 hv
    cases h1
    obtain ⟨a, b, c, hp, hb, hc⟩ := hp
    have d0 := hp
    refine q_when (et_D (K := K) (ed_op (em_ix (n := 0) (dp_pot (K := K) d0 rfl) rfl) ed_i rd_gt)) (fun hb' H1 e1 => ?_) (fun hb' H1 e1 => ?_)
    · have d1 := e1 _ _ d0
      refine q_asgD (K := K) (ed_is (ed_op (ed_cb (ea_cons (em_ix (n := 0) (dp_pot (K := K) d1 rfl) rfl) ea_nil) rb_int) (ed_var rfl (.int _)) (rd_mod (by omega))) (congrArg PyData.int (Int.natCast_emod a u).symm)) fun v H2 e2 kk => ?_
      cases kk
      have h2 := e2 _ _ (e1 _ _ hp)
      refine q_setL (l := p) (j := 0) h2 (ev_ed (ed_is (ed_op (em_ix (n := 0) (dp_pot (K := K) (e2 _ _ d1) rfl) rfl) (ed_var rfl (.int _)) (rd_div (wide_div (b := 64) (by omega) (show u < _ from u2) (by decide) (by decide)))) (congrArg PyData.int (Int.natCast_ediv a u).symm))) (ev_var rfl) ev_c (by simp) fun H3 e3 => ?_
      refine s_retD (K := K) (ed_var rfl (.int _)) fun v H4 e4 kk => ?_
      obtain ⟨g, pa⟩ := pot_set (n := m + 1) (a' := a / u) (b' := b) (c' := c) (exgo ((e1.trans e2).trans e3)) (e3 _ _ h2) e4 hb (by omega)
      exact q v H4 _ g pa ⟨u, a % u, rfl, rfl, Nat.mod_lt _ (by omega)⟩ kk
    · have d1 := e1 _ _ d0
      have h2 := e1 _ _ hp
      refine q_setL (l := p) (j := 2) h2 (ev_ed (ed_is (ed_op (em_ix (n := 2) (dp_pot (K := K) d1 rfl) rfl) ed_i rd_add) (show _ = PyData.int ((c + 1 : Nat) : Int) from rfl))) (ev_var rfl) ev_c (by simp) fun H3 e3 => ?_
      have h3 : (upd H3 p (.lst ([V.int a, .int b, .int c].set 2 (.int ((c + 1 : Nat) : Int))))) p = some (.lst [.int a, .int b, .int ((c + 1 : Nat) : Int)]) := upd_same
      have g3 : Go p H (upd H3 p (.lst ([V.int a, .int b, .int c].set 2 (.int ((c + 1 : Nat) : Int))))) := (exgo (e1.trans e3)).trans go_upd
      generalize upd H3 p (.lst ([V.int a, .int b, .int c].set 2 (.int ((c + 1 : Nat) : Int)))) = H4 at h3 g3
      have d3 := h3
      obtain ⟨P5, hP, p0, p1⟩ := prime5 (c + 1)
      have c2 : c + 1 ≤ 1000001 := by omega
      refine q_asgD (K := K) (ed_op (ed_lst (ea_cons ed_i (ea_cons ed_i (ea_cons ed_i (ea_cons ed_i (ea_cons ed_i ea_nil))))) (by show 5 ≤ 100000; decide)) (ed_is (ed_op (ed_cb (ea_cons (em_ix (n := 2) (dp_pot (K := K) d3 rfl) rfl) ea_nil) rb_int) ed_i (rd_mod (by decide))) (show _ = PyData.int (((c + 1) % 5 : Nat) : Int) by congr 1)) (rd_ixL hP)) fun v H5 e5 kk => ?_
      cases kk
      have d5 := e5 _ _ d3
      have pot1 := em_ix (n := 1) (dp_pot (K := K) (σ := [some (V.ref p), some (V.int u), none, some (V.int P5), none]) (i := 0) d5 rfl) rfl
      have pot2 := em_ix (n := 2) (dp_pot (K := K) (σ := [some (V.ref p), some (V.int u), none, some (V.int P5), none]) (i := 0) d5 rfl) rfl
      refine q_asgI (K := K) (P := fun i => 0 ≤ i ∧ i < P5) ⟨_, mod_in _ p0, ed_op (ed_cb (ea_cons (ed_op (ed_cb (ea_cons (ed_op (ed_op pot1 (ed_op (ed_op ed_i pot2 (rd_mul (sq_mul1 c2 (by decide) (by decide)))) pot2 (rd_mul (sq_mul2 c2 (by decide) (by decide)))) rd_add) ed_i rd_add) ea_nil) rb_int) ed_i (rd_pow (sq_pow hb c2 (by decide) (by decide) (by decide) (by decide)))) ea_nil) rb_int) (ed_var rfl (.int _)) (rd_mod p0)⟩ fun t ht H6 e6 => ?_
      have d6 := e6 _ _ d5
      refine s_retI (K := K) (P := fun i => 0 ≤ i ∧ i < (u : Int)) ⟨_, mod_in _ (by omega), ed_op (ed_cb (ea_cons (ed_op (ed_op (ed_var rfl (.int _)) (ed_op (ed_op (ed_cb (ea_cons (ed_var rfl (.int _)) ea_nil) rb_int) ed_i (rd_mod (by decide))) (ed_op ed_i (em_ix (n := 2) (dp_pot (K := K) d6 rfl) rfl) (rd_mul (sq_mul1 c2 (by decide) (by decide)))) rd_add) (rd_mul (last_mul c2 ht.1 (by omega) (by decide) (by decide) (by decide) (by decide)))) ed_i (rd_div (wide_div (b := 20) (by decide) (by decide) (by decide) (by decide)))) ea_nil) rb_int) (ed_var rfl (.int _)) (rd_mod (by omega))⟩ fun r hr2 H7 e7 => ?_
      have e47 := (e5.trans e6).trans e7
      refine q (.int r) H7 (.int r) (g3.trans (exgo e47)) ⟨a, b, c + 1, e47 _ _ h3, hb, by omega⟩ ⟨u, r.toNat, rfl, ?_, by omega⟩ (.int r)
      rw [show ((r.toNat : Nat) : Int) = r by omega]
def N_u_law_of : List Str := ["pot", "some"]
theorem sc_u_law_of : FnScope N_u_law_of ["pot", "some"] (defScope s_u_law_of) := ⟨rfl, rfl, rfl, by decide +kernel, rfl, by decide +kernel, by decide +kernel⟩
theorem ok_u_law_of (T : Tx K mg) : Ok P w K mg base 2 "_law_of" ["pot", "some"] (spOf K) := by
  have O_u_law_take := ok_u_law_take (P := P) (w := w) (base := base) T
  refine Ok.mk (k := 1) T.f_u_law_of sc_u_law_of T.g_u_law_of (fun _ _ _ _ _ _ us hl => match us, hl with | [_, _], _ => rfl) (fun vs H Q E h => ?_) (fun cdv A outer s H vs Q E hr h => ?_)
  · exact len_spOf h
  · refine ⟨_, PSs.nox (pss_one (ps_ret (pe_ix (ix_listK (K := K) (by rfl)) (pv 1) (pcall O_u_law_take (hr.mono (by decide)) rfl (pa_cons (pv 0) (pa_cons (pe_callB (call_lenK (K := K) (by rfl)) rfl T.b_len (by decide +kernel) (pa_cons (pv 1) pa_nil)) pa_nil))) (fun _ _ => rfl)))), ?_⟩
    obtain ⟨p, q', m, xs, ds, rfl, hp, hk, hs, hd, him, l1, l2, q⟩ := h
    have h0 : Dq K H (.ref q') (.list ds) := .lst hs hd
    refine ⟨_, rfl, _, rfl, ?_⟩
    refine ed_cb (ea_cons (ed_var rfl h0) ea_nil) (rb_lenL l2) H (Ex.refl H) _ fun v H1 e1 kk => ?_
    cases kk
    refine ⟨p, m, [.int ds.length], [.int ds.length], rfl, rfl, hp.ex e1, hk, .cons (.int _) .nil, rfl, ⟨ds.length, rfl, l1, by omega⟩, fun v H2 d g hp2 hd2 hv => ?_⟩
    obtain ⟨u, x, eu, rfl, lt⟩ := hd2
    cases hv
    have eu : (ds.length : Int) = (u : Int) := by
      have := (List.cons.inj eu).1
      exact PyData.int.inj this
    have g2 := (exgo e1).trans g
    have hx : ds[x]? = some (ds[x]'(by omega)) := List.getElem?_eq_getElem _
    obtain ⟨y, hy, hdy⟩ := dpa_put (hp.dpa g2 hd him) hx
    exact ⟨_, _, _, y, rfl, rfl, (by obtain ⟨_, _, _, h1, _⟩ := hp; exact (go_l g2 h1 hs).sq), atI_nat hy, q y H2 _ g2 hp2 (List.mem_of_getElem? hx) hdy⟩
end
end K03

namespace K03
open PySem PySem.Spec PyProof.Rows L2 Evl My TL
section
variable {P : Program} {w : World} {K : PySem.W.Frag} {mg : Str → Option Value} {base : Heap}
def N_u_law_divisor : List Str := ["one", "other"]
theorem sc_u_law_divisor : FnScope N_u_law_divisor ["one", "other"] (defScope s_u_law_divisor) := ⟨rfl, rfl, rfl, by decide +kernel, rfl, by decide +kernel, by decide +kernel⟩
theorem ok_u_law_divisor (T : Tx K mg) : Ok P w K mg base 1 "_law_divisor" ["one", "other"] (spDivisor K) := by
  refine Ok.mk (k := 0) T.f_u_law_divisor sc_u_law_divisor T.g_u_law_divisor (fun _ _ _ _ _ _ us hl => match us, hl with | [_, _], _ => rfl) (fun vs H Q E h => ?_) (fun cdv A outer s H vs Q E hr h => ?_)
  · exact len_spR h
  · refine ⟨_, PSs.nox (pss_cons (ps_par (i := 0) (j := 1) rfl sc_u_law_divisor.nd rfl rfl (by decide) rfl rfl (pa_cons (pe_callB call_abs rfl T.b_abs (by decide +kernel) (pa_cons (pv 0) pa_nil)) (pa_cons (pe_callB call_abs rfl T.b_abs (by decide +kernel) (pa_cons (pv 1) pa_nil)) pa_nil)) (by rfl))
        (pss_cons (ps_while PassesOwn.never (pt_cmpR (op_neDK (K := K) (by rfl) hr.units) (pv 1) pe_int (nomark _)) (pss_one (ps_par (i := 0) (j := 1) rfl sc_u_law_divisor.nd rfl rfl (by decide) rfl rfl (pa_cons (pv 1) (pa_cons (pe_op op_mod (pe_callTy call_int1 rfl T.b_int (by decide +kernel) (pa_cons (pv 0) pa_nil)) (pe_callTy call_int1 rfl T.b_int (by decide +kernel) (pa_cons (pv 1) pa_nil))) pa_nil)) (by rfl))))
        (pss_one (ps_ret (pv 0))))), ?_⟩
    obtain ⟨ds, d, -, hv, ⟨a, b, rfl, rfl⟩, q⟩ := h
    cases hv with
    | cons h1 h2 =>
    cases h2 with
    | cons h3 h4 =>
    cases h4; cases h1; cases h3
    refine par_D (K := K) (ea_cons (ed_cb (ea_cons (ed_var rfl (.int _)) ea_nil) rb_abs) (ea_cons (ed_cb (ea_cons (ed_var rfl (.int _)) ea_nil) rb_abs) ea_nil)) fun v w' H1 e1 k1 k2 => ?_
    cases k1; cases k2
    refine s_while (fun m σ H' => ∃ x y : Nat, σ = [some (.int x), some (.int y)] ∧ m = y ∧ Nat.gcd x y = Int.gcd a b ∧ Ex H H') b.natAbs ⟨a.natAbs, b.natAbs, rfl, rfl, rfl, e1⟩ ?_
    rintro y σ' H' ⟨x, y', rfl, rfl, hg, e⟩
    refine ⟨_, et_D (K := K) (ed_op (ed_var rfl (.int _)) ed_i rd_neI), fun hb H2 e2 => ?_, fun hb H2 e2 => ?_⟩
    · have hy : (y : Int) ≠ 0 := by simpa using hb
      refine ⟨fun σ2 H2 => ∃ x' y' : Nat, σ2 = [some (.int x'), some (.int y')] ∧ y' < y ∧ Nat.gcd x' y' = Int.gcd a b ∧ Ex H H2, fun σ2 H2 ⟨x', y', e1, e2, e3, e4⟩ => ⟨y', e2, x', y', e1, rfl, e3, e4⟩, ?_⟩
      refine par_D (K := K) (ea_cons (ed_var rfl (.int _)) (ea_cons (ed_op (ed_cb (ea_cons (ed_var rfl (.int _)) ea_nil) rb_int) (ed_cb (ea_cons (ed_var rfl (.int _)) ea_nil) rb_int) (rd_mod (by omega))) ea_nil)) fun v w' H3 e3 k1 k2 => ?_
      cases k1; cases k2
      refine ⟨y, x % y, rfl, Nat.mod_lt _ (by omega), ?_, (e.trans e2).trans e3⟩
      rw [← hg, Nat.gcd_comm x y, Nat.gcd_rec y x, Nat.gcd_comm]
    · have hy : y = 0 := by simpa using hb
      subst hy
      refine s_retD (K := K) (ed_var rfl (.int _)) fun v H3 e3 k => q v H3 ((e.trans e2).trans e3) ?_
      rw [← hg, Nat.gcd_zero_right]
      exact k
def N_u_law_lowest : List Str := ["top", "low", "part"]
theorem sc_u_law_lowest : FnScope N_u_law_lowest ["top", "low"] (defScope s_u_law_lowest) := ⟨rfl, rfl, rfl, by decide +kernel, rfl, by decide +kernel, by decide +kernel⟩
theorem ok_u_law_lowest (T : Tx K mg) : Ok P w K mg base 2 "_law_lowest" ["top", "low"] (spLowest K) := by
  have O_u_law_divisor := ok_u_law_divisor (P := P) (w := w) (base := base) T
  refine Ok.mk (k := 1) T.f_u_law_lowest sc_u_law_lowest T.g_u_law_lowest (fun _ _ _ _ _ _ us hl => match us, hl with | [_, _], _ => rfl) (fun vs H Q E h => ?_) (fun cdv A outer s H vs Q E hr h => ?_)
  · exact len_spR h
  · refine ⟨_, PSs.nox (pss_cons (ps_set (i := 2) sc_u_law_lowest.nd rfl (by first | exact Or.inl rfl | exact Or.inr rfl) (pe_op op_mulX (pcall O_u_law_divisor (hr.mono (by decide)) rfl (pa_cons (pv 0) (pa_cons (pv 1) pa_nil))) (pe_ifExp (pt_cmpR op_gt (pv 1) pe_int (nomark _)) pe_int (pe_un un_neg pe_int))))
        (pss_one (ps_ret (pe_tupF (pa_cons (pe_op op_fdivW (pe_callTy call_int1 rfl T.b_int (by decide +kernel) (pa_cons (pv 0) pa_nil)) (pv 2)) (pa_cons (pe_op op_fdivW (pe_callTy call_int1 rfl T.b_int (by decide +kernel) (pa_cons (pv 1) pa_nil)) (pv 2)) pa_nil)))))), ?_⟩
    obtain ⟨ds, d, -, hv, ⟨t, l, rfl, hl, st, sl, rfl⟩, q⟩ := h
    cases hv with
    | cons h1 h2 =>
    cases h2 with
    | cons h3 h4 =>
    cases h4; cases h1; cases h3
    have l0 : decide ((0 : Int) < (l : Int)) = true := by simp; omega
    have gpos : 0 < Int.gcd t l := Int.gcd_pos_of_ne_zero_right _ (by omega)
    have gle : Int.gcd t l ≤ l := Nat.le_of_dvd (by omega) (by simpa using Int.gcd_dvd_right t (l : Int) |> Int.natAbs_dvd_natAbs.mpr)
    have gs : ((Int.gcd t l : Nat) : Int).natAbs < 2 ^ 8000 := Nat.lt_of_le_of_lt gle sl
    refine q_asgD (K := K) (d := .int (Int.gcd t l : Nat)) (ed_is (ed_op (ed_call (ea_cons (ed_var rfl (.int _)) (ea_cons (ed_var rfl (.int _)) ea_nil)) ⟨t, l, rfl, rfl⟩)
      (ed_if (et_D (K := K) (ed_op (ed_var rfl (.int _)) ed_i rd_gt)) (fun _ => ed_i) (fun hb => by rw [l0] at hb; cases hb)) (rd_mul (mulx_ok (a := 8000) (b := 2) gs (by decide) (by decide)))) (by rw [Int.mul_one])) fun v H1 e1 k => ?_
    cases k
    have hd : CDivW t ((Int.gcd t l : Nat) : Int) := wide_div (by omega) gs (by decide) (by decide)
    have hd2 : CDivW (l : Int) ((Int.gcd t l : Nat) : Int) := wide_div (by omega) gs (by decide) (by decide)
    refine s_retD (K := K) (ed_tup (ea_cons (ed_op (ed_cb (ea_cons (ed_var rfl (.int _)) ea_nil) rb_int) (ed_var rfl (.int _)) (rd_div hd)) (ea_cons (ed_op (ed_cb (ea_cons (ed_var rfl (.int _)) ea_nil) rb_int) (ed_var rfl (.int _)) (rd_div hd2)) ea_nil)) le2) fun v H2 e2 k => q v H2 (e1.trans e2) ?_
    unfold eF
    rw [norm_num t l hl, norm_den t l hl]
    exact k
def N_u_law_plus : List Str := ["one", "other"]
theorem sc_u_law_plus : FnScope N_u_law_plus ["one", "other"] (defScope s_u_law_plus) := ⟨rfl, rfl, rfl, by decide +kernel, rfl, by decide +kernel, by decide +kernel⟩
theorem ok_u_law_plus (T : Tx K mg) : Ok P w K mg base 3 "_law_plus" ["one", "other"] (spAdded K) := by
  have O_u_law_lowest := ok_u_law_lowest (P := P) (w := w) (base := base) T
  refine Ok.mk (k := 2) T.f_u_law_plus sc_u_law_plus T.g_u_law_plus (fun _ _ _ _ _ _ us hl => match us, hl with | [_, _], _ => rfl) (fun vs H Q E h => ?_) (fun cdv A outer s H vs Q E hr h => ?_)
  · exact len_spR h
  · refine ⟨_, PSs.nox (pss_one (ps_ret (pcall O_u_law_lowest (hr.mono (by decide)) rfl (pa_cons (pe_op op_add (pe_op op_mulX (pe_ix (ix_tupK (K := K) (by rfl)) (pv 0) pe_int (fun _ _ => rfl)) (pe_ix (ix_tupK (K := K) (by rfl)) (pv 1) pe_int (fun _ _ => rfl))) (pe_op op_mulX (pe_ix (ix_tupK (K := K) (by rfl)) (pv 1) pe_int (fun _ _ => rfl)) (pe_ix (ix_tupK (K := K) (by rfl)) (pv 0) pe_int (fun _ _ => rfl)))) (pa_cons (pe_op op_mulX (pe_ix (ix_tupK (K := K) (by rfl)) (pv 0) pe_int (fun _ _ => rfl)) (pe_ix (ix_tupK (K := K) (by rfl)) (pv 1) pe_int (fun _ _ => rfl))) pa_nil))))), ?_⟩
    obtain ⟨ds, d, -, hv, ⟨a, b, rfl, sa, sb, rfl⟩, q⟩ := h
    cases hv with
    | cons h1 h2 =>
    cases h2 with
    | cons h3 h4 =>
    cases h4
    have la := cross_lt sa sb
    have lb := cross_lt sb sa
    have lt := sum_lt la lb
    have ld := dens_lt sa sb
    refine s_retD (K := K) (ed_call (ea_cons (ed_op (ed_op (ed_op (ed_var rfl h1) ed_i (rd_ixT (n := 0) rfl)) (ed_op (ed_var rfl h3) ed_i (rd_ixT (n := 1) rfl)) (rd_mul (mulx_ok (a := 3900) (b := 3900) sa.1 (den_lt sb.2) (by decide))))
      (ed_op (ed_op (ed_var rfl h3) ed_i (rd_ixT (n := 0) rfl)) (ed_op (ed_var rfl h1) ed_i (rd_ixT (n := 1) rfl)) (rd_mul (mulx_ok (a := 3900) (b := 3900) sb.1 (den_lt sa.2) (by decide)))) rd_add)
      (ea_cons (ed_op (ed_op (ed_var rfl h1) ed_i (rd_ixT (n := 1) rfl)) (ed_op (ed_var rfl h3) ed_i (rd_ixT (n := 1) rfl)) (rd_mul (mulx_ok (a := 3900) (b := 3900) (den_lt sa.2) (den_lt sb.2) (by decide)))) ea_nil))
      ⟨_, a.den * b.den, rfl, dens_ne a b, Nat.lt_of_lt_of_le lt (Nat.pow_le_pow_right (by decide) (by decide)), Nat.lt_of_lt_of_le ld (Nat.pow_le_pow_right (by decide) (by decide)), rfl⟩) fun v H1 e1 k => q v H1 e1 ?_
    show Dq K H1 v (eF (a + b))
    rw [add_mk]
    exact k
def N_u_law_by : List Str := ["one", "other"]
theorem sc_u_law_by : FnScope N_u_law_by ["one", "other"] (defScope s_u_law_by) := ⟨rfl, rfl, rfl, by decide +kernel, rfl, by decide +kernel, by decide +kernel⟩
theorem ok_u_law_by (T : Tx K mg) : Ok P w K mg base 3 "_law_by" ["one", "other"] (spTimesOf K) := by
  have O_u_law_lowest := ok_u_law_lowest (P := P) (w := w) (base := base) T
  refine Ok.mk (k := 2) T.f_u_law_by sc_u_law_by T.g_u_law_by (fun _ _ _ _ _ _ us hl => match us, hl with | [_, _], _ => rfl) (fun vs H Q E h => ?_) (fun cdv A outer s H vs Q E hr h => ?_)
  · exact len_spR h
  · refine ⟨_, PSs.nox (pss_one (ps_ret (pcall O_u_law_lowest (hr.mono (by decide)) rfl (pa_cons (pe_op op_mulX (pe_ix (ix_tupK (K := K) (by rfl)) (pv 0) pe_int (fun _ _ => rfl)) (pe_ix (ix_tupK (K := K) (by rfl)) (pv 1) pe_int (fun _ _ => rfl))) (pa_cons (pe_op op_mulX (pe_ix (ix_tupK (K := K) (by rfl)) (pv 0) pe_int (fun _ _ => rfl)) (pe_ix (ix_tupK (K := K) (by rfl)) (pv 1) pe_int (fun _ _ => rfl))) pa_nil))))), ?_⟩
    obtain ⟨ds, d, -, hv, ⟨a, b, rfl, sa, sb, rfl⟩, q⟩ := h
    cases hv with
    | cons h1 h2 =>
    cases h2 with
    | cons h3 h4 =>
    cases h4
    have la := natAbs_mul_lt sa.1 sb.1
    have ld := dens_lt sa sb
    refine s_retD (K := K) (ed_call (ea_cons (ed_op (ed_op (ed_var rfl h1) ed_i (rd_ixT (n := 0) rfl)) (ed_op (ed_var rfl h3) ed_i (rd_ixT (n := 0) rfl)) (rd_mul (mulx_ok (a := 3900) (b := 3900) sa.1 sb.1 (by decide))))
      (ea_cons (ed_op (ed_op (ed_var rfl h1) ed_i (rd_ixT (n := 1) rfl)) (ed_op (ed_var rfl h3) ed_i (rd_ixT (n := 1) rfl)) (rd_mul (mulx_ok (a := 3900) (b := 3900) (den_lt sa.2) (den_lt sb.2) (by decide)))) ea_nil))
      ⟨_, a.den * b.den, rfl, dens_ne a b, Nat.lt_of_lt_of_le la (Nat.pow_le_pow_right (by decide) (by decide)), Nat.lt_of_lt_of_le ld (Nat.pow_le_pow_right (by decide) (by decide)), rfl⟩) fun v H1 e1 k => q v H1 e1 ?_
    show Dq K H1 v (eF (a * b))
    rw [mul_mk]
    exact k
def N_u_law_fraction_text : List Str := ["one"]
theorem sc_u_law_fraction_text : FnScope N_u_law_fraction_text ["one"] (defScope s_u_law_fraction_text) := ⟨rfl, rfl, rfl, by decide +kernel, rfl, by decide +kernel, by decide +kernel⟩
theorem ok_u_law_fraction_text (T : Tx K mg) : Ok P w K mg base 1 "_law_fraction_text" ["one"] (spFracText K) := by
  refine Ok.mk (k := 0) T.f_u_law_fraction_text sc_u_law_fraction_text T.g_u_law_fraction_text (fun _ _ _ _ _ _ us hl => match us, hl with | [_], _ => rfl) (fun vs H Q E h => ?_) (fun cdv A outer s H vs Q E hr h => ?_)
  · exact len_spR h
  · refine ⟨_, PSs.nox (pss_one (ps_ret (pe_ifExp (pt_cmpR (op_eqDK (K := K) (by rfl) hr.units) (pe_ix (ix_tupK (K := K) (by rfl)) (pv 0) pe_int (fun _ _ => rfl)) pe_int (nomark _)) (pe_callTy call_str_int rfl T.b_str (by decide +kernel) (pa_cons (pe_callTy call_int1 rfl T.b_int (by decide +kernel) (pa_cons (pe_ix (ix_tupK (K := K) (by rfl)) (pv 0) pe_int (fun _ _ => rfl)) pa_nil)) pa_nil)) (pe_op op_add_str (pe_op op_add_str (pe_callTy call_str_int rfl T.b_str (by decide +kernel) (pa_cons (pe_callTy call_int1 rfl T.b_int (by decide +kernel) (pa_cons (pe_ix (ix_tupK (K := K) (by rfl)) (pv 0) pe_int (fun _ _ => rfl)) pa_nil)) pa_nil)) pe_str) (pe_callTy call_str_int rfl T.b_str (by decide +kernel) (pa_cons (pe_callTy call_int1 rfl T.b_int (by decide +kernel) (pa_cons (pe_ix (ix_tupK (K := K) (by rfl)) (pv 0) pe_int (fun _ _ => rfl)) pa_nil)) pa_nil)))))), ?_⟩
    obtain ⟨ds, d, -, hv, ⟨x, rfl, sx, rfl⟩, q⟩ := h
    obtain ⟨v0, rfl, h1⟩ := dpa1 hv
    have l1 := log2_of sx.1 (by decide)
    have l2 := log2_of (i := (x.den : Int)) sx.2 (by decide)
    have n1 := len_decI (by decide) sx.1
    have n2 := len_decI (i := (x.den : Int)) (by decide) sx.2
    have n3 : (Str.ofString "/").length = 1 := rfl
    refine s_retD (K := K) (d := .str (fracText x)) (ed_if (b := decide (x.den = 1)) (et_D (K := K) (ed_is (ed_op (ed_op (ed_var rfl h1) ed_i (rd_ixT (n := 1) rfl)) ed_i rd_eqI) (congrArg PyData.bool (decide_eq_decide.mpr (by omega))))) (fun hb => ?_) (fun hb => ?_)) fun v H1 e1 k => q v H1 e1 k
    · unfold fracText
      rw [if_pos (of_decide_eq_true hb)]
      exact ed_cb (ea_cons (ed_cb (ea_cons (ed_op (ed_var rfl h1) ed_i (rd_ixT (n := 0) rfl)) ea_nil) rb_int) ea_nil) (rb_str (by omega))
    · unfold fracText
      rw [if_neg (of_decide_eq_false hb)]
      exact ed_op (ed_op (ed_cb (ea_cons (ed_cb (ea_cons (ed_op (ed_var rfl h1) ed_i (rd_ixT (n := 0) rfl)) ea_nil) rb_int) ea_nil) (rb_str (by omega))) ed_s (rd_cat (by omega))) (ed_cb (ea_cons (ed_cb (ea_cons (ed_op (ed_var rfl h1) ed_i (rd_ixT (n := 1) rfl)) ea_nil) rb_int) ea_nil) (rb_str (by omega))) (rd_cat (by rw [PySem.Str.length_append]; omega))
def N_u_law_times : List Str := ["one", "other", "found", "prime", "power"]
theorem sc_u_law_times : FnScope N_u_law_times ["one", "other"] (defScope s_u_law_times) := ⟨rfl, rfl, rfl, by decide +kernel, rfl, by decide +kernel, by decide +kernel⟩
theorem ok_u_law_times (T : Tx K mg) : Ok P w K mg base 4 "_law_times" ["one", "other"] (spLTimes K) := by
  have O_u_law_plus := ok_u_law_plus (P := P) (w := w) (base := base) T
  refine Ok.mk (k := 3) T.f_u_law_times sc_u_law_times T.g_u_law_times (fun _ _ _ _ _ _ us hl => match us, hl with | [_, _], _ => rfl) (fun vs H Q E h => ?_) (fun cdv A outer s H vs Q E hr h => ?_)
  · exact len_spR h
  · refine ⟨_, PSs.nox (pss_cons (ps_set (i := 2) sc_u_law_times.nd rfl (by first | exact Or.inl rfl | exact Or.inr rfl) (pe_callTy (call_dictT (K := K) (by rfl) (by rfl)) rfl T.b_dict (by decide +kernel) (pa_cons (pv 0) pa_nil)))
        (pss_cons (ps_for PassesOwn.never rfl (pi_tupK (K := K) (by rfl) (pv 1)) (pg_tupK (K := K) (n := 2) (by rfl) (by rfl) (pgs_cons (pg_name (i := 3) sc_u_law_times.nd (by rfl) (by first | exact Or.inl rfl | exact Or.inr rfl)) (pgs_cons (pg_name (i := 4) sc_u_law_times.nd (by rfl) (by first | exact Or.inl rfl | exact Or.inr rfl)) pgs_nil))) (pss_one (ps_dput (hu_of hr) (pv 2) (pv 3) (pcall O_u_law_plus (hr.mono (by decide)) rfl (pa_cons (pe_dget2 (hu_of hr) (pv 2) (pv 3) (pe_tupF (pa_cons pe_int (pa_cons pe_int pa_nil))) ⟨rfl, rfl, rfl, rfl⟩) (pa_cons (pv 4) pa_nil))) rfl)))
        (pss_one (ps_ret (pe_callTy (call_tupleF (K := K) (by rfl)) rfl T.b_tuple (by decide +kernel) (pa_cons (pe_frz (pe_lc (own := [("prime", 3)]) rfl sc_u_law_times.nd (pi_listK (K := K) (by rfl) (pe_frz (pe_callB (call_sortedK (by rfl)) rfl T.b_sorted (by decide +kernel) (pa_cons (pv 2) pa_nil)))) (blkOk_by (N := N_u_law_times) (sc := defScope s_u_law_times) (by decide +kernel)) (fun _ _ _ _ _ => (pg_name (i := 3) sc_u_law_times.nd (by rfl) (by first | exact Or.inl rfl | exact Or.inr rfl))) (fun _ _ _ _ _ => (pts_one (pt_cmpR (op_neDK (K := K) (by rfl) hr.units) (pe_ix (ix_tupK (K := K) (by rfl)) (pe_dget (hu_of hr) (pv 2) (pv 3) (fun _ _ => rfl)) pe_int (fun _ _ => rfl)) pe_int (nomark _)))) (fun _ _ _ _ _ => (pe_tupF (pa_cons (pv 3) (pa_cons (pe_dget (hu_of hr) (pv 2) (pv 3) (fun _ _ => rfl)) pa_nil)))))) pa_nil)))))), ?_⟩
    obtain ⟨ds, d, -, hv, ⟨a, b, rfl, ca, cb, sa, sb, rfl⟩, q⟩ := h
    obtain ⟨v0, v1, rfl, h1, h2⟩ := dpa2 hv
    have h1 : Pl K H v0 (eN a) := h1.pl
    refine q_asgN (K := K) (nd_dictT ca.asc (ep_var rfl h1)) fun p H1 es L hp e1 hd hE hL => ?_
    subst hL
    refine q_forX (K := K) (enc := ePw) (xs := b) h2 (ev_var rfl) (fun i σ H' => ∃ o1 o2 es L, σ = [some v0, some v1, some (.ref p), o1, o2] ∧ Ex H H' ∧ H' p = some (.dK es) ∧ DkE K H' es L ∧ IsD L fun r => ev a r + 1 * ev (b.take i) r)
      (fun i σ' H' p => by obtain ⟨_, _, _, _, _, e, _⟩ := p; exact e) (fun H2 e2 => ⟨_, _, es, _, rfl, e1.trans e2, e2 _ _ hd, hE.ex e2, ?_⟩) ?_ ?_
    · have := isD_dN ca
      have e : (fun r => ev a r + 1 * ev (b.take 0) r) = ev a := funext fun r => by show ev a r + 1 * 0 = _; grind
      rw [e]; exact this
    · rintro i x σ' H' hx ⟨o1, o2, es, L, rfl, e, hd, hE, hI⟩ u hu
      refine g_two (K := K) hu fun y z hy hz => ?_
      cases hy
      have mx := List.mem_of_getElem? hx
      obtain ⟨e0, hI2⟩ := isD_step cb hx 1 hI
      have sx := sb x mx
      have sy := sa.ev ca.asc (by decide) x.1
      refine s_dput (K := K) (d := eF (ev a x.1 + 1 * x.2)) (ed_call (ea_cons (ed_is (ed_dget2 (e := eF 0) (ev_var rfl) (ed_var rfl (.int _)) (ed_tup (ea_cons ed_i (ea_cons ed_i ea_nil)) le2) hd hE) (hI.getD x.1)) (ea_cons (ed_var rfl hz) ea_nil)) ⟨_, _, rfl, ?_, sx.mono (by decide), ?_⟩) (ev_var rfl) (ed_var rfl (.int _)) hd hE hI.imm rfl (by have := hI.len; omega) fun H3 es3 hd3 hE3 kx => ⟨_, _, es3, _, rfl, kx H hp e, hd3, hE3, hI2⟩
      · show Sm 3900 (ev a x.1 + 1 * ev (b.take i) x.1)
        rw [e0]
        have : ev a x.1 + 1 * 0 = ev a x.1 := by grind
        rw [this]
        exact sy.mono (by decide)
      · show _ = eF ((ev a x.1 + 1 * ev (b.take i) x.1) + x.2)
        rw [e0]
        congr 1
        grind
    · rintro σ' H' ⟨o1, o2, es, L, rfl, e, hd, hE, hI⟩
      rw [List.take_length] at hI
      have this : nmul a b = canE fun r => ev a r + 1 * ev b r := by
        unfold nmul
        congr 1
        funext r
        grind
      rw [this] at q
      refine s_retP (ep_made (ev_var rfl) hd hE hI fun n hn => turn_one (fun _ => rfl) (fun v H1 e1 hv => ?_) fun _ v H1 e1 hv => ?_) fun v H1 e1 k => q v H1 (e.trans e1) k.dp
      · cases hv
        refine et_D (K := K) (ed_is (ed_op (ed_op (ed_dget (ev_var rfl) (ed_var rfl (.int _)) (e1 _ _ hd) (hE.ex e1) (hI.get hn)) ed_i (rd_ixT (n := 0) rfl)) ed_i rd_neI) ?_)
        rw [num_z]
        simp
      · cases hv
        exact ed_tup (ea_cons (ed_var rfl (.int _)) (ea_cons (ed_dget (ev_var rfl) (ed_var rfl (.int _)) (e1 _ _ hd) (hE.ex e1) (hI.get hn)) ea_nil)) le2
def N_u_law_raised : List Str := ["one", "power", "prime", "own"]
theorem sc_u_law_raised : FnScope N_u_law_raised ["one", "power"] (defScope s_u_law_raised) := ⟨rfl, rfl, rfl, by decide +kernel, rfl, by decide +kernel, by decide +kernel⟩
theorem ok_u_law_raised (T : Tx K mg) : Ok P w K mg base 4 "_law_raised" ["one", "power"] (spPowerOf K) := by
  have O_u_law_by := ok_u_law_by (P := P) (w := w) (base := base) T
  refine Ok.mk (k := 3) T.f_u_law_raised sc_u_law_raised T.g_u_law_raised (fun _ _ _ _ _ _ us hl => match us, hl with | [_, _], _ => rfl) (fun vs H Q E h => ?_) (fun cdv A outer s H vs Q E hr h => ?_)
  · exact len_spR h
  · refine ⟨_, PSs.nox (pss_cons (ps_if (pt_cmpR (op_eqDK (K := K) (by rfl) hr.units) (pe_ix (ix_tupK (K := K) (by rfl)) (pv 1) pe_int (fun _ _ => rfl)) pe_int (nomark _)) (pss_one (ps_ret (pe_tupF pa_nil))) pss_nil)
        (pss_one (ps_ret (pe_callTy (call_tupleF (K := K) (by rfl)) rfl T.b_tuple (by decide +kernel) (pa_cons (pe_frz (pe_lc (own := [("prime", 2), ("own", 3)]) rfl sc_u_law_raised.nd (pi_tupK (K := K) (by rfl) (pv 0)) (blkOk_by (N := N_u_law_raised) (sc := defScope s_u_law_raised) (by decide +kernel)) (fun _ _ _ _ _ => (pg_tupK (K := K) (n := 2) (by rfl) (by rfl) (pgs_cons (pg_name (i := 2) sc_u_law_raised.nd (by rfl) (by first | exact Or.inl rfl | exact Or.inr rfl)) (pgs_cons (pg_name (i := 3) sc_u_law_raised.nd (by rfl) (by first | exact Or.inl rfl | exact Or.inr rfl)) pgs_nil)))) (fun _ _ _ _ _ => pts_nil) (fun _ _ _ _ _ => (pe_tupF (pa_cons (pv 2) (pa_cons (pcall O_u_law_by (hr.mono (by decide)) rfl (pa_cons (pv 3) (pa_cons (pv 1) pa_nil))) pa_nil)))))) pa_nil))))), ?_⟩
    obtain ⟨ds, d, -, hv, ⟨n, x, rfl, cn, sn, sx, rfl⟩, q⟩ := h
    obtain ⟨v0, v1, rfl, h1, h2⟩ := dpa2 hv
    have len := cn.len
    refine q_when (b := decide (x = 0)) (et_D (K := K) (ed_is (ed_op (ed_op (ed_var rfl h2) ed_i (rd_ixT (n := 0) rfl)) ed_i rd_eqI) (congrArg PyData.bool (num_z x)))) (fun hb H1 e1 => ?_) (fun hb H1 e1 => ?_)
    · rw [of_decide_eq_true hb, pow_zero] at q
      exact s_retD (K := K) (ed_tup ea_nil le0) fun v H2 e2 k => q v H2 (e1.trans e2) k
    · have nz : x ≠ 0 := of_decide_eq_false hb
      have h1 := Dq_ex h1 e1
      have h2 := Dq_ex h2 e1
      refine s_retD (K := K) (ed_cb (ea_cons (ed_is (el_tup (K := K) ePw n (fun _ => true) (fun y => ePw (y.1, y.2 * x)) (ed_var rfl h1) (by omega) (fun _ _ => rfl) (fun y hy => turn_two rfl (fun _ _ => rfl) (fun _ _ _ _ _ _ => et_yes) (fun _ a b H2 e2 ha hb => ed_tup (ea_cons (ed_var rfl ha) (ea_cons (ed_call (ea_cons (ed_var rfl hb) (ea_cons (ed_var rfl (Dq_ex h2 e2)) ea_nil)) ⟨_, _, rfl, (sn y hy).mono (by decide), sx.mono (by decide), rfl⟩) ea_nil)) le2))) ?_) ea_nil) rb_tuple) fun v H2 e2 k => q v H2 (e1.trans e2) k
      rw [outs_all, ← pow_eq cn nz, List.map_map]
      rfl
def N_u_law_prime_powers : List Str := ["whole", "sign", "found", "prime", "left"]
theorem sc_u_law_prime_powers : FnScope N_u_law_prime_powers ["whole", "sign"] (defScope s_u_law_prime_powers) := ⟨rfl, rfl, rfl, by decide +kernel, rfl, by decide +kernel, by decide +kernel⟩
theorem ok_u_law_prime_powers (T : Tx K mg) : Ok P w K mg base 1 "_law_prime_powers" ["whole", "sign"] (spLawPrimes K) := by
  refine Ok.mk (k := 0) T.f_u_law_prime_powers sc_u_law_prime_powers T.g_u_law_prime_powers (fun _ _ _ _ _ _ us hl => match us, hl with | [_, _], _ => rfl) (fun vs H Q E h => ?_) (fun cdv A outer s H vs Q E hr h => ?_)
  · exact len_spLawPrimes h
  · refine ⟨_, PSs.nox (pss_cons (ps_par3 (i := 2) (j := 3) (l := 4) rfl sc_u_law_prime_powers.nd rfl rfl rfl (by decide) (by decide) (by decide) rfl rfl rfl (pa_cons pe_dnewK (pa_cons pe_int (pa_cons (pe_callTy call_int1 rfl T.b_int (by decide +kernel) (pa_cons (pv 0) pa_nil)) pa_nil))) (by rfl))
        (pss_cons (ps_while PassesOwn.never (pt_cmpR op_le (pe_op op_mulX (pv 3) (pv 3)) (pv 4) (nomark _)) (pss_cons (ps_while PassesOwn.never (pt_cmpR (op_eqDK (K := K) (by rfl) hr.units) (pe_op op_mod (pv 4) (pv 3)) pe_int (nomark _)) (pss_cons (ps_set (i := 4) sc_u_law_prime_powers.nd rfl (by first | exact Or.inl rfl | exact Or.inr rfl) (pe_op op_fdivW (pv 4) (pv 3)))
        (pss_one (ps_dput (hu_of hr) (pv 2) (pv 3) (pe_op op_add (pe_dget2 (hu_of hr) (pv 2) (pv 3) pe_int ⟨rfl, rfl, rfl, rfl⟩) (pv 1)) rfl))))
        (pss_one (ps_set (i := 3) sc_u_law_prime_powers.nd rfl (by first | exact Or.inl rfl | exact Or.inr rfl) (pe_op op_add (pv 3) pe_int)))))
        (pss_cons (ps_if (pt_cmpR op_gt (pv 4) pe_int (nomark _)) (pss_one (ps_dput (hu_of hr) (pv 2) (pv 4) (pe_op op_add (pe_dget2 (hu_of hr) (pv 2) (pv 4) pe_int ⟨rfl, rfl, rfl, rfl⟩) (pv 1)) rfl)) pss_nil)
        (pss_one (ps_ret (pv 2)))))), ?_⟩
    obtain ⟨n, sg, rfl, n1, n9, q⟩ := h
    refine fun p hp => (ea_cons ed_i (ea_cons (ed_cb (ea_cons (ed_var rfl (.int _)) ea_nil) rb_int) ea_nil) : EA K _ _ (upd H p (.dK [])) _) _ (Ex.refl _) _ fun vs H1 e1 hvs => ?_
    obtain ⟨_, _, rfl, k1, k2⟩ := dpa2 hvs
    cases k1; cases k2
    refine ⟨_, _, _, rfl, ?_⟩
    refine q_while (fun z σ H' => ∃ (k u : Nat) (L : List (Nat × Nat)) (es : List (Key × V)), PInv n k u L ∧ z = n + 1 - k ∧ k ≤ n + 1 ∧ σ = [some (.int n), some (.int sg), some (.ref p), some (.int k), some (.int u)] ∧ H' p = some (.dK es) ∧ DkE K H' es (eL sg L) ∧ Ex H H') (n + 1 - 2)
      ⟨2, n, [], [], PInv.start n1, rfl, by omega, rfl, e1 _ _ upd_same, .nil, (Ex.new hp).trans e1⟩ ?_
    rintro z σ' H' ⟨k, u, L, es, inv, rfl, kn, rfl, hd, hE, e⟩
    have k2 := inv.k2
    have un := inv.le
    refine ⟨decide (k * k ≤ u), et_D (K := K) (ed_is (ed_op (ed_op (ed_var rfl (.int _)) (ed_var rfl (.int _)) (rd_mul (mulx_ok (a := 20) (b := 20) (show k < 2 ^ 20 by omega) (show k < 2 ^ 20 by omega) (by decide)))) (ed_var rfl (.int _)) rd_le) (by congr 1; exact decide_eq_decide.mpr (by omega))), fun hc H2 e2 => ?_, fun hc H2 e2 => ?_⟩
    · have hku : k * k ≤ u := of_decide_eq_true hc
      have hku1 : k ≤ u := Nat.le_trans (by have := Nat.mul_le_mul_left k (show 1 ≤ k by omega); omega) hku
      refine ⟨fun σ2 H2 => ∃ z', z' < n + 1 - k ∧ ∃ (k u : Nat) (L : List (Nat × Nat)) (es : List (Key × V)), PInv n k u L ∧ z' = n + 1 - k ∧ k ≤ n + 1 ∧ σ2 = [some (.int n), some (.int sg), some (.ref p), some (.int k), some (.int u)] ∧ H2 p = some (.dK es) ∧ DkE K H2 es (eL sg L) ∧ Ex H H2, fun σ2 H2 h => h, ?_⟩
      refine q_while (fun y σ H' => ∃ (m : Nat) (es : List (Key × V)), QInv n k y m L ∧ y ≤ u ∧ σ = [some (.int n), some (.int sg), some (.ref p), some (.int k), some (.int y)] ∧ H' p = some (.dK es) ∧ DkE K H' es (eL sg (Lm L k m)) ∧ Ex H H') u
        ⟨0, es, inv.q, Nat.le_refl _, rfl, e2 _ _ hd, hE.ex e2, e.trans e2⟩ ?_
      rintro y σ' H' ⟨m, es, qi, yu, rfl, hd, hE, e⟩
      have nk : ∀ x ∈ L, x.1 ≠ k := fun x hx => Nat.ne_of_lt (inv.pr x hx).2.2
      refine ⟨decide (y % k = 0), et_D (K := K) (ed_is (ed_op (ed_op (ed_var rfl (.int _)) (ed_var rfl (.int _)) (rd_mod (by omega))) ed_i rd_eqI) (by congr 1; exact decide_eq_decide.mpr (mod_z y k))), fun hc H2 e2 => ?_, fun hc H2 e2 => ?_⟩
      · have hm : y % k = 0 := of_decide_eq_true hc
        obtain ⟨s1, s2⟩ := eL_step (s := sg) (m := m) nk
        refine ⟨fun σ2 H2 => ∃ y', y' < y ∧ ∃ (m : Nat) (es : List (Key × V)), QInv n k y' m L ∧ y' ≤ u ∧ σ2 = [some (.int n), some (.int sg), some (.ref p), some (.int k), some (.int y')] ∧ H2 p = some (.dK es) ∧ DkE K H2 es (eL sg (Lm L k m)) ∧ Ex H H2, fun σ2 H2 h => h, ?_⟩
        have sh := (qi.step hm).base.short
        have l0 := inv.short
        refine q_asgD (K := K) (ed_is (ed_op (ed_var rfl (.int _)) (ed_var rfl (.int _)) (rd_div (wide_div (b := 20) (by omega) (show k < 2 ^ 20 by omega) (by decide) (by decide)))) (congrArg PyData.int (Int.natCast_ediv y k).symm)) fun v H4 e4 kk => ?_
        cases kk
        have hd2 := e4 _ _ (e2 _ _ hd)
        have hE2 := (hE.ex e2).ex e4
        refine s_dput (K := K) (d := .int (sg * (m : Int) + sg)) (ed_op (ed_is (ed_dget2 (ev_var rfl) (ed_var rfl (.int _)) ed_i hd2 hE2) s1) (ed_var rfl (.int _)) rd_add) (ev_var rfl) (ed_var rfl (.int _)) hd2 hE2 (imm_eL _ _) rfl (by rw [len_eL]; have := Lm_len L k m; omega) fun H3 es3 hd3 hE3 kx => ?_
        rw [s2] at hE3
        exact ⟨y / k, Nat.div_lt_self qi.w1 k2, m + 1, es3, qi.step hm, Nat.le_trans (Nat.div_le_self _ _) yu, rfl, hd3, hE3, kx H hp ((e.trans e2).trans e4)⟩
      · have hm : ¬ y % k = 0 := of_decide_eq_false hc
        refine s_asgD (K := K) (ed_op (ed_var rfl (.int _)) ed_i rd_add) fun v H4 e4 kk => ?_
        cases kk
        exact ⟨n + 1 - (k + 1), by omega, k + 1, y, Lm L k m, es, qi.next hm, rfl, by omega, rfl, e4 _ _ (e2 _ _ hd), (hE.ex e2).ex e4, (e.trans e2).trans e4⟩
    · have hku : ¬ k * k ≤ u := of_decide_eq_false hc
      have dn := inv.done hku
      have l0 := inv.short
      refine q_when (b := decide (1 < u)) (et_D (K := K) (ed_is (ed_op (ed_var rfl (.int _)) ed_i rd_gt) (by congr 1; exact decide_eq_decide.mpr (by omega)))) (fun hc H3 e3 => ?_) (fun hc H3 e3 => ?_)
      · have hu : 1 < u := of_decide_eq_true hc
        rw [if_pos hu] at dn
        have ku := inv.big hu
        have nk : ∀ x ∈ L, x.1 ≠ u := fun x hx => Nat.ne_of_lt (Nat.lt_of_lt_of_le (inv.pr x hx).2.2 ku)
        have hd3 := e3 _ _ (e2 _ _ hd)
        have hE3 := (hE.ex e2).ex e3
        obtain ⟨s1, s2⟩ := eL_step (s := sg) (m := 0) nk
        refine s_dput (K := K) (d := .int (sg * ((0 : Nat) : Int) + sg)) (ed_op (ed_is (ed_dget2 (ev_var rfl) (ed_var rfl (.int _)) ed_i hd3 hE3) s1) (ed_var rfl (.int _)) rd_add) (ev_var rfl) (ed_var rfl (.int _)) hd3 hE3 (imm_eL _ _) rfl (by rw [len_eL]; omega) fun H4 es4 hd4 hE4 kx => ?_
        have e5 : es4 = entI (sI sg (fac n)) := by
          rw [← fac_eq n1 dn]
          exact dk_ints (K := K) (H := H4) (show DkE K H4 es4 (eL sg (L ++ [(u, 1)])) from s2 ▸ hE4)
        refine ⟨_, rfl, q p H4 hp (kx H hp ((e.trans e2).trans e3)) ?_⟩
        rw [hd4, e5]
      · have hu : ¬ 1 < u := of_decide_eq_false hc
        rw [if_neg hu] at dn
        have e5 : es = entI (sI sg (fac n)) := by
          rw [← fac_eq n1 dn]
          exact dk_ints hE
        refine ⟨_, rfl, q p H3 hp ((e.trans e2).trans e3) ?_⟩
        rw [e3 _ _ (e2 _ _ hd), e5]
def N_u_law_whole_number : List Str := ["top", "low", "one", "prime", "power"]
theorem sc_u_law_whole_number : FnScope N_u_law_whole_number ["top", "low"] (defScope s_u_law_whole_number) := ⟨rfl, rfl, rfl, by decide +kernel, rfl, by decide +kernel, by decide +kernel⟩
theorem ok_u_law_whole_number (T : Tx K mg) : Ok P w K mg base 5 "_law_whole_number" ["top", "low"] (spWholeNum K) := by
  have O_u_law_times := ok_u_law_times (P := P) (w := w) (base := base) T
  have O_u_law_prime_powers := ok_u_law_prime_powers (P := P) (w := w) (base := base) T
  refine Ok.mk (k := 4) T.f_u_law_whole_number sc_u_law_whole_number T.g_u_law_whole_number (fun _ _ _ _ _ _ us hl => match us, hl with | [_, _], _ => rfl) (fun vs H Q E h => ?_) (fun cdv A outer s H vs Q E hr h => ?_)
  · exact len_spR h
  · refine ⟨_, PSs.nox (pss_cons (ps_set (i := 2) sc_u_law_whole_number.nd rfl (by first | exact Or.inl rfl | exact Or.inr rfl) (pe_callTy (call_tupleF (K := K) (by rfl)) rfl T.b_tuple (by decide +kernel) (pa_cons (pe_frz (pe_lc (own := [("prime", 3), ("power", 4)]) rfl sc_u_law_whole_number.nd (pi_listK (K := K) (by rfl) (pe_sortedItems (K := K) (by rfl) (by rfl) (pcall O_u_law_prime_powers (hr.mono (by decide)) rfl (pa_cons (pv 0) (pa_cons pe_int pa_nil))) rfl T.b_sorted (by decide +kernel))) (blkOk_by (N := N_u_law_whole_number) (sc := defScope s_u_law_whole_number) (by decide +kernel)) (fun _ _ _ _ _ => (pg_tupK (K := K) (n := 2) (by rfl) (by rfl) (pgs_cons (pg_name (i := 3) sc_u_law_whole_number.nd (by rfl) (by first | exact Or.inl rfl | exact Or.inr rfl)) (pgs_cons (pg_name (i := 4) sc_u_law_whole_number.nd (by rfl) (by first | exact Or.inl rfl | exact Or.inr rfl)) pgs_nil)))) (fun _ _ _ _ _ => pts_nil) (fun _ _ _ _ _ => (pe_tupF (pa_cons (pv 3) (pa_cons (pe_tupF (pa_cons (pv 4) (pa_cons pe_int pa_nil))) pa_nil)))))) pa_nil)))
        (pss_one (ps_ret (pcall O_u_law_times (hr.mono (by decide)) rfl (pa_cons (pv 2) (pa_cons (pe_callTy (call_tupleF (K := K) (by rfl)) rfl T.b_tuple (by decide +kernel) (pa_cons (pe_frz (pe_lc (own := [("prime", 3), ("power", 4)]) rfl sc_u_law_whole_number.nd (pi_listK (K := K) (by rfl) (pe_sortedItems (K := K) (by rfl) (by rfl) (pcall O_u_law_prime_powers (hr.mono (by decide)) rfl (pa_cons (pv 1) (pa_cons (pe_un un_neg pe_int) pa_nil))) rfl T.b_sorted (by decide +kernel))) (blkOk_by (N := N_u_law_whole_number) (sc := defScope s_u_law_whole_number) (by decide +kernel)) (fun _ _ _ _ _ => (pg_tupK (K := K) (n := 2) (by rfl) (by rfl) (pgs_cons (pg_name (i := 3) sc_u_law_whole_number.nd (by rfl) (by first | exact Or.inl rfl | exact Or.inr rfl)) (pgs_cons (pg_name (i := 4) sc_u_law_whole_number.nd (by rfl) (by first | exact Or.inl rfl | exact Or.inr rfl)) pgs_nil)))) (fun _ _ _ _ _ => pts_nil) (fun _ _ _ _ _ => (pe_tupF (pa_cons (pv 3) (pa_cons (pe_tupF (pa_cons (pv 4) (pa_cons pe_int pa_nil))) pa_nil)))))) pa_nil)) pa_nil)))))), ?_⟩
    obtain ⟨ds, d, -, hv, ⟨t, l, rfl, t1, t2, l1, l2, rfl⟩, q⟩ := h
    obtain ⟨v0, v1, rfl, h1, h2⟩ := dpa2 hv
    cases h1; cases h2
    have lt := len_fac t1 t2
    have ll := len_fac l1 l2
    have kt : ((sI 1 (fac t)).length ≤ 40000) := by unfold sI; rw [List.length_map]; omega
    have kl : ((sI (-1) (fac l)).length ≤ 40000) := by unfold sI; rw [List.length_map]; omega
    have s1 := (sm_nS (s := 1) rfl t1 t2).mono (m := 1900) (by decide)
    have s2 := (sm_nS (s := -1) rfl l1 l2).mono (m := 1900) (by decide)
    refine q_asgP (K := K) (ep_tuple (ed_is (el_pairs (K := K) (g := fun x => PyData.tuple [.int x.1, .tuple [.int x.2, .int 1]]) (epr_sortIt (ek_lprimes (ea_cons (ed_var rfl (.int _)) (ea_cons ed_i ea_nil)) t1 t2) (asc_sI 1 t1)) kt (fun _ _ => rfl) (fun _ _ => rfl) (fun x hx H2 e2 => ed_tup (ea_cons (ed_var rfl (.int _)) (ea_cons (ed_tup (ea_cons (ed_var rfl (.int _)) (ea_cons ed_i ea_nil)) le2) ea_nil)) le2)) (by rw [nS_data]))) fun v H1 e1 k1 => ?_
    have k1 : Pl K H1 v (eN (nS 1 (fac t))) := k1
    rw [← nS_frac] at q
    exact s_retP (ep_ltimes (ep_var rfl k1) (ep_tuple (ed_is (el_pairs (K := K) (g := fun x => PyData.tuple [.int x.1, .tuple [.int x.2, .int 1]]) (epr_sortIt (ek_lprimes (ea_cons (ed_var rfl (.int _)) (ea_cons (ed_neg ed_i) ea_nil)) l1 l2) (asc_sI (-1) l1)) kl (fun _ _ => rfl) (fun _ _ => rfl) (fun x hx H2 e2 => ed_tup (ea_cons (ed_var rfl (.int _)) (ea_cons (ed_tup (ea_cons (ed_var rfl (.int _)) (ea_cons ed_i ea_nil)) le2) ea_nil)) le2)) (by rw [nS_data]))).ed (can_nS (by decide) t1 t2) (can_nS (by decide) l1 l2) s1 s2) fun v H2 e2 k => q v H2 (e1.trans e2) k.dp
def N_u_law_powered : List Str := ["base", "many", "found", "left", "lap"]
theorem sc_u_law_powered : FnScope N_u_law_powered ["base", "many"] (defScope s_u_law_powered) := ⟨rfl, rfl, rfl, by decide +kernel, rfl, by decide +kernel, by decide +kernel⟩
theorem ok_u_law_powered (T : Tx K mg) : Ok P w K mg base 1 "_law_powered" ["base", "many"] (spPowered K) := by
  refine Ok.mk (k := 0) T.f_u_law_powered sc_u_law_powered T.g_u_law_powered (fun _ _ _ _ _ _ us hl => match us, hl with | [_, _], _ => rfl) (fun vs H Q E h => ?_) (fun cdv A outer s H vs Q E hr h => ?_)
  · exact len_spR h
  · refine ⟨_, PSs.nox (pss_cons (ps_par (i := 2) (j := 3) rfl sc_u_law_powered.nd rfl rfl (by decide) rfl rfl (pa_cons pe_int (pa_cons (pe_callTy call_int1 rfl T.b_int (by decide +kernel) (pa_cons (pv 1) pa_nil)) pa_nil)) (by rfl))
        (pss_cons (ps_for PassesOwn.never rfl (pi_range1 rfl T.b_range (pa_cons (pe_bits (pv 3)) pa_nil)) (pg_name (i := 4) sc_u_law_powered.nd (by rfl) (by first | exact Or.inl rfl | exact Or.inr rfl)) (pss_cons (ps_set (i := 2) sc_u_law_powered.nd rfl (by first | exact Or.inl rfl | exact Or.inr rfl) (pe_ifExp (pt_cmpR (op_eqDK (K := K) (by rfl) hr.units) (pe_op op_mod (pv 3) pe_int) pe_int (nomark _)) (pe_op op_mulX (pv 2) (pv 0)) (pv 2)))
        (pss_cons (ps_set (i := 3) sc_u_law_powered.nd rfl (by first | exact Or.inl rfl | exact Or.inr rfl) (pe_op op_fdivW (pv 3) pe_int))
        (pss_one (ps_set (i := 0) sc_u_law_powered.nd rfl (by first | exact Or.inl rfl | exact Or.inr rfl) (pe_ifExp (pt_cmpR op_gt (pv 3) pe_int (nomark _)) (pe_op op_mulX (pv 0) (pv 0)) (pv 0)))))))
        (pss_one (ps_ret (pv 2))))), ?_⟩
    obtain ⟨ds, d, -, hv, ⟨b, m, k, rfl, hb, hk, hm, rfl⟩, q⟩ := h
    obtain ⟨v0, v1, rfl, h1, h2⟩ := dpa2 hv
    cases h1; cases h2
    refine par_D (K := K) (ea_cons ed_i (ea_cons (ed_cb (ea_cons (ed_var rfl (.int _)) ea_nil) rb_int) ea_nil)) fun v w' H1 e1 k1 k2 => ?_
    cases k1; cases k2
    have mle : m ≤ 60000000 := Nat.le_trans (Nat.le_trans (Nat.le_succ m) (Nat.le_mul_of_pos_left _ hk)) hm
    have hbl : Builtin.Int.intBits (m : Int) ≤ 26 := intBits_le (k := 26) (by show m < _; omega)
    refine q_forR1 (n := (Builtin.Int.intBits (m : Int) : Nat)) (eva_ed1 (K := K) (ed_bits (ed_var rfl (.int _)))) ⟨by omega, by omega⟩ (fun i σ H' => ∃ (bb : Int) (o : Option V), σ = [some (.int bb), some (.int m), some (.int (b ^ (m % 2 ^ i))), some (.int (m / 2 ^ i : Nat)), o] ∧ (0 < m / 2 ^ i → bb = b ^ (2 ^ i)) ∧ Ex H H')
      (fun H2 e2 => ⟨b, _, by rw [Nat.pow_zero, Nat.mod_one, Int.pow_zero, Nat.div_one]; rfl, fun _ => by rw [Nat.pow_zero, Int.pow_one], e1.trans e2⟩) ?_ ?_
    · rintro i σ' H' hi ⟨bb, o, rfl, hbb, e⟩
      have hi' : 2 ^ i ≤ m := bits_lt (by omega)
      have n0 : 0 < m / 2 ^ i := Nat.div_pos hi' (Nat.pow_pos (by decide))
      have hbb := hbb n0
      subst hbb
      have hmod : m % 2 ^ i < 2 ^ i := Nat.mod_lt _ (Nat.pow_pos (by decide))
      have hb1 : (b ^ (2 ^ i)).natAbs < 2 ^ 60000001 := Nat.lt_of_lt_of_le (pow_lt2 hb) (Nat.pow_le_pow_right (by decide) (by have := Nat.mul_le_mul_left k hi'; have : k * (m + 1) = k * m + k := Nat.mul_succ k m; omega))
      have hb2 : (b ^ (m % 2 ^ i)).natAbs < 2 ^ 60000001 := Nat.lt_of_lt_of_le (pow_lt2 hb) (Nat.pow_le_pow_right (by decide) (by have := Nat.mul_le_mul_left k (Nat.le_trans (Nat.le_of_lt hmod) hi'); have : k * (m + 1) = k * m + k := Nat.mul_succ k m; omega))
      have ndiv2 : m / 2 ^ i / 2 = m / 2 ^ (i + 1) := by rw [Nat.div_div_eq_div_mul, Nat.pow_succ]
      refine q_asgD (K := K) (d := .int (b ^ (m % 2 ^ (i + 1)))) (ed_if (b := decide ((m / 2 ^ i) % 2 = 1)) (et_D (K := K) (ed_is (ed_op (ed_op (ed_var rfl (.int _)) ed_i (rd_mod (by decide))) ed_i rd_eqI) (congrArg PyData.bool (decide_eq_decide.mpr (by omega))))) (fun hc => ?_) (fun hc => ?_)) fun v H2 e2 kk => ?_
      · refine ed_is (ed_op (ed_var rfl (.int _)) (ed_var rfl (.int _)) (rd_mul (mulx_ok hb2 hb1 (by decide)))) ?_
        rw [mod_up_odd rfl (of_decide_eq_true hc), Int.pow_add]
      · refine ed_is (ed_var rfl (.int _)) ?_
        rw [mod_up_even rfl (by have := of_decide_eq_false hc; omega)]
      cases kk
      refine q_asgD (K := K) (ed_is (ed_op (ed_var rfl (.int _)) ed_i (rd_div (wide_div (b := 2) (by decide) (by decide) (by decide) (by decide)))) (show PyData.int (((m / 2 ^ i : Nat) : Int) / 2) = .int ((m / 2 ^ (i + 1) : Nat) : Int) by rw [← ndiv2]; congr 1)) fun v H3 e3 kk => ?_
      cases kk
      refine s_asgI (K := K) (P := fun bb => 0 < m / 2 ^ (i + 1) → bb = b ^ (2 ^ (i + 1))) ?_ fun bb hbb H4 e4 => ⟨bb, _, rfl, hbb, ((e.trans e2).trans e3).trans e4⟩
      by_cases z : 0 < m / 2 ^ (i + 1)
      · refine ⟨_, fun _ => ?_, ed_if (b := true) (et_D (K := K) (ed_is (ed_op (ed_var rfl (.int _)) ed_i rd_gt) (congrArg PyData.bool (decide_eq_true (by omega))))) (fun _ => ed_op (ed_var rfl (.int _)) (ed_var rfl (.int _)) (rd_mul (mulx_ok hb1 hb1 (by decide)))) fun hb => by cases hb⟩
        rw [← Int.pow_add, ← Nat.mul_two, Nat.pow_succ]
      · exact ⟨_, fun h => absurd h z, ed_if (b := false) (et_D (K := K) (ed_is (ed_op (ed_var rfl (.int _)) ed_i rd_gt) (congrArg PyData.bool (decide_eq_false (by omega))))) (fun hb => by cases hb) fun _ => ed_var rfl (.int _)⟩
    · rintro σ' H' ⟨bb, o, rfl, hbb, e⟩
      refine s_retD (K := K) (ed_var rfl (.int _)) fun v H2 e2 kk => q v H2 (e.trans e2) ?_
      have : m < 2 ^ (((Builtin.Int.intBits (m : Int) : Nat) : Int).toNat) := by
        rw [Int.toNat_natCast]
        exact lt_bl m
      rw [Nat.mod_eq_of_lt this] at kk
      exact kk
end
end K03

namespace K03
open PySem PySem.Spec PyProof.Rows L2 Evl My TL
section
variable {P : Program} {w : World} {K : PySem.W.Frag} {mg : Str → Option Value} {base : Heap}
def N_u_law_great : List Str := ["pot"]
theorem sc_u_law_great : FnScope N_u_law_great ["pot"] (defScope s_u_law_great) := ⟨rfl, rfl, rfl, by decide +kernel, rfl, by decide +kernel, by decide +kernel⟩
theorem ok_u_law_great (T : Tx K mg) : Ok P w K mg base 3 "_law_great" ["pot"] (spGreat K) := by
  have O_u_law_take := ok_u_law_take (P := P) (w := w) (base := base) T
  have O_u_law_of := ok_u_law_of (P := P) (w := w) (base := base) T
  refine Ok.mk (k := 2) T.f_u_law_great sc_u_law_great T.g_u_law_great (fun _ _ _ _ _ _ us hl => match us, hl with | [_], _ => rfl) (fun vs H Q E h => ?_) (fun cdv A outer s H vs Q E hr h => ?_)
  · exact len_spP h
  · refine ⟨_, PSs.nox (pss_one (ps_ret (pcall O_u_law_of (hr.mono (by decide)) rfl (pa_cons (pv 0) (pa_cons (pe_frz (pe_lst (pa_cons pe_int (pa_cons pe_int (pa_cons pe_int (pa_cons pe_int (pa_cons pe_int (pa_cons pe_int (pa_cons pe_int (pa_cons pe_int (pa_cons pe_int (pa_cons pe_int (pa_cons pe_int (pa_cons pe_int (pa_cons pe_int (pa_cons (pe_op op_add pe_int (pcall O_u_law_take (hr.mono (by decide)) rfl (pa_cons (pv 0) (pa_cons pe_int pa_nil)))) (pa_cons pe_int (pa_cons pe_int pa_nil)))))))))))))))))) pa_nil))))), ?_⟩
    obtain ⟨p, m, ds, ws, rfl, hl, hp, hk, hv, him, -, q⟩ := h
    have dn : ds = [] := List.eq_nil_of_length_eq_zero hl
    subst dn
    cases hv
    refine s_retG hp (eg_mono (eg_of rfl (ega_consP (eg_ci ⟨_, by decide, by decide, rfl⟩) (ega_consP (eg_ci ⟨_, by decide, by decide, rfl⟩) (ega_consP (eg_ci ⟨_, by decide, by decide, rfl⟩) (ega_consP (eg_ci ⟨_, by decide, by decide, rfl⟩) (ega_consP (eg_ci ⟨_, by decide, by decide, rfl⟩) (ega_consP (eg_ci ⟨_, by decide, by decide, rfl⟩) (ega_consP (eg_ci ⟨_, by decide, by decide, rfl⟩) (ega_consP (eg_ci ⟨_, by decide, by decide, rfl⟩) (ega_consP (eg_ci ⟨_, by decide, by decide, rfl⟩) (ega_consP (eg_ci ⟨_, by decide, by decide, rfl⟩) (ega_consP (eg_ci ⟨_, by decide, by decide, rfl⟩) (ega_consP (eg_ci ⟨_, by decide, by decide, rfl⟩) (ega_consP (eg_ci ⟨_, by decide, by decide, rfl⟩) (ega_consP (eg_op (R1 := fun d => d = .int 1) (R2' := fun d => ∃ x : Nat, x < 9999 ∧ d = .int x) eg_i (eg_take rfl (fun _ _ => ed_i) (by decide) (by decide) (by omega)) (fun d h => by rw [h]; rfl) (fun x y hx hy => by obtain ⟨j, hj, rfl⟩ := hy; subst hx; exact ⟨_, rd_add, _, by omega, by omega, rfl⟩)) (ega_consP (eg_ci ⟨_, by decide, by decide, rfl⟩) (ega_consP (eg_ci ⟨_, by decide, by decide, rfl⟩) ega_nilP gr_imm) gr_imm) gr_imm) gr_imm) gr_imm) gr_imm) gr_imm) gr_imm) gr_imm) gr_imm) gr_imm) gr_imm) gr_imm) gr_imm) gr_imm) gr_imm) (by omega) fun ds hd => ⟨fun d h => gr_imm d (hd.2 d h), by rw [hd.1]; decide, by rw [hd.1]; decide⟩) fun d hd => ?_) fun v H' d g hp' hd hv => q v H' d g hp' hd hv
    obtain ⟨ds, hd, hm⟩ := hd
    exact hd.2 d hm
def N_u_law_power_of : List Str := ["pot", "top"]
theorem sc_u_law_power_of : FnScope N_u_law_power_of ["pot"] (defScope s_u_law_power_of) := ⟨rfl, rfl, rfl, by decide +kernel, rfl, by decide +kernel, by decide +kernel⟩
theorem ok_u_law_power_of (T : Tx K mg) : Ok P w K mg base 3 "_law_power_of" ["pot"] (spPowerDrawn K) := by
  have O_u_law_of := ok_u_law_of (P := P) (w := w) (base := base) T
  have O_u_law_lowest := ok_u_law_lowest (P := P) (w := w) (base := base) T
  refine Ok.mk (k := 2) T.f_u_law_power_of sc_u_law_power_of T.g_u_law_power_of (fun _ _ _ _ _ _ us hl => match us, hl with | [_], _ => rfl) (fun vs H Q E h => ?_) (fun cdv A outer s H vs Q E hr h => ?_)
  · exact len_spP h
  · refine ⟨_, PSs.nox (pss_cons (ps_set (i := 1) sc_u_law_power_of.nd rfl (by first | exact Or.inl rfl | exact Or.inr rfl) (pe_op op_mulX (pcall O_u_law_of (hr.mono (by decide)) rfl (pa_cons (pv 0) (pa_cons (pe_frz (pe_lst (pa_cons pe_int (pa_cons pe_int (pa_cons pe_int (pa_cons pe_int (pa_cons pe_int (pa_cons pe_int pa_nil)))))))) pa_nil))) (pcall O_u_law_of (hr.mono (by decide)) rfl (pa_cons (pv 0) (pa_cons (pe_frz (pe_lst (pa_cons pe_int (pa_cons pe_int (pa_cons (pe_un un_neg pe_int) pa_nil))))) pa_nil)))))
        (pss_one (ps_ret (pcall O_u_law_lowest (hr.mono (by decide)) rfl (pa_cons (pv 1) (pa_cons (pcall O_u_law_of (hr.mono (by decide)) rfl (pa_cons (pv 0) (pa_cons (pe_frz (pe_lst (pa_cons pe_int (pa_cons pe_int (pa_cons pe_int (pa_cons pe_int (pa_cons pe_int (pa_cons pe_int pa_nil)))))))) pa_nil))) pa_nil)))))), ?_⟩
    obtain ⟨p, m, ds, ws, rfl, hl, hp, hk, hv, him, -, q⟩ := h
    have dn : ds = [] := List.eq_nil_of_length_eq_zero hl
    subst dn
    cases hv
    refine q_asgG hp (eg_op (S := fun d => ∃ i : Int, (i.natAbs ≤ 12 ∧ i ≠ 0) ∧ d = .int i) (eg_mono (S := fun d => ∃ i : Int, (1 ≤ i ∧ i ≤ 12) ∧ d = .int i) (eg_of (R2 := AllP 6 fun d => ∃ i : Int, (1 ≤ i ∧ i ≤ 12) ∧ d = .int i) rfl (ega_consP (eg_ci ⟨_, ⟨by decide, by decide⟩, rfl⟩) (ega_consP (eg_ci ⟨_, ⟨by decide, by decide⟩, rfl⟩) (ega_consP (eg_ci ⟨_, ⟨by decide, by decide⟩, rfl⟩) (ega_consP (eg_ci ⟨_, ⟨by decide, by decide⟩, rfl⟩) (ega_consP (eg_ci ⟨_, ⟨by decide, by decide⟩, rfl⟩) (ega_consP (eg_ci ⟨_, ⟨by decide, by decide⟩, rfl⟩) ega_nilP (fun d h => int_imm h)) (fun d h => int_imm h)) (fun d h => int_imm h)) (fun d h => int_imm h)) (fun d h => int_imm h)) (fun d h => int_imm h)) (by omega) fun ds hd => ⟨fun d h => int_imm (hd.2 d h), by rw [hd.1]; decide, by rw [hd.1]; decide⟩) fun d ⟨ds, hd, hm⟩ => hd.2 d hm) (eg_mono (S := fun d => ∃ i : Int, (i = 1 ∨ i = -1) ∧ d = .int i) (eg_of (R2 := AllP 3 fun d => ∃ i : Int, (i = 1 ∨ i = -1) ∧ d = .int i) rfl (ega_consP (eg_ci ⟨_, Or.inl rfl, rfl⟩) (ega_consP (eg_ci ⟨_, Or.inl rfl, rfl⟩) (ega_consP (eg_mono (eg_ed (d := .int (-1)) fun _ _ => ed_neg ed_i) fun d h => ⟨_, Or.inr rfl, h⟩) ega_nilP (fun d h => int_imm h)) (fun d h => int_imm h)) (fun d h => int_imm h)) (by omega) fun ds hd => ⟨fun d h => int_imm (hd.2 d h), by rw [hd.1]; decide, by rw [hd.1]; decide⟩) fun d ⟨ds, hd, hm⟩ => hd.2 d hm) (fun d h => int_imm h) (fun x y hx hy => ?_)) fun v H1 d g1 hp1 hd hv => ?_
    · obtain ⟨i, hi, rfl⟩ := hx
      obtain ⟨j, hj, rfl⟩ := hy
      refine ⟨_, rd_mul (mulx_ok (a := 8) (b := 8) (by omega) (by omega) (by decide)), _, ?_, rfl⟩
      rcases hj with rfl | rfl
      · omega
      · omega
    · obtain ⟨t, ht, rfl⟩ := hd
      cases hv
      refine s_retG hp1 (eg_call (S := PowQ) (ega_cons (eg_var (d := .int t) hp1 rfl (.int t) rfl) (ega_cons (eg_mono (S := fun d => ∃ i : Int, (∃ l c : Nat, i = (l : Int) ∧ l * c = 12 ∧ l ≤ 12) ∧ d = .int i) (eg_of (R2 := AllP 6 fun d => ∃ i : Int, (∃ l c : Nat, i = (l : Int) ∧ l * c = 12 ∧ l ≤ 12) ∧ d = .int i) rfl (ega_consP (eg_ci ⟨_, ⟨1, 12, rfl, rfl, by decide⟩, rfl⟩) (ega_consP (eg_ci ⟨_, ⟨1, 12, rfl, rfl, by decide⟩, rfl⟩) (ega_consP (eg_ci ⟨_, ⟨2, 6, rfl, rfl, by decide⟩, rfl⟩) (ega_consP (eg_ci ⟨_, ⟨3, 4, rfl, rfl, by decide⟩, rfl⟩) (ega_consP (eg_ci ⟨_, ⟨4, 3, rfl, rfl, by decide⟩, rfl⟩) (ega_consP (eg_ci ⟨_, ⟨6, 2, rfl, rfl, by decide⟩, rfl⟩) ega_nilP (fun d h => int_imm h)) (fun d h => int_imm h)) (fun d h => int_imm h)) (fun d h => int_imm h)) (fun d h => int_imm h)) (fun d h => int_imm h)) (by omega) fun ds hd => ⟨fun d h => int_imm (hd.2 d h), by rw [hd.1]; decide, by rw [hd.1]; decide⟩) fun d ⟨ds, hd, hm⟩ => hd.2 d hm) ega_nil (fun d h => int_imm h)) (fun d h => by rw [h]; rfl)) fun ds hd => ?_) fun v H2 d g2 hp2 hd hv => q v H2 d (g1.trans g2) hp2 hd hv
      obtain ⟨_, _, rfl, rfl, _, _, rfl, ⟨i, ⟨l, c, rfl, hlc, hle⟩, rfl⟩, rfl⟩ := hd
      have hc : c ≤ 12 := by
        by_cases z : c ≤ 12
        · exact z
        · have : l ≠ 0 := by rintro rfl; omega
          have : 1 * c ≤ l * c := Nat.mul_le_mul_right _ (by omega)
          omega
      have h8 : (12 : Nat) < 2 ^ 8000 := Nat.lt_trans (show 12 < 2 ^ 4 by decide) (Nat.pow_lt_pow_right (by decide) (by decide))
      exact ⟨rfl, _, ⟨t, l, rfl, by rintro rfl; omega, Nat.lt_of_le_of_lt ht.1 h8, Nat.lt_of_le_of_lt hle h8, rfl⟩, _, ⟨tw_mk hlc (Nat.mul_le_mul ht.1 hc), mk_ne ht.2 (by rintro rfl; omega), mk_num_le ht.1 (by rintro rfl; omega)⟩, rfl⟩
def N_u_law_factor : List Str := ["pot", "way", "top", "low", "power"]
theorem sc_u_law_factor : FnScope N_u_law_factor ["pot"] (defScope s_u_law_factor) := ⟨rfl, rfl, rfl, by decide +kernel, rfl, by decide +kernel, by decide +kernel⟩
theorem ok_u_law_factor (T : Tx K mg) : Ok P w K mg base 6 "_law_factor" ["pot"] (spFactorT K) := by
  have O_u_law_take := ok_u_law_take (P := P) (w := w) (base := base) T
  have O_u_law_fraction_text := ok_u_law_fraction_text (P := P) (w := w) (base := base) T
  have O_u_law_raised := ok_u_law_raised (P := P) (w := w) (base := base) T
  have O_u_law_whole_number := ok_u_law_whole_number (P := P) (w := w) (base := base) T
  have O_u_law_great := ok_u_law_great (P := P) (w := w) (base := base) T
  have O_u_law_power_of := ok_u_law_power_of (P := P) (w := w) (base := base) T
  refine Ok.mk (k := 5) T.f_u_law_factor sc_u_law_factor T.g_u_law_factor (fun _ _ _ _ _ _ us hl => match us, hl with | [_], _ => rfl) (fun vs H Q E h => ?_) (fun cdv A outer s H vs Q E hr h => ?_)
  · exact len_spP h
  · refine ⟨_, PSs.nox (pss_cons (ps_par3 (i := 1) (j := 2) (l := 3) rfl sc_u_law_factor.nd rfl rfl rfl (by decide) (by decide) (by decide) rfl rfl rfl (pa_cons (pcall O_u_law_take (hr.mono (by decide)) rfl (pa_cons (pv 0) (pa_cons pe_int pa_nil))) (pa_cons (pcall O_u_law_great (hr.mono (by decide)) rfl (pa_cons (pv 0) pa_nil)) (pa_cons (pcall O_u_law_great (hr.mono (by decide)) rfl (pa_cons (pv 0) pa_nil)) pa_nil))) (by rfl))
        (pss_cons (ps_if (pt_cmpR (op_eqDK (K := K) (by rfl) hr.units) (pv 1) pe_int (nomark _)) (pss_one (ps_ret (pe_tupF (pa_cons (pe_callTy call_str_int rfl T.b_str (by decide +kernel) (pa_cons (pv 2) pa_nil)) (pa_cons (pcall O_u_law_whole_number (hr.mono (by decide)) rfl (pa_cons (pv 2) (pa_cons pe_int pa_nil))) pa_nil))))) pss_nil)
        (pss_cons (ps_if (pt_cmpR (op_eqDK (K := K) (by rfl) hr.units) (pv 1) pe_int (nomark _)) (pss_one (ps_ret (pe_tupF (pa_cons (pe_op op_add_str (pe_op op_add_str (pe_callTy call_str_int rfl T.b_str (by decide +kernel) (pa_cons (pv 2) pa_nil)) pe_str) (pe_callTy call_str_int rfl T.b_str (by decide +kernel) (pa_cons (pv 3) pa_nil))) (pa_cons (pcall O_u_law_whole_number (hr.mono (by decide)) rfl (pa_cons (pv 2) (pa_cons (pv 3) pa_nil))) pa_nil))))) pss_nil)
        (pss_cons (ps_set (i := 4) sc_u_law_factor.nd rfl (by first | exact Or.inl rfl | exact Or.inr rfl) (pcall O_u_law_power_of (hr.mono (by decide)) rfl (pa_cons (pv 0) pa_nil)))
        (pss_one (ps_ret (pe_tupF (pa_cons (pe_op op_add_str (pe_op op_add_str (pe_callTy call_str_int rfl T.b_str (by decide +kernel) (pa_cons (pv 2) pa_nil)) pe_str) (pcall O_u_law_fraction_text (hr.mono (by decide)) rfl (pa_cons (pv 4) pa_nil))) (pa_cons (pcall O_u_law_raised (hr.mono (by decide)) rfl (pa_cons (pcall O_u_law_whole_number (hr.mono (by decide)) rfl (pa_cons (pv 2) (pa_cons pe_int pa_nil))) (pa_cons (pv 4) pa_nil))) pa_nil))))))))), ?_⟩
    obtain ⟨p, m, ds, ws, rfl, hl, hp, hk, hv, him, -, q⟩ := h
    have dn : ds = [] := List.eq_nil_of_length_eq_zero hl
    subst dn
    cases hv
    refine q_par3G hp (ega_cons (eg_take rfl (fun _ _ => ed_i) (by decide) (by decide) (by omega)) (ega_cons (eg_pcall0 (Post := fun _ d => Gr d) rfl (by omega) trivial) (ega_cons (eg_pcall0 (Post := fun _ d => Gr d) rfl (by omega) trivial) ega_nil gr_imm) gr_imm) (fun d h => by obtain ⟨x, _, rfl⟩ := h; rfl)) (fun ds hd => by obtain ⟨_, _, rfl, _, _, _, rfl, _, _, _, rfl, _, rfl⟩ := hd; rfl) fun ds vw vt vl H1 g1 hp1 hd hv => ?_
    obtain ⟨_, _, rfl, ⟨way, hw, rfl⟩, _, _, rfl, ⟨ti, t1, t2, rfl⟩, _, _, rfl, ⟨li, l1, l2, rfl⟩, rfl⟩ := hd
    obtain ⟨_, _, _, ev, k1, k2, k3⟩ := dpa3 hv
    cases ev
    cases k1; cases k2; cases k3
    obtain ⟨t, rfl⟩ : ∃ t : Nat, ti = t := ⟨ti.toNat, by omega⟩
    obtain ⟨l, rfl⟩ : ∃ l : Nat, li = l := ⟨li.toNat, by omega⟩
    have lt := len_decI (i := (t : Int)) (k := 14) (by decide) (by show t < _; omega)
    have ll := len_decI (i := (l : Int)) (k := 14) (by decide) (by show l < _; omega)
    have gt := log2_of (i := (t : Int)) (k := 14) (by show t < _; omega) (by decide)
    have gl := log2_of (i := (l : Int)) (k := 14) (by show l < _; omega) (by decide)
    have n3 : (Str.ofString "/").length = 1 := rfl
    have n4 : (Str.ofString "^").length = 1 := rfl
    refine q_when (b := decide ((way : Int) = 0)) (et_D (K := K) (ed_op (ed_var rfl (.int _)) ed_i rd_eqI)) (fun hb H2 e2 => ?_) (fun hb H2 e2 => ?_)
    · exact s_retD (K := K) (ed_tup (ea_cons (ed_cb (ea_cons (ed_var rfl (.int _)) ea_nil) (rb_str (by omega))) (ea_cons (ed_call (ea_cons (ed_var rfl (.int _)) (ea_cons ed_i ea_nil)) ⟨t, 1, rfl, by omega, by omega, by decide, by decide, rfl⟩) ea_nil)) le2) fun v H3 e3 k => q v H3 _ (g1.trans (exgo (e2.trans e3))) ((hp1.mono (by omega)).ex (e2.trans e3)) ⟨_, _, ftx_plain (by omega) (by omega), rfl⟩ k
    · refine q_when (b := decide ((way : Int) = 1)) (et_D (K := K) (ed_op (ed_var rfl (.int _)) ed_i rd_eqI)) (fun hb H3 e3 => ?_) (fun hb H3 e3 => ?_)
      · exact s_retD (K := K) (ed_tup (ea_cons (ed_op (ed_op (ed_cb (ea_cons (ed_var rfl (.int _)) ea_nil) (rb_str (by omega))) ed_s (rd_cat (by omega))) (ed_cb (ea_cons (ed_var rfl (.int _)) ea_nil) (rb_str (by omega))) (rd_cat (by rw [PySem.Str.length_append]; omega))) (ea_cons (ed_call (ea_cons (ed_var rfl (.int _)) (ea_cons (ed_var rfl (.int _)) ea_nil)) ⟨t, l, rfl, by omega, by omega, by omega, by omega, rfl⟩) ea_nil)) le2) fun v H4 e4 k => q v H4 _ (g1.trans (exgo ((e2.trans e3).trans e4))) ((hp1.mono (by omega)).ex ((e2.trans e3).trans e4)) ⟨_, _, ftx_over (by omega) (by omega) (by omega) (by omega), rfl⟩ k
      · have hp3 := hp1.ex (e2.trans e3)
        refine q_asgG hp3 (eg_pcall0 (Post := fun _ d => PowQ d) rfl (by omega) trivial) fun v H4 d g4 hp4 hd hv => ?_
        obtain ⟨x, hx, rfl⟩ := hd
        have sx := tw_sm (k := 8) hx.1 (by decide) (by decide)
        have lx := len_fracText (by decide) sx
        refine s_retD (K := K) (ed_tup (ea_cons (ed_op (ed_op (ed_cb (ea_cons (ed_var rfl (.int _)) ea_nil) (rb_str (by omega))) ed_s (rd_cat (by omega))) (ed_call (ea_cons (ed_var rfl hv) ea_nil) ⟨x, rfl, sx.mono (by decide), rfl⟩) (rd_cat (by rw [PySem.Str.length_append]; omega))) (ea_cons (ed_call (ea_cons (ed_call (ea_cons (ed_var rfl (.int _)) (ea_cons ed_i ea_nil)) ⟨t, 1, rfl, by omega, by omega, by decide, by decide, rfl⟩) (ea_cons (ed_var rfl hv) ea_nil)) ⟨_, x, rfl, (nfrac_ok (by omega) (by omega) (by decide) (by decide)).can, (nfrac_sm (by omega) (by omega) (by decide) (by decide)).mono (by decide), sx.mono (by decide), rfl⟩) ea_nil)) le2) fun v H5 e5 k =>
          q v H5 _ (g1.trans ((exgo (e2.trans e3)).trans (g4.trans (exgo e5)))) ((hp4.mono (by omega)).ex e5) ⟨_, _, ftx_pow (by omega) (by omega) hx.1 hx.2.1, rfl⟩ k
def N_u_law_text_and_number : List Str := ["pot", "most", "some", "found", "text", "number", "lap"]
theorem sc_u_law_text_and_number : FnScope N_u_law_text_and_number ["pot", "most"] (defScope s_u_law_text_and_number) := ⟨rfl, rfl, rfl, by decide +kernel, rfl, by decide +kernel, by decide +kernel⟩
theorem ok_u_law_text_and_number (T : Tx K mg) : Ok P w K mg base 7 "_law_text_and_number" ["pot", "most"] (spTextT K 2) := by
  have O_u_law_take := ok_u_law_take (P := P) (w := w) (base := base) T
  have O_u_law_times := ok_u_law_times (P := P) (w := w) (base := base) T
  have O_u_law_factor := ok_u_law_factor (P := P) (w := w) (base := base) T
  refine Ok.mk (k := 6) T.f_u_law_text_and_number sc_u_law_text_and_number T.g_u_law_text_and_number (fun _ _ _ _ _ _ us hl => match us, hl with | [_, _], _ => rfl) (fun vs H Q E h => ?_) (fun cdv A outer s H vs Q E hr h => ?_)
  · exact len_spP h
  · refine ⟨_, PSs.nox (pss_cons (ps_frz rfl (ps_setLc (i := 2) (own := [("lap", 6)]) rfl sc_u_law_text_and_number.nd rfl rfl (sw_true rfl rfl rfl (by decide +kernel)) (pi_range1 rfl T.b_range (pa_cons (pe_op op_add pe_int (pcall O_u_law_take (hr.mono (by decide)) rfl (pa_cons (pv 0) (pa_cons (pv 1) pa_nil)))) pa_nil)) (blkOk_by (N := N_u_law_text_and_number) (sc := defScope s_u_law_text_and_number) (by decide +kernel)) (fun _ _ _ _ _ => (pg_name (i := 6) sc_u_law_text_and_number.nd (by rfl) (by first | exact Or.inl rfl | exact Or.inr rfl))) (fun _ _ _ _ _ => pts_nil) (fun _ _ _ _ _ => (pcall O_u_law_factor (hr.mono (by decide)) rfl (pa_cons (pv 0) pa_nil)))))
        (pss_cons (ps_set (i := 3) sc_u_law_text_and_number.nd rfl (by first | exact Or.inl rfl | exact Or.inr rfl) (pe_tupF pa_nil))
        (pss_cons (ps_for PassesOwn.never rfl (pi_listK (K := K) (by rfl) (pv 2)) (pg_tupK (K := K) (n := 2) (by rfl) (by rfl) (pgs_cons (pg_name (i := 4) sc_u_law_text_and_number.nd (by rfl) (by first | exact Or.inl rfl | exact Or.inr rfl)) (pgs_cons (pg_name (i := 5) sc_u_law_text_and_number.nd (by rfl) (by first | exact Or.inl rfl | exact Or.inr rfl)) pgs_nil))) (pss_one (ps_set (i := 3) sc_u_law_text_and_number.nd rfl (by first | exact Or.inl rfl | exact Or.inr rfl) (pcall O_u_law_times (hr.mono (by decide)) rfl (pa_cons (pv 3) (pa_cons (pv 5) pa_nil))))))
        (pss_one (ps_ret (pe_tupF (pa_cons (pe_joinK (K := K) (by rfl) pe_str (pe_frz (pe_lc (own := [("text", 4), ("number", 5)]) rfl sc_u_law_text_and_number.nd (pi_listK (K := K) (by rfl) (pv 2)) (blkOk_by (N := N_u_law_text_and_number) (sc := defScope s_u_law_text_and_number) (by decide +kernel)) (fun _ _ _ _ _ => (pg_tupK (K := K) (n := 2) (by rfl) (by rfl) (pgs_cons (pg_name (i := 4) sc_u_law_text_and_number.nd (by rfl) (by first | exact Or.inl rfl | exact Or.inr rfl)) (pgs_cons (pg_name (i := 5) sc_u_law_text_and_number.nd (by rfl) (by first | exact Or.inl rfl | exact Or.inr rfl)) pgs_nil)))) (fun _ _ _ _ _ => pts_nil) (fun _ _ _ _ _ => (pv 4))))) (pa_cons (pv 3) pa_nil)))))))), ?_⟩
    obtain ⟨p, m, ds, ws, rfl, hl, hp, hk, hv, him, rfl, q⟩ := h
    obtain ⟨v1, rfl, h1⟩ := dpa1 hv
    cases h1
    refine q_asgG hp (eg_lcR (N := 2) (kk := 8) (Px := fun x => 1 ≤ x) (R := FctT) (eg_op (R1 := fun d => d = .int 1) (R2' := fun d => ∃ x : Nat, x < 2 ∧ d = .int x) eg_i (eg_take (u := 2) rfl (fun _ _ => ed_var rfl (.int _)) (by decide) (by decide) (by omega)) (fun d h => by rw [h]; rfl) (fun x y hx hy => by
      obtain ⟨j, hj, rfl⟩ := hy
      subst hx
      exact ⟨_, rd_add, 1 + j, ⟨by omega, by omega⟩, by rw [Int.natCast_add]; rfl⟩)) (by decide) (fun _ => rfl) (by omega) fctT_imm (fun a m' hm => eg_pcall0 (Post := fun _ d => FctT d) rfl hm trivial)) fun v H1 d g1 hp1 hd hv => ?_
    obtain ⟨ds, rfl, ⟨l2, l1⟩, hF⟩ := hd
    obtain ⟨L, rfl, hL⟩ := fctT_list hF
    rw [List.length_map] at l1 l2
    refine q_asgP (K := K) (ep_tup ea_nil le0) fun vf H2 e2 kf => ?_
    refine q_forXL (K := K) (enc := eTx) (xs := L) (Dq_ex hv e2) (ev_var rfl) (fun i σ H' => ∃ (v' : V) (o1 o2 o3 : Option V), σ = [some (.ref p), some (.int 2), some v, some v', o1, o2, o3] ∧ Pl K H' v' (eN (((L.take i).map (·.2)).foldl nmul [])) ∧ Ex H2 H') (fun i σ' H' P => by obtain ⟨_, _, _, _, _, _, e⟩ := P; exact e) (fun H3 e3 => ⟨vf, _, _, _, rfl, kf.ex e3, e3⟩) ?_ ?_
    · rintro i x σ' H' hx ⟨v', o1, o2, o3, rfl, hpl, e⟩ u hu
      refine g_two (K := K) hu fun a b ha hb => ?_
      have hx2 := (hL x (List.mem_of_getElem? hx)).tw
      have hn := ft_tw (L.take i) tw_nil fun y hy => hL y (List.mem_of_mem_take hy)
      have il : (L.take i).length ≤ 2 := by rw [List.length_take]; omega
      refine s_asgP (K := K) (ep_ltimes (ep_var rfl hpl) (ed_var rfl hb) hn.ok.can hx2.ok.can ((sm_of_tw hn (by omega)).mono (by decide)) ((sm_of_tw hx2 (by decide)).mono (by decide))) fun v3 H3 e3 k3 => ⟨v3, _, _, _, rfl, ?_, e.trans e3⟩
      rw [List.take_succ, hx, List.map_append, List.foldl_append]
      exact k3
    · rintro σ' H' ⟨v', o1, o2, o3, rfl, hpl, e⟩
      rw [List.take_length] at hpl
      have ft : Fts 2 L := ⟨fun z => by rw [z] at l1; exact absurd l1 (by decide), l2, hL⟩
      have hLt : ∀ y ∈ L.map (·.1), y.length ≤ 60 := fun y hy => by
        obtain ⟨x, hx, rfl⟩ := List.mem_map.mp hy
        exact (hL x hx).len
      refine s_retD (K := K) (ed_tup (ea_cons (ed_join (ys := L.map fun x : Str × Num => x.1) (ed_is (el_list (K := K) eTx L (fun _ => true) (fun x => .str x.1) (ed_var rfl (Dq_ex (Dq_ex hv e2) e)) (by omega) (fun _ _ => rfl) (fun x hx => turn_two rfl (fun _ _ => rfl) (fun _ _ _ _ _ _ => et_yes) (fun _ a b H1 e1 ha hb => ed_var rfl ha))) (by rw [outs_all, List.map_map]; rfl)) ?_) (ea_cons (ep_var rfl hpl).ed ea_nil)) le2) fun v H5 e5 k => q v H5 _ (g1.trans (exgo ((e2.trans e).trans e5))) ((hp1.mono (by omega)).ex ((e2.trans e).trans e5)) ⟨L, ft, rfl⟩ k
      have a1 := sum_len hLt
      rw [List.length_map] at a1 ⊢
      have e1 : (Str.ofString "*").length = 1 := rfl
      rw [e1]
      omega
end
end K03

namespace K03
open PySem PySem.Spec PyProof.Rows L2 Evl My TL
section
variable {P : Program} {w : World} {K : PySem.W.Frag} {mg : Str → Option Value} {base : Heap}
def N_u_law_whole_power : List Str := ["number", "low", "prime", "power", "top", "bottom", "whole"]
theorem sc_u_law_whole_power : FnScope N_u_law_whole_power ["number"] (defScope s_u_law_whole_power) := ⟨rfl, rfl, rfl, by decide +kernel, rfl, by decide +kernel, by decide +kernel⟩
theorem ok_u_law_whole_power (T : Tx K mg) : Ok P w K mg base 2 "_law_whole_power" ["number"] (spWPow K) := by
  have O_u_law_divisor := ok_u_law_divisor (P := P) (w := w) (base := base) T
  have O_u_law_powered := ok_u_law_powered (P := P) (w := w) (base := base) T
  refine Ok.mk (k := 1) T.f_u_law_whole_power sc_u_law_whole_power T.g_u_law_whole_power (fun _ _ _ _ _ _ us hl => match us, hl with | [_], _ => rfl) (fun vs H Q E h => ?_) (fun cdv A outer s H vs Q E hr h => ?_)
  · exact len_spR h
  · refine ⟨_, PSs.nox (pss_cons (ps_set (i := 1) sc_u_law_whole_power.nd rfl (by first | exact Or.inl rfl | exact Or.inr rfl) pe_int)
        (pss_cons (ps_for PassesOwn.never rfl (pi_tupK (K := K) (by rfl) (pv 0)) (pg_tupK (K := K) (n := 2) (by rfl) (by rfl) (pgs_cons (pg_name (i := 2) sc_u_law_whole_power.nd (by rfl) (by first | exact Or.inl rfl | exact Or.inr rfl)) (pgs_cons (pg_name (i := 3) sc_u_law_whole_power.nd (by rfl) (by first | exact Or.inl rfl | exact Or.inr rfl)) pgs_nil))) (pss_one (ps_set (i := 1) sc_u_law_whole_power.nd rfl (by first | exact Or.inl rfl | exact Or.inr rfl) (pe_op op_fdivW (pe_op op_mulX (pv 1) (pe_ix (ix_tupK (K := K) (by rfl)) (pv 3) pe_int (fun _ _ => rfl))) (pcall O_u_law_divisor (hr.mono (by decide)) rfl (pa_cons (pv 1) (pa_cons (pe_ix (ix_tupK (K := K) (by rfl)) (pv 3) pe_int (fun _ _ => rfl)) pa_nil)))))))
        (pss_cons (ps_asg (pe_tupF (pa_cons pe_int (pa_cons pe_int pa_nil))) (pg_tupK (K := K) (n := 2) (by rfl) (by rfl) (pgs_cons (pg_name (i := 4) sc_u_law_whole_power.nd (by rfl) (by first | exact Or.inl rfl | exact Or.inr rfl)) (pgs_cons (pg_name (i := 5) sc_u_law_whole_power.nd (by rfl) (by first | exact Or.inl rfl | exact Or.inr rfl)) pgs_nil))))
        (pss_cons (ps_for PassesOwn.never rfl (pi_tupK (K := K) (by rfl) (pv 0)) (pg_tupK (K := K) (n := 2) (by rfl) (by rfl) (pgs_cons (pg_name (i := 2) sc_u_law_whole_power.nd (by rfl) (by first | exact Or.inl rfl | exact Or.inr rfl)) (pgs_cons (pg_name (i := 3) sc_u_law_whole_power.nd (by rfl) (by first | exact Or.inl rfl | exact Or.inr rfl)) pgs_nil))) (pss_cons (ps_set (i := 6) sc_u_law_whole_power.nd rfl (by first | exact Or.inl rfl | exact Or.inr rfl) (pe_op op_mulX (pe_ix (ix_tupK (K := K) (by rfl)) (pv 3) pe_int (fun _ _ => rfl)) (pe_op op_fdivW (pv 1) (pe_ix (ix_tupK (K := K) (by rfl)) (pv 3) pe_int (fun _ _ => rfl)))))
        (pss_one (ps_par (i := 4) (j := 5) rfl sc_u_law_whole_power.nd rfl rfl (by decide) rfl rfl (pa_cons (pe_op op_mulX (pv 4) (pcall O_u_law_powered (hr.mono (by decide)) rfl (pa_cons (pv 2) (pa_cons (pe_callB (call_max2 (by rfl)) rfl T.b_max (by decide +kernel) (pa_cons (pv 6) (pa_cons pe_int pa_nil))) pa_nil)))) (pa_cons (pe_op op_mulX (pv 5) (pcall O_u_law_powered (hr.mono (by decide)) rfl (pa_cons (pv 2) (pa_cons (pe_callB (call_max2 (by rfl)) rfl T.b_max (by decide +kernel) (pa_cons (pe_un un_neg (pv 6)) (pa_cons pe_int pa_nil))) pa_nil)))) pa_nil)) (by rfl)))))
        (pss_one (ps_ret (pe_tupF (pa_cons (pv 1) (pa_cons (pv 4) (pa_cons (pv 5) pa_nil)))))))))), ?_⟩
    obtain ⟨ds, d, -, hv, ⟨n, rfl, ok, sn, hl, hb, rfl⟩, q⟩ := h
    obtain ⟨v0, rfl, hq⟩ := dpa1 hv
    have len := ok.can.len
    refine q_asgD (K := K) ed_i fun v H2 e2 kk => ?_
    cases kk
    refine q_forX (K := K) (enc := ePw) (xs := n) (Dq_ex hq e2) (ev_var rfl) (fun i σ H' => ∃ o1 o2 o3 o4 o5 : Option V, σ = [some v0, some (.int (lcmN (n.take i))), o1, o2, o3, o4, o5] ∧ Ex H2 H') (fun i σ' H' p => by obtain ⟨_, _, _, _, _, _, e⟩ := p; exact e) (fun H3 e3 => ⟨_, _, _, _, _, rfl, e3⟩) ?_ ?_
    · rintro i x σ' H' hx ⟨o1, o2, o3, o4, o5, rfl, e⟩ u hu
      refine g_two (K := K) hu fun a b ha hb => ?_
      cases ha
      have lt := lcm_take n i
      have l4 : (lcmN (n.take i) : Nat) < 2 ^ 4000 := Nat.lt_of_le_of_lt lt.1 hl
      have s4 := (sn x (List.mem_of_getElem? hx)).2
      have g0 : 0 < Int.gcd (lcmN (n.take i) : Int) (x.2.den : Int) := Nat.gcd_pos_of_pos_left _ lt.2
      refine s_asgD (K := K) (ed_is (ed_op (ed_op (ed_var rfl (.int _)) (ed_op (ed_var rfl hb) ed_i (rd_ixT (n := 1) rfl)) (rd_mul (mulx_ok (a := 4000) (b := 4000) l4 s4 (by decide)))) (ed_call (ea_cons (ed_var rfl (.int _)) (ea_cons (ed_op (ed_var rfl hb) ed_i (rd_ixT (n := 1) rfl)) ea_nil)) ⟨_, _, rfl, rfl⟩)
        (rd_div (wide_div (b := 4000) (by omega) (Nat.lt_of_le_of_lt (Nat.gcd_le_left _ lt.2) l4) (by decide) (by decide)))) (congrArg PyData.int (lcm_int _ _))) fun v H2 e2 kk => ?_
      cases kk
      rw [← lcm_step hx]
      exact ⟨_, _, _, _, _, rfl, e.trans e2⟩
    rintro σ' H' ⟨o1, o2, o3, o4, o5, rfl, e⟩
    rw [List.take_length]
    have hq' := Dq_ex hq (e2.trans e)
    obtain ⟨t1, t2⟩ := told_up (wholesL n)
    obtain ⟨b1, b2⟩ := above_max (wholesL n)
    have b1 := Nat.le_trans b1 (Nat.le_trans hb (show 65536 ≤ 4000000 by decide))
    have b2 := Nat.le_trans b2 (Nat.le_trans hb (show 65536 ≤ 4000000 by decide))
    rw [← t1, ← t2] at q
    have len2 : (wholesL n).length = n.length := List.length_map _
    generalize hU : (wholesL n).map (fun x => (x.1, (max x.2 0).toNat)) = U at q b1
    generalize hD : (wholesL n).map (fun x => (x.1, (max (-x.2) 0).toNat)) = D' at q b2
    have lU : U.length = n.length := by rw [← hU, List.length_map, len2]
    have lD : D'.length = n.length := by rw [← hD, List.length_map, len2]
    refine q_asg2D (K := K) (ed_tup (ea_cons ed_i (ea_cons ed_i ea_nil)) le2) fun a b H3 e3 ka kb => ?_
    cases ka; cases kb
    refine q_forX (K := K) (enc := ePw) (xs := n) (Dq_ex hq' e3) (ev_var rfl) (fun i σ H' => ∃ o1 o2 o3 : Option V, σ = [some v0, some (.int (lcmN n)), o1, o2, some (.int (prodL (U.take i))), some (.int (prodL (D'.take i))), o3] ∧ Ex H3 H') (fun i σ' H' p => by obtain ⟨_, _, _, _, e⟩ := p; exact e) (fun H4 e4 => ⟨_, _, _, rfl, e4⟩) ?_ ?_
    · rintro i x σ' H' hx ⟨o1, o2, o3, rfl, e⟩ u hu
      refine g_two (K := K) hu fun a b ha hb => ?_
      cases ha
      have mx := List.mem_of_getElem? hx
      have hp2 := ok.pr x mx
      have xb : 2 ≤ x.1 ∧ x.1 ≤ 9999 := ⟨hp2.1.1, hp2.2.1⟩
      have hxW : (wholesL n)[i]? = some (x.1, x.2.num * ((lcmN n : Int) / (x.2.den : Int))) := by
        unfold wholesL
        rw [List.getElem?_map, hx]
        rfl
      refine q_asgD (K := K) (d := .int (x.2.num * ((lcmN n : Int) / (x.2.den : Int)))) (ed_op (ed_op (ed_var rfl hb) ed_i (rd_ixT (n := 0) rfl)) (ed_op (ed_var rfl (.int _)) (ed_op (ed_var rfl hb) ed_i (rd_ixT (n := 1) rfl)) (rd_div (wide_div (b := 4000) ?_ (sn x mx).2 (by decide) (by decide)))) (rd_mul (mulx_ok (a := 4000) (b := 4000) (sn x mx).1 ?_ (by decide)))) fun v H4 e4 kk => ?_
      · have := den_pos x.2; omega
      · exact Nat.lt_of_le_of_lt (Int.natAbs_ediv_le_natAbs _ _) hl
      cases kk
      generalize x.2.num * ((lcmN n : Int) / (x.2.den : Int)) = y at hxW
      have hxU : U[i]? = some (x.1, (max y 0).toNat) := by
        rw [← hU, List.getElem?_map, hxW]
        rfl
      have hxD : D'[i]? = some (x.1, (max (-y) 0).toNat) := by
        rw [← hD, List.getElem?_map, hxW]
        rfl
      obtain ⟨u1, u2, u3⟩ := step_mul b1 hxU xb
      obtain ⟨d1, d2, d3⟩ := step_mul b2 hxD xb
      refine par_D (K := K) (ea_cons (ed_op (ed_var rfl (.int _)) (ed_call (ea_cons (ed_var rfl (.int _)) (ea_cons (ed_is (ed_cb (ea_cons (ed_var rfl (.int _)) (ea_cons ed_i ea_nil)) rb_max) (show PyData.int (max y 0) = .int (((max y 0).toNat : Nat) : Int) by congr 1; omega)) ea_nil)) ⟨x.1, (max y 0).toNat, 14, rfl, ?_, by decide, ?_, rfl⟩) (rd_mul u2))
        (ea_cons (ed_op (ed_var rfl (.int _)) (ed_call (ea_cons (ed_var rfl (.int _)) (ea_cons (ed_is (ed_cb (ea_cons (ed_neg (ed_var rfl (.int _))) (ea_cons ed_i ea_nil)) rb_max) (show PyData.int (max (-y) 0) = .int (((max (-y) 0).toNat : Nat) : Int) by congr 1; omega)) ea_nil)) ⟨x.1, (max (-y) 0).toNat, 14, rfl, ?_, by decide, ?_, rfl⟩) (rd_mul d2)) ea_nil)) fun va vb H5 e5 k1 k2 => ?_
      · have := xb.2; show x.1 < _; omega
      · have u1 : (max y 0).toNat ≤ 4000000 := u1; omega
      · have := xb.2; show x.1 < _; omega
      · have d1 : (max (-y) 0).toNat ≤ 4000000 := d1; omega
      · cases k1; cases k2
        rw [u3, d3]
        exact ⟨_, _, _, rfl, (e.trans e4).trans e5⟩
    · rintro σ' H' ⟨o1, o2, o3, rfl, e'⟩
      rw [List.take_of_length_le (by omega), List.take_of_length_le (by omega)]
      exact s_retD (K := K) (ed_tup (ea_cons (ed_var rfl (.int _)) (ea_cons (ed_var rfl (.int _)) (ea_cons (ed_var rfl (.int _)) ea_nil))) (by show 3 ≤ 100000; decide)) fun v HA eA k => q v HA ((((e2.trans e).trans e3).trans e').trans eA) k
def N_u_law_is_between : List Str := ["number", "figures", "told", "scale", "part", "low", "top", "bottom", "due", "one"]
theorem sc_u_law_is_between : FnScope N_u_law_is_between ["number", "figures", "told"] (defScope s_u_law_is_between) := ⟨rfl, rfl, rfl, by decide +kernel, rfl, by decide +kernel, by decide +kernel⟩
theorem ok_u_law_is_between (T : Tx K mg) : OkG P w K mg base 3 "_law_is_between" ["number", "figures", "told"] (spIsBtw K) := by
  have O_u_law_lowest := ok_u_law_lowest (P := P) (w := w) (base := base) T
  have O_u_law_powered := ok_u_law_powered (P := P) (w := w) (base := base) T
  have O_u_law_whole_power := ok_u_law_whole_power (P := P) (w := w) (base := base) T
  refine OkG.mk (k := 2) T.f_u_law_is_between sc_u_law_is_between T.g_u_law_is_between (fun _ _ _ _ _ _ us hl => match us, hl with | [_, _, _], _ => rfl) (fun vs H Q E h => ?_) (fun cdv A outer s H vs Q E hg hr h => ?_)
  · exact len_spR h
  · refine ⟨_, PSs.nox (pss_cons (ps_if (PW.pt (pw_or (pt_not (pt_val (pe_callB (call_isiK1 (K := K) (by rfl)) rfl T.b_isinstance (by decide +kernel) (pa_cons (pv 2) (pa_cons (pe_bltn (v := .ty "tuple") rfl T.b_tuple (by decide +kernel) rfl) pa_nil))))) (pw_or (pt_cmpR (op_neDK (K := K) (by rfl) hr.units) (pe_callB (call_lenK (K := K) (by rfl)) rfl T.b_len (by decide +kernel) (pa_cons (pv 2) pa_nil)) pe_int (nomark _)) (pw_or1 (pt_not (pt_val (pe_callB (cr_allK (K := K) (by rfl) (by rfl)) rfl T.b_all (by decide +kernel) (pa_cons (pe_frz (pe_lc (own := [("one", 9)]) rfl sc_u_law_is_between.nd (pi_tupK (K := K) (by rfl) (pv 2)) (blkOk_by (N := N_u_law_is_between) (sc := defScope s_u_law_is_between) (by decide +kernel)) (fun _ _ _ _ _ => (pg_name (i := 9) sc_u_law_is_between.nd (by rfl) (by first | exact Or.inl rfl | exact Or.inr rfl))) (fun _ _ _ _ _ => pts_nil) (fun _ _ _ _ _ => (pe_and (pe_callB (call_isiK1 (K := K) (by rfl)) rfl T.b_isinstance (by decide +kernel) (pa_cons (pv 9) (pa_cons (pe_bltn (v := .ty "tuple") rfl T.b_tuple (by decide +kernel) rfl) pa_nil))) (pe_one (pe_cmpR (op_eqDK (K := K) (by rfl) hr.units) (pe_callB (call_lenK (K := K) (by rfl)) rfl T.b_len (by decide +kernel) (pa_cons (pv 9) pa_nil)) pe_int (nomark _))))))) pa_nil)))))))) (pss_one (ps_ret pe_bl)) pss_nil)
        (pss_cons (ps_set (i := 3) sc_u_law_is_between.nd rfl (by first | exact Or.inl rfl | exact Or.inr rfl) (pcall O_u_law_powered (hr.mono (by decide)) rfl (pa_cons pe_int (pa_cons (pv 1) pa_nil))))
        (pss_cons (ps_set (i := 4) sc_u_law_is_between.nd rfl (by first | exact Or.inl rfl | exact Or.inr rfl) (pe_op op_fdivW (pe_op op_mulX (pe_callTy call_int1 rfl T.b_int (by decide +kernel) (pa_cons (pe_ix (ix_tupK (K := K) (by rfl)) (pe_ix (ix_tupK (K := K) (by rfl)) (pv 2) pe_int (fun _ _ => rfl)) pe_int (fun _ _ => rfl)) pa_nil)) (pv 3)) (pe_callB (call_max2 (by rfl)) rfl T.b_max (by decide +kernel) (pa_cons pe_int (pa_cons (pe_callTy call_int1 rfl T.b_int (by decide +kernel) (pa_cons (pe_ix (ix_tupK (K := K) (by rfl)) (pe_ix (ix_tupK (K := K) (by rfl)) (pv 2) pe_int (fun _ _ => rfl)) pe_int (fun _ _ => rfl)) pa_nil)) pa_nil)))))
        (pss_cons (ps_if (pt_cmpR op_ne (pe_callB (call_reprDK (K := K) (by rfl) (guards_deeper hg) hr.units) rfl T.b_repr (by decide +kernel) (pa_cons (pv 2) pa_nil)) (pe_callB (call_reprDK (K := K) (by rfl) (guards_deeper hg) hr.units) rfl T.b_repr (by decide +kernel) (pa_cons (pe_tupF (pa_cons (pcall O_u_law_lowest (hr.mono (by decide)) rfl (pa_cons (pv 4) (pa_cons (pv 3) pa_nil))) (pa_cons (pcall O_u_law_lowest (hr.mono (by decide)) rfl (pa_cons (pe_op op_add (pv 4) pe_int) (pa_cons (pv 3) pa_nil))) pa_nil))) pa_nil)) (nomark _)) (pss_one (ps_ret pe_bl)) pss_nil)
        (pss_cons (ps_asg (pcall O_u_law_whole_power (hr.mono (by decide)) rfl (pa_cons (pv 0) pa_nil)) (pg_tupK (K := K) (n := 3) (by rfl) (by rfl) (pgs_cons (pg_name (i := 5) sc_u_law_is_between.nd (by rfl) (by first | exact Or.inl rfl | exact Or.inr rfl)) (pgs_cons (pg_name (i := 6) sc_u_law_is_between.nd (by rfl) (by first | exact Or.inl rfl | exact Or.inr rfl)) (pgs_cons (pg_name (i := 7) sc_u_law_is_between.nd (by rfl) (by first | exact Or.inl rfl | exact Or.inr rfl)) pgs_nil)))))
        (pss_cons (ps_set (i := 8) sc_u_law_is_between.nd rfl (by first | exact Or.inl rfl | exact Or.inr rfl) (pe_op op_mulX (pv 6) (pcall O_u_law_powered (hr.mono (by decide)) rfl (pa_cons (pv 3) (pa_cons (pv 5) pa_nil)))))
        (pss_one (ps_ret (pe_and (pe_cmpR op_le (pe_op op_mulX (pcall O_u_law_powered (hr.mono (by decide)) rfl (pa_cons (pv 4) (pa_cons (pv 5) pa_nil))) (pv 7)) (pv 8) (nomark _)) (pe_one (pe_cmpR op_lt (pv 8) (pe_op op_mulX (pcall O_u_law_powered (hr.mono (by decide)) rfl (pa_cons (pe_op op_add (pv 4) pe_int) (pa_cons (pv 5) pa_nil))) (pv 7)) (nomark _)))))))))))), ?_⟩
    obtain ⟨ds, d, -, hv, ⟨n, f, rfl, bt, rfl⟩, q⟩ := h
    obtain ⟨v0, v1, v2, rfl, h1, h2, h3⟩ := dpa3 hv
    cases h2
    obtain ⟨ok, sn, l12, ab, f12⟩ := bt
    have lp := lcm_pos n
    have r14 := partB_lt l12 ab f12
    have T0 : 0 < 10 ^ f := Nat.pow_pos (by decide)
    have T40 : 10 ^ f < 2 ^ 40 := Nat.lt_of_le_of_lt (Nat.pow_le_pow_right (by decide) f12) (by decide +kernel)
    obtain ⟨r1, r2⟩ := iroot_ok (prodL (upsOf (wholesL n)) * (10 ^ f) ^ lcmN n / prodL (downsOf (wholesL n))) lp
    have ab2 := above_ups (wholesL n)
    have cm : ∀ x ∈ wholesL n, 2 ≤ x.1 ∧ x.1 ≤ 9999 := fun x hx => by
      obtain ⟨y, hy, rfl⟩ := List.mem_map.mp hx
      have := ok.pr y hy
      exact ⟨this.1.1, this.2.1⟩
    obtain ⟨m1, m2⟩ := ups_mem cm
    have dU : prodL (upsOf (wholesL n)) < 2 ^ 7489 := Nat.lt_of_le_of_lt (Nat.le_trans prod_le (Nat.pow_le_pow_right (by decide) (show above (upsOf (wholesL n)) ≤ 7488 by omega))) (Nat.pow_lt_pow_right (by decide) (by decide))
    have dD : prodL (downsOf (wholesL n)) < 2 ^ 7489 := Nat.lt_of_le_of_lt (Nat.le_trans prod_le (Nat.pow_le_pow_right (by decide) (show above (downsOf (wholesL n)) ≤ 7488 by omega))) (Nat.pow_lt_pow_right (by decide) (by decide))
    have pD : 0 < prodL (downsOf (wholesL n)) := prod_pos fun x hx => by have := (m2 x hx).1; omega
    have wp : rWPow [eN n] (.tuple [.int (lcmN n), .int (prodL (upsOf (wholesL n))), .int (prodL (downsOf (wholesL n)))]) := ⟨n, rfl, ok, sn.mono (by decide), Nat.lt_of_le_of_lt l12 (Nat.lt_trans (show 12 < 2 ^ 4 by decide) (Nat.pow_lt_pow_right (by decide) (by decide))), by omega, rfl⟩
    have ep : iroot (lcmN n) (prodL (upsOf (wholesL n)) * (10 ^ f) ^ lcmN n / prodL (downsOf (wholesL n))) = partB n f := rfl
    rw [ep] at r1 r2
    generalize partB n f = r at r1 r2 r14 h3
    generalize prodL (upsOf (wholesL n)) = U at r1 r2 dU wp
    generalize prodL (downsOf (wholesL n)) = D' at r1 r2 dD pD wp
    generalize lcmN n = k at r1 r2 l12 lp wp
    generalize hT : 10 ^ f = T at T0 T40 h3 r1 r2
    have g1 : r ^ k * D' ≤ U * T ^ k := Nat.le_trans (Nat.mul_le_mul_right _ r1) (Nat.div_mul_le_self _ _)
    have g2 : U * T ^ k < (r + 1) ^ k * D' := (Nat.div_lt_iff_lt_mul pD).mp r2
    have r8 : r < 2 ^ 8000 := Nat.lt_trans r14 (Nat.pow_lt_pow_right (by decide) (by decide))
    have r9 : r + 1 < 2 ^ 8000 := Nat.lt_of_le_of_lt (show r + 1 ≤ 2 ^ 1400 from r14) (Nat.pow_lt_pow_right (by decide) (by decide))
    have r15 : r + 1 < 2 ^ 1401 := Nat.lt_of_le_of_lt (show r + 1 ≤ 2 ^ 1400 from r14) (Nat.pow_lt_pow_right (by decide) (by decide))
    have t8 : T < 2 ^ 8000 := Nat.lt_trans T40 (Nat.pow_lt_pow_right (by decide) (by decide))
    have t14 : T < 2 ^ 1401 := Nat.lt_trans T40 (Nat.pow_lt_pow_right (by decide) (by decide))
    have s1 : Sm 1401 (mkRat (r : Nat) T) := mk_sm (show r < 2 ^ 1401 by omega) t14 (by omega)
    have s2 : Sm 1401 (mkRat (r + 1 : Nat) T) := mk_sm r15 t14 (by omega)
    refine q_when (b := false) (et_is (et_or (a := false) (et_is (et_not (et_DB (K := K) (ed_isi (ed_var rfl h3) (kB _ "tuple")))) rfl) fun _ => et_or (a := false) (et_D (K := K) (ed_is (ed_op (ed_cb (ea_cons (ed_var rfl h3) ea_nil) (rb_len (show 2 ≤ 100000 by decide))) ed_i rd_neI) rfl)) fun _ => et_not (et_DB (K := K) (ed_is (ed_cb (ea_cons (ed_is (el_tup (K := K) eF [mkRat (r : Nat) T, mkRat (r + 1 : Nat) T] (fun _ => true) (fun _ => .bool true) (ed_var rfl h3) (show 2 ≤ 40000 by decide) (fun _ _ => rfl) (fun x hx => turn_one (fun _ => rfl) (fun _ _ _ _ => et_yes) (fun _ v H1 e1 hv => ed_is (ed_and (a := true) (ed_isi (ed_var rfl hv) (kB _ "tuple")) fun _ => ed_op (ed_cb (ea_cons (ed_var rfl hv) ea_nil) (rb_len (show 2 ≤ 100000 by decide))) ed_i rd_eqI) rfl)))
      (show _ = PyData.list ([true, true].map PyData.bool) from rfl)) ea_nil) rb_all) (show _ = PyData.bool true from rfl)))) rfl) (fun hb => by cases hb) fun _ H1 e1 => ?_
    have h1 := Dq_ex h1 e1
    have h3 := Dq_ex h3 e1
    refine q_asgD (K := K) (d := .int (T : Nat)) (ed_is (ed_call (ea_cons ed_i (ea_cons (ed_var rfl (.int _)) ea_nil)) ⟨10, f, 4, rfl, by decide, by decide, by omega, rfl⟩) (congrArg PyData.int (show (10 : Int) ^ f = ((T : Nat) : Int) by rw [← hT, Int.natCast_pow]; rfl))) fun v H2 e2 kk => ?_
    cases kk
    have h1 := Dq_ex h1 e2
    have h3 := Dq_ex h3 e2
    obtain ⟨x1, x2, x3⟩ := mk_back r T0
    refine q_asgD (K := K) (d := .int (r : Nat)) (ed_is (ed_op (ed_op (ed_cb (ea_cons (ed_op (ed_op (ed_var rfl h3) ed_i (rd_ixT (n := 0) rfl)) ed_i (rd_ixT (n := 0) rfl)) ea_nil) rb_int) (ed_var rfl (.int _)) (rd_mul (mulx_ok (a := 1401) (b := 40) s1.1 T40 (by decide)))) (ed_is (ed_cb (ea_cons ed_i (ea_cons (ed_cb (ea_cons (ed_op (ed_op (ed_var rfl h3) ed_i (rd_ixT (n := 0) rfl)) ed_i (rd_ixT (n := 1) rfl)) ea_nil) rb_int) ea_nil)) rb_max) (congrArg PyData.int x2)) (rd_div (wide_div (b := 1401) x1 s1.2 (by decide) (by decide)))) (congrArg PyData.int x3)) fun v H3 e3 kk => ?_
    cases kk
    have h1 := Dq_ex h1 e3
    have h3 := Dq_ex h3 e3
    refine q_when (b := false) (et_D (K := K) (ed_reprNe (d := .tuple [eF (mkRat (r : Nat) T), eF (mkRat (r + 1 : Nat) T)]) (ed_var rfl h3) (ed_tup (ea_cons (ed_call (ea_cons (ed_var rfl (.int _)) (ea_cons (ed_var rfl (.int _)) ea_nil)) ⟨r, T, rfl, by omega, r8, t8, rfl⟩) (ea_cons (ed_call (ea_cons (ed_is (ed_op (ed_var rfl (.int _)) ed_i rd_add) (show PyData.int ((r : Int) + 1) = .int ((r + 1 : Nat) : Int) from rfl)) (ea_cons (ed_var rfl (.int _)) ea_nil)) ⟨(r + 1 : Nat), T, rfl, by omega, r9, t8, rfl⟩) ea_nil)) le2) ?_)) (fun hb => by cases hb) fun _ H4 e4 => ?_
    · refine (shw_tup (m := 1) (b := (1401 + 1 + 2) * 2 + 3) (k := 2) (fun d hd => ?_) (Nat.le_refl _)).mono (by decide) (by decide)
      rcases List.mem_cons.mp hd with rfl | hd
      · exact shw_eF (by decide) s1 (by decide)
      · rw [List.mem_singleton.mp hd]; exact shw_eF (by decide) s2 (by decide)
    have h1 := Dq_ex h1 e4
    refine q_asg3D (K := K) (ed_call (ea_cons (ed_var rfl h1) ea_nil) wp) fun va vb vc H5 e5 k1 k2 k3 => ?_
    cases k1; cases k2; cases k3
    have pT : (((T : Nat) : Int) ^ k).natAbs < 2 ^ 500 := Nat.lt_of_lt_of_le (pow_lt2 (k := 40) T40) (Nat.pow_le_pow_right (by decide) (by omega))
    have pr : (((r : Nat) : Int) ^ k).natAbs < 2 ^ 17000 := Nat.lt_of_lt_of_le (pow_lt2 (k := 1401) (show r < 2 ^ 1401 by omega)) (Nat.pow_le_pow_right (by decide) (by omega))
    have pr1 : (((r + 1 : Nat) : Int) ^ k).natAbs < 2 ^ 17000 := Nat.lt_of_lt_of_le (pow_lt2 (k := 1401) r15) (Nat.pow_le_pow_right (by decide) (by omega))
    refine q_asgD (K := K) (d := .int ((U * T ^ k : Nat) : Int)) (ed_is (ed_op (ed_var rfl (.int _)) (ed_call (ea_cons (ed_var rfl (.int _)) (ea_cons (ed_var rfl (.int _)) ea_nil)) ⟨(T : Nat), k, 40, rfl, T40, by decide, by omega, rfl⟩) (rd_mul (mulx_ok (a := 7489) (b := 500) dU pT (by decide)))) (congrArg PyData.int (by rw [Int.natCast_mul, Int.natCast_pow]))) fun v H6 e6 kk => ?_
    cases kk
    refine s_retD (K := K) (ed_is (ed_and (a := true) (ed_is (ed_op (ed_op (ed_call (ea_cons (ed_var rfl (.int _)) (ea_cons (ed_var rfl (.int _)) ea_nil)) ⟨(r : Nat), k, 1401, rfl, show r < 2 ^ 1401 by omega, by decide, by omega, rfl⟩) (ed_var rfl (.int _)) (rd_mul (mulx_ok (a := 17000) (b := 7489) pr dD (by decide)))) (ed_var rfl (.int _)) rd_le) (congrArg PyData.bool (decide_eq_true (by rw [← Int.natCast_pow, ← Int.natCast_mul]; exact Int.ofNat_le.mpr g1)))) fun _ =>
      ed_op (ed_var rfl (.int _)) (ed_op (ed_call (ea_cons (ed_is (ed_op (ed_var rfl (.int _)) ed_i rd_add) (show PyData.int ((r : Int) + 1) = .int ((r + 1 : Nat) : Int) from rfl)) (ea_cons (ed_var rfl (.int _)) ea_nil)) ⟨(r + 1 : Nat), k, 1401, rfl, r15, by decide, by omega, rfl⟩) (ed_var rfl (.int _)) (rd_mul (mulx_ok (a := 17000) (b := 7489) pr1 dD (by decide)))) rd_lt) ?_) fun v H7 e7 kk => q v H7 ((((((e1.trans e2).trans e3).trans e4).trans e5).trans e6).trans e7) kk
    rw [decide_eq_true (show ((U * T ^ k : Nat) : Int) < ((r + 1 : Nat) : Int) ^ k * (D' : Int) by rw [← Int.natCast_pow, ← Int.natCast_mul]; exact Int.ofNat_lt.mpr g2)]
    rfl
end
end K03

namespace K03
open PySem PySem.Spec PyProof.Rows L2 Evl My TL
section
variable {P : Program} {w : World} {K : PySem.W.Frag} {mg : Str → Option Value} {base : Heap}
theorem ok_primesX (T : Tx K mg) : Ok P w K mg base 1 "_law_prime_powers" ["whole", "sign"] (spLawPrimesX K) := by
  refine Ok.mk (k := 0) T.f_u_law_prime_powers sc_u_law_prime_powers T.g_u_law_prime_powers (fun _ _ _ _ _ _ us hl => match us, hl with | [_, _], _ => rfl) (fun vs H Q E h => ?_) (fun cdv A outer s H vs Q E hr h => ?_)
  · exact len_spLawPrimesX h
  · refine ⟨_, PSs.nox (pss_cons (ps_par3 (i := 2) (j := 3) (l := 4) rfl sc_u_law_prime_powers.nd rfl rfl rfl (by decide) (by decide) (by decide) rfl rfl rfl (pa_cons pe_dnewK (pa_cons pe_int (pa_cons (pe_callTy call_int1 rfl T.b_int (by decide +kernel) (pa_cons (pv 0) pa_nil)) pa_nil))) (by rfl))
        (pss_cons (ps_while PassesOwn.never (pt_cmpR op_le (pe_op op_mulX (pv 3) (pv 3)) (pv 4) (nomark _)) (pss_cons (ps_while PassesOwn.never (pt_cmpR (op_eqDK (K := K) (by rfl) hr.units) (pe_op op_mod (pv 4) (pv 3)) pe_int (nomark _)) (pss_cons (ps_set (i := 4) sc_u_law_prime_powers.nd rfl (by first | exact Or.inl rfl | exact Or.inr rfl) (pe_op op_fdivW (pv 4) (pv 3)))
        (pss_one (ps_dput (hu_of hr) (pv 2) (pv 3) (pe_op op_add (pe_dget2 (hu_of hr) (pv 2) (pv 3) pe_int ⟨rfl, rfl, rfl, rfl⟩) (pv 1)) rfl))))
        (pss_one (ps_set (i := 3) sc_u_law_prime_powers.nd rfl (by first | exact Or.inl rfl | exact Or.inr rfl) (pe_op op_add (pv 3) pe_int)))))
        (pss_cons (ps_if (pt_cmpR op_gt (pv 4) pe_int (nomark _)) (pss_one (ps_dput (hu_of hr) (pv 2) (pv 4) (pe_op op_add (pe_dget2 (hu_of hr) (pv 2) (pv 4) pe_int ⟨rfl, rfl, rfl, rfl⟩) (pv 1)) rfl)) pss_nil)
        (pss_one (ps_ret (pv 2)))))), ?_⟩
    obtain ⟨n, sg, rfl, n1, n9, q⟩ := h
    refine fun p hp => (ea_cons ed_i (ea_cons (ed_cb (ea_cons (ed_var rfl (.int _)) ea_nil) rb_int) ea_nil) : EA K _ _ (upd H p (.dK [])) _) _ (Ex.refl _) _ fun vs H1 e1 hvs => ?_
    obtain ⟨_, _, rfl, k1, k2⟩ := dpa2 hvs
    cases k1; cases k2
    refine ⟨_, _, _, rfl, ?_⟩
    refine q_while (fun z σ H' => ∃ (k u : Nat) (L : List (Nat × Nat)) (es : List (Key × V)), PInv n k u L ∧ z = n + 1 - k ∧ k ≤ n + 1 ∧ σ = [some (.int n), some (.int sg), some (.ref p), some (.int k), some (.int u)] ∧ H' p = some (.dK es) ∧ DkE K H' es (eL sg L) ∧ Ex H H') (n + 1 - 2)
      ⟨2, n, [], [], PInv.start n1, rfl, by omega, rfl, e1 _ _ upd_same, .nil, (Ex.new hp).trans e1⟩ ?_
    rintro z σ' H' ⟨k, u, L, es, inv, rfl, kn, rfl, hd, hE, e⟩
    have k2 := inv.k2
    have un := inv.le
    refine ⟨decide (k * k ≤ u), et_D (K := K) (ed_is (ed_op (ed_op (ed_var rfl (.int _)) (ed_var rfl (.int _)) (rd_mul (mulx_ok (a := 20) (b := 20) (show k < 2 ^ 20 by omega) (show k < 2 ^ 20 by omega) (by decide)))) (ed_var rfl (.int _)) rd_le) (by congr 1; exact decide_eq_decide.mpr (by omega))), fun hc H2 e2 => ?_, fun hc H2 e2 => ?_⟩
    · have hku : k * k ≤ u := of_decide_eq_true hc
      have hku1 : k ≤ u := Nat.le_trans (by have := Nat.mul_le_mul_left k (show 1 ≤ k by omega); omega) hku
      refine ⟨fun σ2 H2 => ∃ z', z' < n + 1 - k ∧ ∃ (k u : Nat) (L : List (Nat × Nat)) (es : List (Key × V)), PInv n k u L ∧ z' = n + 1 - k ∧ k ≤ n + 1 ∧ σ2 = [some (.int n), some (.int sg), some (.ref p), some (.int k), some (.int u)] ∧ H2 p = some (.dK es) ∧ DkE K H2 es (eL sg L) ∧ Ex H H2, fun σ2 H2 h => h, ?_⟩
      refine q_while (fun y σ H' => ∃ (m : Nat) (es : List (Key × V)), QInv n k y m L ∧ y ≤ u ∧ σ = [some (.int n), some (.int sg), some (.ref p), some (.int k), some (.int y)] ∧ H' p = some (.dK es) ∧ DkE K H' es (eL sg (Lm L k m)) ∧ Ex H H') u
        ⟨0, es, inv.q, Nat.le_refl _, rfl, e2 _ _ hd, hE.ex e2, e.trans e2⟩ ?_
      rintro y σ' H' ⟨m, es, qi, yu, rfl, hd, hE, e⟩
      have nk : ∀ x ∈ L, x.1 ≠ k := fun x hx => Nat.ne_of_lt (inv.pr x hx).2.2
      refine ⟨decide (y % k = 0), et_D (K := K) (ed_is (ed_op (ed_op (ed_var rfl (.int _)) (ed_var rfl (.int _)) (rd_mod (by omega))) ed_i rd_eqI) (by congr 1; exact decide_eq_decide.mpr (mod_z y k))), fun hc H2 e2 => ?_, fun hc H2 e2 => ?_⟩
      · have hm : y % k = 0 := of_decide_eq_true hc
        obtain ⟨s1, s2⟩ := eL_step (s := sg) (m := m) nk
        refine ⟨fun σ2 H2 => ∃ y', y' < y ∧ ∃ (m : Nat) (es : List (Key × V)), QInv n k y' m L ∧ y' ≤ u ∧ σ2 = [some (.int n), some (.int sg), some (.ref p), some (.int k), some (.int y')] ∧ H2 p = some (.dK es) ∧ DkE K H2 es (eL sg (Lm L k m)) ∧ Ex H H2, fun σ2 H2 h => h, ?_⟩
        have sh := short17 (qi.step hm).base n9
        have l0 := short17 inv n9
        refine q_asgD (K := K) (ed_is (ed_op (ed_var rfl (.int _)) (ed_var rfl (.int _)) (rd_div (wide_div (b := 20) (by omega) (show k < 2 ^ 20 by omega) (by decide) (by decide)))) (congrArg PyData.int (Int.natCast_ediv y k).symm)) fun v H4 e4 kk => ?_
        cases kk
        have hd2 := e4 _ _ (e2 _ _ hd)
        have hE2 := (hE.ex e2).ex e4
        refine s_dput (K := K) (d := .int (sg * (m : Int) + sg)) (ed_op (ed_is (ed_dget2 (ev_var rfl) (ed_var rfl (.int _)) ed_i hd2 hE2) s1) (ed_var rfl (.int _)) rd_add) (ev_var rfl) (ed_var rfl (.int _)) hd2 hE2 (imm_eL _ _) rfl (by rw [len_eL]; have := Lm_len L k m; omega) fun H3 es3 hd3 hE3 kx => ?_
        rw [s2] at hE3
        exact ⟨y / k, Nat.div_lt_self qi.w1 k2, m + 1, es3, qi.step hm, Nat.le_trans (Nat.div_le_self _ _) yu, rfl, hd3, hE3, kx H hp ((e.trans e2).trans e4)⟩
      · have hm : ¬ y % k = 0 := of_decide_eq_false hc
        refine s_asgD (K := K) (ed_op (ed_var rfl (.int _)) ed_i rd_add) fun v H4 e4 kk => ?_
        cases kk
        exact ⟨n + 1 - (k + 1), by omega, k + 1, y, Lm L k m, es, qi.next hm, rfl, by omega, rfl, e4 _ _ (e2 _ _ hd), (hE.ex e2).ex e4, (e.trans e2).trans e4⟩
    · have hku : ¬ k * k ≤ u := of_decide_eq_false hc
      have dn := inv.done hku
      have l0 := short17 inv n9
      refine q_when (b := decide (1 < u)) (et_D (K := K) (ed_is (ed_op (ed_var rfl (.int _)) ed_i rd_gt) (by congr 1; exact decide_eq_decide.mpr (by omega)))) (fun hc H3 e3 => ?_) (fun hc H3 e3 => ?_)
      · have hu : 1 < u := of_decide_eq_true hc
        rw [if_pos hu] at dn
        have ku := inv.big hu
        have nk : ∀ x ∈ L, x.1 ≠ u := fun x hx => Nat.ne_of_lt (Nat.lt_of_lt_of_le (inv.pr x hx).2.2 ku)
        have hd3 := e3 _ _ (e2 _ _ hd)
        have hE3 := (hE.ex e2).ex e3
        obtain ⟨s1, s2⟩ := eL_step (s := sg) (m := 0) nk
        refine s_dput (K := K) (d := .int (sg * ((0 : Nat) : Int) + sg)) (ed_op (ed_is (ed_dget2 (ev_var rfl) (ed_var rfl (.int _)) ed_i hd3 hE3) s1) (ed_var rfl (.int _)) rd_add) (ev_var rfl) (ed_var rfl (.int _)) hd3 hE3 (imm_eL _ _) rfl (by rw [len_eL]; omega) fun H4 es4 hd4 hE4 kx => ?_
        have e5 : es4 = entI (sI sg (fac n)) := by
          rw [← fac_eq n1 dn]
          exact dk_ints (K := K) (H := H4) (show DkE K H4 es4 (eL sg (L ++ [(u, 1)])) from s2 ▸ hE4)
        refine ⟨_, rfl, q p H4 hp (kx H hp ((e.trans e2).trans e3)) ?_⟩
        rw [hd4, e5]
      · have hu : ¬ 1 < u := of_decide_eq_false hc
        rw [if_neg hu] at dn
        have e5 : es = entI (sI sg (fac n)) := by
          rw [← fac_eq n1 dn]
          exact dk_ints hE
        refine ⟨_, rfl, q p H3 hp ((e.trans e2).trans e3) ?_⟩
        rw [e3 _ _ (e2 _ _ hd), e5]
theorem ok_wholeX (T : Tx K mg) : Ok P w K mg base 5 "_law_whole_number" ["top", "low"] (spLWholeX K) := by
  have O_u_law_times := ok_u_law_times (P := P) (w := w) (base := base) T
  have O_u_law_prime_powers := ok_primesX (P := P) (w := w) (base := base) T
  refine Ok.mk (k := 4) T.f_u_law_whole_number sc_u_law_whole_number T.g_u_law_whole_number (fun _ _ _ _ _ _ us hl => match us, hl with | [_, _], _ => rfl) (fun vs H Q E h => ?_) (fun cdv A outer s H vs Q E hr h => ?_)
  · exact len_spR h
  · refine ⟨_, PSs.nox (pss_cons (ps_set (i := 2) sc_u_law_whole_number.nd rfl (by first | exact Or.inl rfl | exact Or.inr rfl) (pe_callTy (call_tupleF (K := K) (by rfl)) rfl T.b_tuple (by decide +kernel) (pa_cons (pe_frz (pe_lc (own := [("prime", 3), ("power", 4)]) rfl sc_u_law_whole_number.nd (pi_listK (K := K) (by rfl) (pe_sortedItems (K := K) (by rfl) (by rfl) (pcall O_u_law_prime_powers (hr.mono (by decide)) rfl (pa_cons (pv 0) (pa_cons pe_int pa_nil))) rfl T.b_sorted (by decide +kernel))) (blkOk_by (N := N_u_law_whole_number) (sc := defScope s_u_law_whole_number) (by decide +kernel)) (fun _ _ _ _ _ => (pg_tupK (K := K) (n := 2) (by rfl) (by rfl) (pgs_cons (pg_name (i := 3) sc_u_law_whole_number.nd (by rfl) (by first | exact Or.inl rfl | exact Or.inr rfl)) (pgs_cons (pg_name (i := 4) sc_u_law_whole_number.nd (by rfl) (by first | exact Or.inl rfl | exact Or.inr rfl)) pgs_nil)))) (fun _ _ _ _ _ => pts_nil) (fun _ _ _ _ _ => (pe_tupF (pa_cons (pv 3) (pa_cons (pe_tupF (pa_cons (pv 4) (pa_cons pe_int pa_nil))) pa_nil)))))) pa_nil)))
        (pss_one (ps_ret (pcall O_u_law_times (hr.mono (by decide)) rfl (pa_cons (pv 2) (pa_cons (pe_callTy (call_tupleF (K := K) (by rfl)) rfl T.b_tuple (by decide +kernel) (pa_cons (pe_frz (pe_lc (own := [("prime", 3), ("power", 4)]) rfl sc_u_law_whole_number.nd (pi_listK (K := K) (by rfl) (pe_sortedItems (K := K) (by rfl) (by rfl) (pcall O_u_law_prime_powers (hr.mono (by decide)) rfl (pa_cons (pv 1) (pa_cons (pe_un un_neg pe_int) pa_nil))) rfl T.b_sorted (by decide +kernel))) (blkOk_by (N := N_u_law_whole_number) (sc := defScope s_u_law_whole_number) (by decide +kernel)) (fun _ _ _ _ _ => (pg_tupK (K := K) (n := 2) (by rfl) (by rfl) (pgs_cons (pg_name (i := 3) sc_u_law_whole_number.nd (by rfl) (by first | exact Or.inl rfl | exact Or.inr rfl)) (pgs_cons (pg_name (i := 4) sc_u_law_whole_number.nd (by rfl) (by first | exact Or.inl rfl | exact Or.inr rfl)) pgs_nil)))) (fun _ _ _ _ _ => pts_nil) (fun _ _ _ _ _ => (pe_tupF (pa_cons (pv 3) (pa_cons (pe_tupF (pa_cons (pv 4) (pa_cons pe_int pa_nil))) pa_nil)))))) pa_nil)) pa_nil)))))), ?_⟩
    obtain ⟨ds, d, -, hv, ⟨t, f, rfl, t1, t2, f5, rfl⟩, q⟩ := h
    obtain ⟨v0, v1, rfl, h1, h2⟩ := dpa2 hv
    cases h1; cases h2
    have l1 : 1 ≤ 10 ^ f := Nat.pow_pos (by decide)
    have l2 : 10 ^ f ≤ 100000 := Nat.pow_le_pow_right (show 10 > 0 by decide) f5
    have lt := len_fac t1 t2
    have ll := ten_len (f := f)
    have kt : ((sI 1 (fac t)).length ≤ 40000) := by unfold sI; rw [List.length_map]; omega
    have kl : ((sI (-1) (fac (10 ^ f))).length ≤ 40000) := by unfold sI; rw [List.length_map]; omega
    have s1 := (sm_nS (s := 1) rfl t1 t2).mono (m := 1900) (by decide)
    have s2 := (sm_nST (f := f) (s := -1) rfl f5).mono (m := 1900) (by decide)
    have c2 := can_nST (f := f) (s := -1) (by decide) f5
    have a2 := asc_sI (n := 10 ^ f) (-1) l1
    rw [← nS_frac] at q
    generalize 10 ^ f = l at *
    refine q_asgP (K := K) (ep_tuple (ed_is (el_pairs (K := K) (g := fun x => PyData.tuple [.int x.1, .tuple [.int x.2, .int 1]]) (epr_sortIt (ek_lprimesX (ea_cons (ed_var rfl (.int _)) (ea_cons ed_i ea_nil)) t1 (by omega)) (asc_sI 1 t1)) kt (fun _ _ => rfl) (fun _ _ => rfl) (fun x hx H2 e2 => ed_tup (ea_cons (ed_var rfl (.int _)) (ea_cons (ed_tup (ea_cons (ed_var rfl (.int _)) (ea_cons ed_i ea_nil)) le2) ea_nil)) le2)) (by rw [nS_data]))) fun v H1 e1 k1 => ?_
    have k1 : Pl K H1 v (eN (nS 1 (fac t))) := k1
    exact s_retP (ep_ltimes (ep_var rfl k1) (ep_tuple (ed_is (el_pairs (K := K) (g := fun x => PyData.tuple [.int x.1, .tuple [.int x.2, .int 1]]) (epr_sortIt (ek_lprimesX (ea_cons (ed_var rfl (.int _)) (ea_cons (ed_neg ed_i) ea_nil)) l1 l2) a2) kl (fun _ _ => rfl) (fun _ _ => rfl) (fun x hx H2 e2 => ed_tup (ea_cons (ed_var rfl (.int _)) (ea_cons (ed_tup (ea_cons (ed_var rfl (.int _)) (ea_cons ed_i ea_nil)) le2) ea_nil)) le2)) (by rw [nS_data]))).ed (can_nS (by decide) t1 t2) c2 s1 s2) fun v H2 e2 k => q v H2 (e1.trans e2) k.dp
end
end K03

namespace K03
open PySem PySem.Spec PyProof.Rows L2 Evl My TL
section
variable {P : Program} {w : World} {K : PySem.W.Frag} {mg : Str → Option Value} {base : Heap}
def N_u_law_cells : List Str := ["script", "limit"]
theorem sc_u_law_cells : FnScope N_u_law_cells ["script", "limit"] (defScope s_u_law_cells) := ⟨rfl, rfl, rfl, by decide +kernel, rfl, by decide +kernel, by decide +kernel⟩
theorem ok_u_law_cells (T : Tx K mg) : Ok P w K mg base 1 "_law_cells" ["script", "limit"] (spCells K) := by
  refine Ok.mk (k := 0) T.f_u_law_cells sc_u_law_cells T.g_u_law_cells (fun _ _ _ _ _ _ us hl => match us, hl with | [_, _], _ => rfl) (fun vs H Q E h => ?_) (fun cdv A outer s H vs Q E hr h => ?_)
  · exact len_spR h
  · refine ⟨_, PSs.nox (pss_one (ps_ret (pe_frz (pe_listRg (by rfl) rfl T.b_list (prg_1 rfl T.b_range (pe_callB (call_max2 (by rfl)) rfl T.b_max (by decide +kernel) (pa_cons pe_int (pa_cons (pe_callB (call_min2 (by rfl)) rfl T.b_min (by decide +kernel) (pa_cons (pv 1) (pa_cons (pe_callB (call_lenK (K := K) (by rfl)) rfl T.b_len (by decide +kernel) (pa_cons (pv 0) pa_nil)) pa_nil))) pa_nil)))))))), ?_⟩
    obtain ⟨ds, d, -, hv, ⟨ns, l, rfl, hn, rfl⟩, q⟩ := h
    obtain ⟨v0, v1, rfl, h1, h2⟩ := dpa2 hv
    cases h2
    refine s_retD (K := K) (ed_range (ed_is (ed_cb (ea_cons ed_i (ea_cons (ed_cb (ea_cons (ed_var rfl (.int _)) (ea_cons (ed_cb (ea_cons (ed_var rfl h1) ea_nil) (rb_lenL (by rw [List.length_map]; omega))) ea_nil)) rb_min) ea_nil)) rb_max) ?_) (by omega)) fun v H1 e1 k => q v H1 e1 k
    rw [List.length_map]
    congr 1
    omega
def N_u_law_right : List Str := ["pot", "lap", "number", "figures", "scale", "part", "due"]
theorem sc_u_law_right : FnScope N_u_law_right ["pot"] (defScope s_u_law_right) := ⟨rfl, rfl, rfl, by decide +kernel, rfl, by decide +kernel, by decide +kernel⟩
theorem ok_u_law_right (T : Tx K mg) : OkG P w K mg base 8 "_law_right" ["pot"] (spRight K) := by
  have O_between := ok_between (P := P) (w := w) (base := base) T
  have O_u_law_take := ok_u_law_take (P := P) (w := w) (base := base) T
  have O_u_law_of := ok_u_law_of (P := P) (w := w) (base := base) T
  have O_u_law_lowest := ok_u_law_lowest (P := P) (w := w) (base := base) T
  have O_u_law_whole_number := ok_wholeX (P := P) (w := w) (base := base) T
  have O_u_law_text_and_number := ok_u_law_text_and_number (P := P) (w := w) (base := base) T
  have O_u_law_is_between := ok_u_law_is_between (P := P) (w := w) (base := base) T
  have OK_between := okK_between (P := P) (w := w) (base := base) T
  refine OkG.mk (k := 7) T.f_u_law_right sc_u_law_right T.g_u_law_right (fun _ _ _ _ _ _ us hl => match us, hl with | [_], _ => rfl) (fun vs H Q E h => ?_) (fun cdv A outer s H vs Q E hg hr h => ?_)
  · exact len_spRight h
  · refine ⟨_, PSs.nox (pss_cons (ps_for PassesOwn.never rfl (pi_range1 rfl T.b_range (pa_cons (pe_op op_add pe_int (pcall O_u_law_take (hr.mono (by decide)) rfl (pa_cons (pv 0) (pa_cons pe_int pa_nil)))) pa_nil)) (pg_name (i := 1) sc_u_law_right.nd (by rfl) (by first | exact Or.inl rfl | exact Or.inr rfl)) (pss_cons (ps_set (i := 2) sc_u_law_right.nd rfl (by first | exact Or.inl rfl | exact Or.inr rfl) (pe_ix (ix_tupK (K := K) (by rfl)) (pcall O_u_law_text_and_number (hr.mono (by decide)) rfl (pa_cons (pv 0) (pa_cons pe_int pa_nil))) pe_int (fun _ _ => rfl)))
        (pss_cons (ps_set (i := 3) sc_u_law_right.nd rfl (by first | exact Or.inl rfl | exact Or.inr rfl) (pcall O_u_law_of (hr.mono (by decide)) rfl (pa_cons (pv 0) (pa_cons (pe_frz (pe_lst (pa_cons pe_int (pa_cons pe_int (pa_cons pe_int (pa_cons pe_int (pa_cons pe_int (pa_cons pe_int pa_nil)))))))) pa_nil))))
        (pss_one (ps_if (PW.pt (pw_and (pt_cmpR op_lt (pe_callB (call_lenK (K := K) (by rfl)) rfl T.b_len (by decide +kernel) (pa_cons (pv 2) pa_nil)) pe_int (nomark _)) (pw_and1 (pt_not (pt_val (pcallG O_u_law_is_between (guards_deeper hg) (hr.mono (by decide)) rfl (pa_cons (pv 2) (pa_cons (pv 3) (pa_cons (pcall O_between (hr.mono (by decide)) rfl (pa_cons (pv 2) (pa_cons (pv 3) pa_nil))) pa_nil))))))))) (pss_one (ps_ret pe_bl)) pss_nil)))))
        (pss_cons (ps_par (i := 4) (j := 5) rfl sc_u_law_right.nd rfl rfl (by decide) rfl rfl (pa_cons (pcall O_u_law_of (hr.mono (by decide)) rfl (pa_cons (pv 0) (pa_cons (pe_frz (pe_lst (pa_cons (pe_tupF (pa_cons pe_int (pa_cons pe_int pa_nil))) (pa_cons (pe_tupF (pa_cons pe_int (pa_cons pe_int pa_nil))) (pa_cons (pe_tupF (pa_cons pe_int (pa_cons pe_int pa_nil))) pa_nil))))) pa_nil))) (pa_cons (pe_op op_add pe_int (pcall O_u_law_take (hr.mono (by decide)) rfl (pa_cons (pv 0) (pa_cons pe_int pa_nil)))) pa_nil)) (by rfl))
        (pss_cons (ps_set (i := 6) sc_u_law_right.nd rfl (by first | exact Or.inl rfl | exact Or.inr rfl) (pe_tupF (pa_cons (pcall O_u_law_lowest (hr.mono (by decide)) rfl (pa_cons (pv 5) (pa_cons (pe_ix (ix_tupK (K := K) (by rfl)) (pv 4) pe_int (fun _ _ => rfl)) pa_nil))) (pa_cons (pcall O_u_law_lowest (hr.mono (by decide)) rfl (pa_cons (pe_op op_add (pv 5) pe_int) (pa_cons (pe_ix (ix_tupK (K := K) (by rfl)) (pv 4) pe_int (fun _ _ => rfl)) pa_nil))) pa_nil))))
        (pss_one (ps_ret (pe_cmpR op_eq (pe_callB (call_reprDK (K := K) (by rfl) (guards_deeper hg) hr.units) rfl T.b_repr (by decide +kernel) (pa_cons (pcallKw (ks := ["number", "figures"]) (g := id) (gV := id) OK_between (hr.mono (by decide)) rfl (fun r => r) (fun _ _ _ _ _ _ ws hl => match ws, hl with | [_, _], _ => rfl) (pk_cons (pcall O_u_law_whole_number (hr.mono (by decide)) rfl (pa_cons (pv 5) (pa_cons (pe_ix (ix_tupK (K := K) (by rfl)) (pv 4) pe_int (fun _ _ => rfl)) pa_nil))) (pk_cons (pe_ix (ix_tupK (K := K) (by rfl)) (pv 4) pe_int (fun _ _ => rfl)) pk_nil))) pa_nil)) (pe_callB (call_reprDK (K := K) (by rfl) (guards_deeper hg) hr.units) rfl T.b_repr (by decide +kernel) (pa_cons (pv 6) pa_nil)) (nomark _))))))), ?_⟩
    obtain ⟨p, rfl, hp, q⟩ := h
    refine q_forRG (K := K) (N := 3) (n := 1) hp (eg_op (R1 := fun d => d = .int 1) (R2' := fun d => ∃ x : Nat, x < 3 ∧ d = .int x) eg_i (eg_take (u := 3) rfl (fun _ _ => ed_i) (by decide) (by decide) (by decide)) (fun d h => rfl) (fun x y hx hy => by
        obtain ⟨j, hj, rfl⟩ := hy
        subst hx
        exact ⟨_, rd_add, 1 + j, by omega, by rw [Int.natCast_add]; rfl⟩)) (by decide) fun H1 x g1 hp1 hx => ⟨fun i σ' H' => ∃ o1 o2 o3 o4 o5 o6 : Option V, σ' = [some (.ref p), o1, o2, o3, o4, o5, o6] ∧ Go p H H' ∧ PotAt p (1 + 18 * i) H', ⟨_, _, _, _, _, _, rfl, g1, hp1⟩, ?_, ?_⟩
    · rintro i σ' H' hi ⟨o1, o2, o3, o4, o5, o6, rfl, g, hpp⟩
      refine q_asgG (n := 1 + 18 * i + 17) (R := NumW 7488) hpp (eg_op (R1 := TxtT 2) (R2' := fun d => d = .int 1) (eg_mono (eg_pcall rfl (ega_ea fun _ _ => ea_cons ed_i ea_nil) (by omega) fun ds e => by subst e; exact ⟨rfl, rfl, rfl⟩) fun d hd => by obtain ⟨_, _, h⟩ := hd; exact h) eg_i (fun _ _ => rfl) (fun x y hx hy => by
        obtain ⟨L, hL, rfl⟩ := hx
        subst hy
        exact ⟨_, rd_ixT (n := 1) rfl, _, hL.tw.mono (by decide), rfl⟩)) fun v1 H2 d g2 hp2 hd hv1 => ?_
      obtain ⟨n, tn, rfl⟩ := hd
      refine q_asgG (n := 1 + 18 * i + 18) hp2 (eg_mono (S := fun d => ∃ f : Nat, f ≤ 12 ∧ d = .int f) (eg_of rfl (ega_ea fun _ _ => ea_cons ed_i (ea_cons ed_i (ea_cons ed_i (ea_cons ed_i (ea_cons ed_i (ea_cons ed_i ea_nil)))))) (by omega) (fun ds e => by subst e; exact ⟨fun _ _ => rfl, by decide, by decide⟩)) (fun d h => ?_)) fun v2 H3 d g3 hp3 hd hv2 => ?_
      · obtain ⟨_, rfl, hm⟩ := h
        simp only [List.mem_cons, List.not_mem_nil, or_false] at hm
        rcases hm with rfl | rfl | rfl | rfl | rfl | rfl
        · exact ⟨0, by decide, rfl⟩
        · exact ⟨1, by decide, rfl⟩
        · exact ⟨2, by decide, rfl⟩
        · exact ⟨3, by decide, rfl⟩
        · exact ⟨6, by decide, rfl⟩
        · exact ⟨12, by decide, rfl⟩
      obtain ⟨f, hf, rfl⟩ := hd
      cases hv2
      have hv1 := hp2.dp g3 hv1 rfl
      have bt := bt_tw tn hf
      have ln := tn.ok.can.len
      refine s_when (b := false) (et_is (et_and (a := decide (n.length < 6)) (et_D (K := K) (ed_is (ed_op (ed_cb (ea_cons (ed_var rfl hv1) ea_nil) (rb_len (by rw [List.length_map]; omega))) ed_i rd_lt) (congrArg PyData.bool (by rw [List.length_map]; exact decide_eq_decide.mpr (by omega))))) fun _ => et_not (et_DB (K := K) (ed_call (ea_cons (ed_var rfl hv1) (ea_cons (ed_var rfl (.int _)) (ea_cons (ed_call (ea_cons (ed_var rfl hv1) (ea_cons (ed_var rfl (.int _)) ea_nil)) ⟨n, f, rfl, bt, rfl⟩) ea_nil))) ⟨n, f, rfl, bt, rfl⟩))) (by simp)) (fun hb => by cases hb) fun _ H4 e4 => ?_
      exact ⟨_, _, _, _, _, _, rfl, ((g.trans g2).trans g3).trans (exgo e4), (hp3.mono (by omega)).ex e4⟩
    · rintro σ' H' ⟨o1, o2, o3, o4, o5, o6, rfl, g, hpp⟩
      refine q_par2G (n := 1 + 18 * x + 2) hpp (ega_cons (eg_mono (S := fun d => ∃ f : Nat, f ≤ 5 ∧ d = .tuple [.int f, .int (10 ^ f : Nat)]) (eg_of rfl (ega_ea fun _ _ => ea_cons (ed_tup (ea_cons ed_i (ea_cons ed_i ea_nil)) le2) (ea_cons (ed_tup (ea_cons ed_i (ea_cons ed_i ea_nil)) le2) (ea_cons (ed_tup (ea_cons ed_i (ea_cons ed_i ea_nil)) le2) ea_nil))) (by omega) (fun ds e => by subst e; exact ⟨fun _ _ => rfl, by decide, by decide⟩)) (fun d h => ?_))
        (ega_cons (eg_op (S := fun d => ∃ t : Nat, (1 ≤ t ∧ t ≤ 999) ∧ d = .int t) (R1 := fun d => d = .int 1) (R2' := fun d => ∃ x : Nat, x < 999 ∧ d = .int x) eg_i (eg_take (u := 999) rfl (fun _ _ => ed_i) (by decide) (by decide) (by omega)) (fun d h => rfl) (fun x y hx hy => by
        obtain ⟨j, hj, rfl⟩ := hy
        subst hx
        exact ⟨_, rd_add, 1 + j, ⟨by omega, by omega⟩, by rw [Int.natCast_add]; rfl⟩)) ega_nil (fun _ _ => rfl)) (fun _ _ => rfl)) fun a b d1 d2 H2 g2 hp2 hd1 hd2 ha hb => ?_
      · obtain ⟨_, rfl, hm⟩ := h
        simp only [List.mem_cons, List.not_mem_nil, or_false] at hm
        rcases hm with rfl | rfl | rfl
        · exact ⟨0, by decide, rfl⟩
        · exact ⟨2, by decide, rfl⟩
        · exact ⟨5, by decide, rfl⟩
      obtain ⟨f, f5, rfl⟩ := hd1
      obtain ⟨t, ⟨t1, t2⟩, rfl⟩ := hd2
      cases hb
      have pt := part_ten t1 (show t ≤ 9999 by omega) f5
      have bt := bt_tw ((ten_tw t1 (show t ≤ 9999 by omega) f5).mono (show 624 ≤ 7488 by decide)) (show f ≤ 12 by omega)
      have T0 : 0 < 10 ^ f := Nat.pow_pos (by decide)
      have T20 : 10 ^ f < 2 ^ 20 := Nat.lt_of_le_of_lt (Nat.pow_le_pow_right (show 10 > 0 by decide) f5) (by decide)
      have up : ∀ {a : Nat}, a < 2 ^ 20 → a < 2 ^ 8000 := fun h => Nat.lt_trans h (Nat.pow_lt_pow_right (by decide) (by decide))
      have s1 : Sm 20 (mkRat (t : Nat) (10 ^ f)) := mk_sm (show t < 2 ^ 20 by omega) T20 (by omega)
      have s2 : Sm 20 (mkRat (t + 1 : Nat) (10 ^ f)) := mk_sm (show t + 1 < 2 ^ 20 by omega) T20 (by omega)
      refine q_asgD (K := K) (d := .tuple [eF (mkRat (t : Nat) (10 ^ f)), eF (mkRat (t + 1 : Nat) (10 ^ f))]) (ed_tup (ea_cons (ed_call (ea_cons (ed_var rfl (.int _)) (ea_cons (ed_op (ed_var rfl ha) ed_i (rd_ixT (n := 1) rfl)) ea_nil)) ⟨t, 10 ^ f, rfl, by omega, up (show t < 2 ^ 20 by omega), up T20, rfl⟩) (ea_cons (ed_call (ea_cons (ed_is (ed_op (ed_var rfl (.int _)) ed_i rd_add) (show PyData.int ((t : Int) + 1) = .int ((t + 1 : Nat) : Int) from rfl)) (ea_cons (ed_op (ed_var rfl ha) ed_i (rd_ixT (n := 1) rfl)) ea_nil)) ⟨(t + 1 : Nat), 10 ^ f, rfl, by omega, up (show t + 1 < 2 ^ 20 by omega), up T20, rfl⟩) ea_nil)) le2) fun vd H3 e3 hvd => ?_
      have ha := Dq_ex ha e3
      refine s_retD (K := K) (ed_reprEq (ed_is (ed_callKw (ea_cons (ed_call (ea_cons (ed_var rfl (.int _)) (ea_cons (ed_op (ed_var rfl ha) ed_i (rd_ixT (n := 1) rfl)) ea_nil)) ⟨t, f, rfl, t1, by omega, f5, rfl⟩) (ea_cons (ed_op (ed_var rfl ha) ed_i (rd_ixT (n := 0) rfl)) ea_nil)) ⟨_, f, rfl, bt, rfl⟩) (by rw [pt])) (ed_var rfl hvd) ?_) fun v H4 e4 kk => ?_
      · refine (shw_tup (m := 1) (b := (20 + 1 + 2) * 2 + 3) (k := 2) (fun d hd => ?_) (Nat.le_refl _)).mono (by decide) (by decide)
        rcases List.mem_cons.mp hd with rfl | hd
        · exact shw_eF (by decide) s1 (by decide)
        · rw [List.mem_singleton.mp hd]; exact shw_eF (by decide) s2 (by decide)
      cases kk
      exact q H4 ((g.trans g2).trans (exgo (e3.trans e4)))
def N_law : List Str := ["script", "place"]
theorem sc_law : FnScope N_law ["script"] (defScope s_law) := ⟨rfl, rfl, rfl, by decide +kernel, rfl, by decide +kernel, by decide +kernel⟩
theorem ok_law (T : Tx K mg) : OkG P w K mg base 9 "law" ["script"] (spLaw K) := by
  have O_u_law_pot := ok_u_law_pot (P := P) (w := w) (base := base) T
  have O_u_law_cells := ok_u_law_cells (P := P) (w := w) (base := base) T
  have O_u_law_right := ok_u_law_right (P := P) (w := w) (base := base) T
  refine OkG.mk (k := 8) T.f_law sc_law T.g_law (fun _ _ _ _ _ _ us hl => match us, hl with | [_], _ => rfl) (fun vs H Q E h => ?_) (fun cdv A outer s H vs Q E hg hr h => ?_)
  · exact len_spLaw h
  · refine ⟨_, PSs.nox (pss_one (ps_ret (pe_callB (cr_allK (K := K) (by rfl) (by rfl)) rfl T.b_all (by decide +kernel) (pa_cons (pe_frz (pe_lc (own := [("place", 1)]) rfl sc_law.nd (pi_listK (K := K) (by rfl) (pcall O_u_law_cells (hr.mono (by decide)) rfl (pa_cons (pv 0) (pa_cons pe_int pa_nil)))) (blkOk_by (N := N_law) (sc := defScope s_law) (by decide +kernel)) (fun _ _ _ _ _ => (pg_name (i := 1) sc_law.nd (by rfl) (by first | exact Or.inl rfl | exact Or.inr rfl))) (fun _ _ _ _ _ => pts_nil) (fun _ _ _ _ _ => (pcallG O_u_law_right (guards_deeper hg) (hr.mono (by decide)) rfl (pa_cons (pcall O_u_law_pot (hr.mono (by decide)) rfl (pa_cons (pv 0) (pa_cons (pv 1) pa_nil))) pa_nil))))) pa_nil)))), ?_⟩
    obtain ⟨a, ns, rfl, hs, hl, q⟩ := h
    have hd : Dq K H (.ref a) (.list (ns.map PyData.int)) := .lst hs (ints_dpa ns)
    refine s_retD (K := K) (ed_is (ed_cb (ea_cons (ed_is (el_list (K := K) (fun n : Nat => PyData.int n) (List.range (max 1 (min 3 ns.length))) (fun _ => true) (fun _ => .bool true) (ed_call (ea_cons (ed_var rfl hd) (ea_cons ed_i ea_nil)) ⟨ns, 3, rfl, hl, rfl⟩) (by rw [List.length_range]; omega) (fun _ _ => rfl) (fun x hx => turn_one (fun _ => rfl) (fun _ _ _ _ => et_yes) (fun _ v H1 e1 hv => ?_)))
      ((congrArg PyData.list (outs_all _ _)).trans (all_true _))) ea_nil) rb_all) (congrArg PyData.bool (all_true2 _))) fun v H1 e1 k => ?_
    · cases hv
      have := List.mem_range.mp hx
      exact ed_right rfl (hs.ex e1) hl rfl (by omega)
    · cases k
      exact q H1 e1
end
end K03

namespace K03
open PySem PySem.Spec PyProof.Rows L2
def loose0 : List PySem.Str := ["ModelError", "BadNumber", "BadFigures", "log_bounds", "sign_by_logs", "is_integer", "is_whole", "is_tuple", "is_ascending", "divisor", "lowest", "is_fraction", "powered", "is_prime", "is_number", "check_number", "wholes", "bits_above", "whole_product", "between", "step_below", "root_below", "_law_pot", "_law_take", "_law_of", "_law_cells", "_law_divisor", "_law_lowest", "_law_plus", "_law_by"]
def loose1 : List PySem.Str := ["_law_fraction_text", "_law_times", "_law_raised", "_law_prime_powers", "_law_whole_number", "_law_great", "_law_power_of", "_law_factor", "_law_text_and_number", "_law_powered", "_law_whole_power", "_law_is_between", "_law_right", "PAIR_logs", "MORE_FIGURES", "FIRST_FIGURES", "PAIR_plain", "PAIR_numbers", "LEAST_PRIME", "MOST_PRIME", "MOST_FIGURES", "MOST_BITS", "TEN"]
abbrev looseAll : List PySem.Str := loose0 ++ loose1
abbrev R : PySem.W.OpenRow := PySem.W.OpenLaw.row PySem.Challenge.rw_modeltrials_k03_whole_numbers_between_tw
abbrev hk : PySem.W.Hook := My.hookM 4 fa fn ex
def ob (s : PySem.W.SharedT) : My.AlM := My.obsM 4 fa fn ex (HandSHeadRun.getT s)
theorem ob_eq (s : PySem.W.SharedT) : ob s = hk.obs s.abs := My.obsM_eq (HandSHeadRun.getT_eq s)
theorem run (w : World) : HandSHeadRun.RunEq R (PySem.W.view R.prog [58]) hk ob 8000 looseAll w := by
  intro os
  kernel_rfl
end K03

namespace K03
open PySem PySem.Spec PyProof.Rows L2 My
theorem facts {P : Program} {w : World} {K : PySem.W.Frag} {h : Heap} {mg : Str → Option Value} {f : Addr} (X : K.In h) (G : h.Ns mainGlobals mg) (hfa : mg ("law" : Str) = some (.ref f)) (c : He.SaysD fa fn K) (x : ex K = true) :
    ∃ fd : FuncData, (∀ (s : Shared) (v : Value), BindsTo s fd ⟨[v], []⟩ [("script", v)]) ∧ ∀ base : Heap, K.In base → base.Ns mainGlobals mg → FnOkG P w K mg base 9 f fd ["script"] (spLaw K) := by
  have T : Tx K mg := ⟨c, ⟨h, X, G⟩, x⟩
  obtain ⟨fd, F⟩ := T.f_law
  have e := hfa.symm.trans T.g_law
  cases e
  have b := FunD.bindsA (ps := ["script"]) F fun _ _ _ _ _ _ us hl => match us, hl with | [_], _ => rfl
  exact ⟨fd, fun s v => b s [v] rfl, fun base _ _ => (ok_law T).at F⟩
end K03
open PySem PySem.W PySem.Calls PyProof.Rows
theorem PySem.Challenge.cw_modeltrials_k03_whole_numbers_between_tw_holds : PySem.Challenge.rw_modeltrials_k03_whole_numbers_between_tw.Holds := by
  w_on; o_law
  refine HandSHeadRun.head_any (r := OpenLaw.row PySem.Challenge.rw_modeltrials_k03_whole_numbers_between_tw) (q := view (OpenLaw.row PySem.Challenge.rw_modeltrials_k03_whole_numbers_between_tw).prog [58]) (H := K03.hk) (ob := K03.ob) (M := 8000) (loose := K03.looseAll) (d := HandSHeadRun.topDef (OpenLaw.row PySem.Challenge.rw_modeltrials_k03_whole_numbers_between_tw).prog 58) (kwd := []) K03.ob_eq
    (by kernel_rfl) (fun s => by kernel_rfl) K03.run (by kernel_rfl) (by kernel_rfl) (by kernel_rfl) (by rfl) (by first | assumption | decide +kernel) (by decide +kernel) ⟨rfl, rfl, rfl, rfl, rfl, by decide +kernel⟩ ?hw ?hc
  case hw => w_witness2
  case hc =>
    refine My.walk_G (l := PySem.Challenge.rw_modeltrials_k03_whole_numbers_between_tw) (n := 63) (k := 9) (x := "script") rfl (by decide) (by kernel_rfl) ⟨rfl, by decide, by decide⟩ ?F
    intro w mg fa h Y G hmg0
    obtain ⟨K, KX, c, x⟩ := Y
    have hmg : mg ("law" : PySem.Str) = some (.ref fa) := by
      have e : (HandSHeadRun.topDef (OpenLaw.row PySem.Challenge.rw_modeltrials_k03_whole_numbers_between_tw).prog 58).name = ("law" : PySem.Str) := by kernel_rfl
      rw [← e]
      exact hmg0
    obtain ⟨fd, hb, hF⟩ := K03.facts (P := (PySem.Challenge.rw_modeltrials_k03_whole_numbers_between_tw).prog) (w := w) KX G hmg c x
    exact ⟨K, fd, My.spLaw K, KX, hb, fun H a ns hl _ hS => ⟨a, ns, rfl, hS, by omega, fun _ _ => rfl⟩, hF⟩
