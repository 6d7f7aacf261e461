import PyProof.Rows.All
import Wide.All
import OpenK.AllK
import Wide.FinOn
import HandS.ForMost
import HandS.ForExc
import HandS.TryMany
import HandS.ExcField
import HandS.Zip
import HandS.FStr
import HandS.TupAny
import HandS.Wide
import KE.DataEq
import KE.DataCmp
import KE.SortData
import KE.DataFind
import KE.DataIsa
import KE.DataMinMax
import KE.DataAny
import PyProof.ReprRoads
import HandS.TupMul
import HandS.TupLe
import HandS.RaiseMore
import HandS.WordsExc
import HandS.Defaults
import HandS.HeadHook2
import HandS.Walk
import KE.GoesEnum
import KE.GoesMore
import HandS.ExcInit
import HandS.Ends
import HandS.HeadEnd
import HandS.TryOnly
import HandS.Small
import HandS.HeadHook4
import HandS.Head0
import HandS.Head1
import HandS.Head2
import HandS.Text
import HandS.StrMore
import PyProof.ListStr
import HandS.Conv
import HandS.DeepEq
import HandS.OwnEq
import HandS.Dict
import KE.KIntText
import PyProof.StrLawsTight
import PyProof.StrLawsChain
import PyProof.StrLawsFirst
import PyProof.Rows.StrCase
import PySem.Challenge.RW_agehalls_k03_whole_bags_written_and_read
section
set_option Elab.async false
set_option linter.all false
set_option maxRecDepth 100000
set_option maxHeartbeats 4000000
namespace PL
open PySem PySem.Spec PyProof.Rows L2
abbrev Fg := PySem.W.Frag
abbrev D := PyData
abbrev AP := Addr → Prop

/-! ### what a value stands for, no owned object being met -/
/-- a list of the module -/
def KL (K : Fg) (a : Addr) (xs : List V) : Prop := ∃ (its : List Value) (n : Nat), K.lookup a = some { cls := .type "list", data := .seq its.toArray n } ∧ its.length ≤ sizeLine ∧ Vals xs its
/-- a list that may be read off exactly -/
def LAt (K : Fg) (H : Hp) (a : Addr) (xs : List V) : Prop := Rd H a (.lst xs) ∨ KL K a xs
def WL (K : Fg) (W : AP) (H : Hp) (a : Addr) (xs : List V) : Prop := (¬ W a ∧ Rd H a (.lst xs)) ∨ KL K a xs
/-- a tuple of the module -/
def KT (K : Fg) (a : Addr) (xs : List V) : Prop := ∃ (o : Obj) (its : Array Value) (n : Nat), K.lookup a = some o ∧ o.dict = none ∧ o.cls = .type "tuple" ∧ o.data = .seq its n ∧ its.size ≤ sizeLine ∧ Vals xs its.toList
def FzT (o : HO) (xs : List V) : Prop := ∃ b : Obj, b.dict = none ∧ o = .frz b (.tup xs)
def WT (K : Fg) (W : AP) (H : Hp) (a : Addr) (xs : List V) : Prop := (¬ W a ∧ ∃ o, H a = some o ∧ FzT o xs) ∨ KT K a xs
theorem WL.sq {K : Fg} {W : AP} {H : Hp} {a : Addr} {xs : List V} (h : WL K W H a xs) : SqL K H a xs := by
  rcases h with ⟨_, h⟩ | ⟨its, n, h1, h2, h3⟩
  · exact .inl h
  · exact .inr ⟨_, its.toArray, n, h1, rfl, rfl, rfl, by rw [List.size_toArray]; exact h2, by simpa using h3⟩
theorem WL.lat {K : Fg} {W : AP} {H : Hp} {a : Addr} {xs : List V} (h : WL K W H a xs) : LAt K H a xs := h.imp (·.2) id
theorem WT.sq {K : Fg} {W : AP} {H : Hp} {a : Addr} {xs : List V} (h : WT K W H a xs) : SqT K H a xs := by
  rcases h with ⟨_, o, h, b, _, rfl⟩ | ⟨o, its, n, h1, _, h2, h3, h4, h5⟩
  · exact .inl (.inr ⟨b, h⟩)
  · exact .inr ⟨o, its, n, h1, h2, h3, h4, h5⟩
mutual
inductive Rep (K : Fg) (W : AP) (H : Hp) : V → D → Prop
  | non : Rep K W H .non .none
  | bl (b : Bool) : Rep K W H (.bl b) (.bool b)
  | int (i : Int) : Rep K W H (.int i) (.int i)
  | str (x : Str) : Rep K W H (.str x) (.str x)
  | lst {a : Addr} {xs : List V} {ds : List D} : WL K W H a xs → Reps K W H xs ds → Rep K W H (.ref a) (.list ds)
  | tup {a : Addr} {xs : List V} {ds : List D} : WT K W H a xs → Reps K W H xs ds → Rep K W H (.ref a) (.tuple ds)
  | dct {a : Addr} {kvs : List (Key × V)} {ds : List (D × D)} : ¬ W a → H a = some (.dK kvs) → RepKv K W H kvs ds → Rep K W H (.ref a) (.dict ds)
inductive Reps (K : Fg) (W : AP) (H : Hp) : List V → List D → Prop
  | nil : Reps K W H [] []
  | cons {v : V} {vs : List V} {d : D} {ds : List D} : Rep K W H v d → Reps K W H vs ds → Reps K W H (v :: vs) (d :: ds)
inductive RepKv (K : Fg) (W : AP) (H : Hp) : List (Key × V) → List (D × D) → Prop
  | nil : RepKv K W H [] []
  | cons {k : Key} {v : V} {kvs : List (Key × V)} {d e : D} {ds : List (D × D)} : Rep K W H (kV k) d → Rep K W H v e → RepKv K W H kvs ds → RepKv K W H ((k, v) :: kvs) ((d, e) :: ds)
end

/-- the heap goes on: what is not owned stays, what is owned later was owned or is new -/
structure Evo (W : AP) (H : Hp) (W' : AP) (H' : Hp) : Prop where
  own : ∀ b, W' b → W b ∨ H b = none
  kp : ∀ b o, ¬ W b → H b = some o → H' b = some o
theorem Evo.refl (W : AP) (H : Hp) : Evo W H W H := ⟨fun _ h => .inl h, fun _ _ _ h => h⟩
theorem Evo.trans {W W1 W2 : AP} {H H1 H2 : Hp} (a : Evo W H W1 H1) (b : Evo W1 H1 W2 H2) : Evo W H W2 H2 := by
  refine ⟨fun c h => ?_, fun c o n e => b.kp c o (fun w => ?_) (a.kp c o n e)⟩
  · rcases b.own c h with h | h
    · exact a.own c h
    · by_cases w : W c
      · exact .inl w
      · cases e : H c with
        | none => exact .inr rfl
        | some o => rw [a.kp c o w e] at h; cases h
  · rcases a.own c w with h | h
    · exact n h
    · rw [h] at e; cases e
theorem Evo.of_same {W : AP} {H H' : Hp} (s : Same H H') : Evo W H W H' := ⟨fun _ h => .inl h, fun b o _ e => s b o e⟩
theorem Evo.not {W W' : AP} {H H' : Hp} (e : Evo W H W' H') {a : Addr} {o : HO} (n : ¬ W a) (h : H a = some o) : ¬ W' a := fun w => by
  rcases e.own a w with z | z
  · exact n z
  · rw [z] at h; cases h

theorem WL.evo {K : Fg} {W W' : AP} {H H' : Hp} {a : Addr} {xs : List V} (e : Evo W H W' H') (h : WL K W H a xs) : WL K W' H' a xs := by
  rcases h with ⟨n, z | ⟨o, z⟩⟩ | h
  · exact .inl ⟨e.not n z, .inl (e.kp _ _ n z)⟩
  · exact .inl ⟨e.not n z, .inr ⟨o, e.kp _ _ n z⟩⟩
  · exact .inr h
theorem WT.evo {K : Fg} {W W' : AP} {H H' : Hp} {a : Addr} {xs : List V} (e : Evo W H W' H') (h : WT K W H a xs) : WT K W' H' a xs := by
  rcases h with ⟨n, o, z, h⟩ | h
  · exact .inl ⟨e.not n z, o, e.kp _ _ n z, h⟩
  · exact .inr h
mutual
theorem Rep.evo {K : Fg} {W W' : AP} {H H' : Hp} (e : Evo W H W' H') : ∀ (d : D) (v : V), Rep K W H v d → Rep K W' H' v d
  | .none, _, h => by cases h; exact .non
  | .bool b, _, h => by cases h; exact .bl b
  | .int i, _, h => by cases h; exact .int i
  | .str x, _, h => by cases h; exact .str x
  | .list ds, _, h => by
    cases h with
    | lst hs hr => exact .lst (hs.evo e) (Reps.evo e ds _ hr)
  | .tuple ds, _, h => by
    cases h with
    | tup hs hr => exact .tup (hs.evo e) (Reps.evo e ds _ hr)
  | .dict ds, _, h => by
    cases h with
    | dct n hs hr => exact .dct (e.not n hs) (e.kp _ _ n hs) (RepKv.evo e ds _ hr)
theorem Reps.evo {K : Fg} {W W' : AP} {H H' : Hp} (e : Evo W H W' H') : ∀ (ds : List D) (vs : List V), Reps K W H vs ds → Reps K W' H' vs ds
  | [], _, h => by cases h; exact .nil
  | d :: ds, _, h => by
    cases h with
    | cons a b => exact .cons (Rep.evo e d _ a) (Reps.evo e ds _ b)
theorem RepKv.evo {K : Fg} {W W' : AP} {H H' : Hp} (e : Evo W H W' H') : ∀ (ds : List (D × D)) (kvs : List (Key × V)), RepKv K W H kvs ds → RepKv K W' H' kvs ds
  | [], _, h => by cases h; exact .nil
  | (d, e') :: ds, _, h => by
    cases h with
    | cons a b c => exact .cons (Rep.evo e d _ a) (Rep.evo e e' _ b) (RepKv.evo e ds _ c)
end

theorem Reps.length {K : Fg} {W : AP} {H : Hp} : ∀ {vs : List V} {ds : List D}, Reps K W H vs ds → vs.length = ds.length
  | _, _, .nil => rfl
  | _, _, .cons _ r => by rw [List.length_cons, List.length_cons, Reps.length r]
theorem Reps.get {K : Fg} {W : AP} {H : Hp} : ∀ {vs : List V} {ds : List D}, Reps K W H vs ds → ∀ {i : Nat} {v : V}, vs[i]? = some v → ∃ d, ds[i]? = some d ∧ Rep K W H v d
  | _, _, .nil, i, v, h => by simp at h
  | _, _, .cons a r, 0, v, h => by simp at h; subst h; exact ⟨_, rfl, a⟩
  | _, _, .cons a r, i + 1, v, h => by
    obtain ⟨d, h1, h2⟩ := Reps.get r (i := i) (v := v) (by simpa using h)
    exact ⟨d, by simpa using h1, h2⟩
theorem Reps.get' {K : Fg} {W : AP} {H : Hp} : ∀ {vs : List V} {ds : List D}, Reps K W H vs ds → ∀ {i : Nat} {d : D}, ds[i]? = some d → ∃ v, vs[i]? = some v ∧ Rep K W H v d
  | _, _, .nil, i, v, h => by simp at h
  | _, _, .cons a r, 0, v, h => by simp at h; subst h; exact ⟨_, rfl, a⟩
  | _, _, .cons a r, i + 1, v, h => by
    obtain ⟨d, h1, h2⟩ := Reps.get' r (i := i) (d := v) (by simpa using h)
    exact ⟨d, by simpa using h1, h2⟩
theorem Reps.append {K : Fg} {W : AP} {H : Hp} : ∀ {vs ws : List V} {ds es : List D}, Reps K W H vs ds → Reps K W H ws es → Reps K W H (vs ++ ws) (ds ++ es)
  | _, _, _, _, .nil, s => s
  | _, _, _, _, .cons a r, s => .cons a (Reps.append r s)
theorem Reps.take {K : Fg} {W : AP} {H : Hp} : ∀ {vs : List V} {ds : List D} (n : Nat), Reps K W H vs ds → Reps K W H (vs.take n) (ds.take n)
  | _, _, 0, _ => .nil
  | _, _, _ + 1, .nil => .nil
  | _, _, n + 1, .cons a r => .cons a (Reps.take n r)
theorem Reps.drop {K : Fg} {W : AP} {H : Hp} : ∀ {vs : List V} {ds : List D} (n : Nat), Reps K W H vs ds → Reps K W H (vs.drop n) (ds.drop n)
  | _, _, 0, r => r
  | _, _, _ + 1, .nil => .nil
  | _, _, n + 1, .cons a r => Reps.drop n r
theorem Reps.set {K : Fg} {W : AP} {H : Hp} {v : V} {d : D} (x : Rep K W H v d) : ∀ {vs : List V} {ds : List D} (n : Nat), Reps K W H vs ds → Reps K W H (vs.set n v) (ds.set n d)
  | _, _, _, .nil => .nil
  | _, _, 0, .cons a r => .cons x r
  | _, _, n + 1, .cons a r => .cons a (Reps.set x n r)

/-! ### read off the model's heap -/
/-- the table of modules is a written object of the text's frag -/
def SysK (K : Fg) : Prop := ∃ o, K.lookup sysModules = some o ∧ o.cls = .type "dict"
section
variable {X : Cx} {pins : List (Addr × Obj)} {σ : L2.St} {H : Hp} {s : Shared} {W : AP}
mutual
theorem Rep.reads (I : Inv X pins σ H s) : ∀ (d : D) (v : V) (u : Value), Rep X.K W H v d → RelV v u → ∃ as, Reads s.heap u d as ∧ (SysK X.K → sysModules ∉ as)
  | .none, _, _, h, r => by
    cases h; cases r
    exact ⟨_, Reads.none, fun _ z => nomatch z⟩
  | .bool b, _, _, h, r => by
    cases h; cases r
    exact ⟨_, Reads.bool b, fun _ z => nomatch z⟩
  | .int i, _, _, h, r => by
    cases h; obtain ⟨t, rfl⟩ := r
    exact ⟨_, Reads.int i t, fun _ z => nomatch z⟩
  | .str x, _, _, h, r => by
    cases h; obtain ⟨t, rfl⟩ := r
    exact ⟨_, Reads.str x t, fun _ z => nomatch z⟩
  | .list ds, _, _, h, r => by
    cases h with
    | lst hs ha =>
      cases r
      obtain ⟨its, rv, ⟨o, n, ho, hc, _, hd⟩, _⟩ := I.list hs.sq
      obtain ⟨as, hr, hm⟩ := Reps.reads I ds _ its ha rv
      refine ⟨_, Reads.list ho hc hd hr, fun sk z => ?_⟩
      rcases List.mem_cons.mp z with z | z
      · obtain ⟨o', hk, ho'⟩ := sk
        have e := I.kIn _ _ hk
        rw [z, ho] at e
        cases e
        rw [hc] at ho'
        exact absurd ho' (by decide)
      · exact hm sk z
  | .tuple ds, _, _, h, r => by
    cases h with
    | tup hs ha =>
      cases r
      obtain ⟨its, rv, ⟨o, ho, hc, n, hd⟩, _⟩ := I.tuple hs.sq
      obtain ⟨as, hr, hm⟩ := Reps.reads I ds _ its ha rv
      exact ⟨_, Reads.tuple ho hc hd hr, hm⟩
  | .dict ds, _, _, h, r => by
    cases h with
    | dct _ hs ha =>
      cases r
      obtain ⟨_, hne, vs, rk, o, es, ep, ho, hx, hd, _, hp, _⟩ := I.hok _ _ hs
      obtain ⟨as, bs, h1, h2, m1, m2⟩ := RepKv.reads I ds _ vs es.toList ha rk hp
      refine ⟨_, Reads.dict ho hx.1 hd h1 h2, fun sk z => ?_⟩
      rcases List.mem_append.mp z with z | z
      · rcases List.mem_cons.mp z with z | z
        · rw [← z] at hne
          simp at hne
        · exact m1 sk z
      · exact m2 sk z
theorem Reps.reads (I : Inv X pins σ H s) : ∀ (ds : List D) (vs : List V) (us : List Value), Reps X.K W H vs ds → Vals vs us → ∃ as, ReadsAll s.heap us ds as ∧ (SysK X.K → sysModules ∉ as)
  | [], _, _, h, r => by
    cases h; cases r
    exact ⟨_, ReadsAll.nil, fun _ z => nomatch z⟩
  | d :: ds, _, _, h, r => by
    cases h with
    | cons h1 h2 =>
      cases r with
      | cons r1 r2 =>
        obtain ⟨as, q1, m1⟩ := Rep.reads I d _ _ h1 r1
        obtain ⟨bs, q2, m2⟩ := Reps.reads I ds _ _ h2 r2
        exact ⟨_, ReadsAll.cons q1 q2, fun sk z => (List.mem_append.mp z).elim (m1 sk) (m2 sk)⟩
theorem RepKv.reads (I : Inv X pins σ H s) : ∀ (ds : List (D × D)) (kvs : List (Key × V)) (vs : List (Key × Value)) (es : List DictEntry), RepKv X.K W H kvs ds → KV kvs vs → Pairs (mixKind X.prog X.w) es vs →
    ∃ as bs, ReadsAll s.heap (es.map (·.key)) (ds.map (·.1)) as ∧ ReadsAll s.heap (es.map (·.val)) (ds.map (·.2)) bs ∧ (SysK X.K → sysModules ∉ as) ∧ (SysK X.K → sysModules ∉ bs)
  | [], _, _, _, h, r, p => by
    cases h; cases r; cases p
    exact ⟨_, _, ReadsAll.nil, ReadsAll.nil, (fun _ z => nomatch z), (fun _ z => nomatch z)⟩
  | (d, e) :: ds, _, _, _, h, r, p => by
    cases h with
    | cons h1 h2 h3 =>
      rename_i k v kvs
      cases r with
      | cons r1 r2 =>
        cases p with
        | cons p1 p2 p3 =>
          rename_i q vs' en es'
          obtain ⟨e1, rv⟩ := r1
          have rk : RelV (kV k) en.key := by
            have p1' : keyIs k en.key = true := by
              have e1' : k = q.1 := e1
              rw [e1']
              exact p1
            rcases keyIs_shape p1' with ⟨i, t, rfl, z⟩ | ⟨x, t, rfl, z⟩
            · exact ⟨t, z⟩
            · exact ⟨t, z⟩
          obtain ⟨a1, q1, m1⟩ := Rep.reads I d _ _ h1 rk
          obtain ⟨a2, q2, m2⟩ := Rep.reads I e _ _ h2 rv
          obtain ⟨as, bs, q3, q4, m3, m4⟩ := RepKv.reads I ds _ _ _ h3 r2 p3
          refine ⟨_, _, ReadsAll.cons q1 q3, ReadsAll.cons (by show Reads s.heap en.val e a2; rw [p2]; exact q2) q4, fun sk z => (List.mem_append.mp z).elim (m1 sk) (m3 sk), fun sk z => (List.mem_append.mp z).elim (m2 sk) (m4 sk)⟩
end
theorem LAt.ok {a : Addr} {xs : List V} (I : Inv X pins σ H s) (h : LAt X.K H a xs) : xs.length ≤ sizeLine ∧ ∃ (its : List Value) (n : Nat), Vals xs its ∧ s.heap.get? a = some { cls := .type "list", data := .seq its.toArray n } := by
  rcases h with h | ⟨its, n, h1, h2, h3⟩
  · exact h.ok I.hok
  · exact ⟨by rw [h3.length]; exact h2, its, n, h3, I.kIn _ _ h1⟩
/-- a tuple is an object without a dict of its own -/
theorem WT.at {a : Addr} {xs : List V} (I : Inv X pins σ H s) (h : WT X.K W H a xs) : ∃ ob, s.heap.get? a = some ob ∧ ob.cls = .type "tuple" ∧ ob.dict = none := by
  rcases h with ⟨_, o, h, b, hd, rfl⟩ | ⟨o, its, n, h1, hd, h2, _⟩
  · obtain ⟨q1, _, its, _, o, q2, q3, _⟩ := I.hok _ _ h
    rw [q1] at q2
    cases q2
    exact ⟨b, q1, q3, hd⟩
  · exact ⟨o, I.kIn _ _ h1, h2, hd⟩
/-- a new tuple -/
theorem laidT {xs : List V} {us : List Value} {t' : Nat} (I : Inv X pins σ H s) (r : Vals xs us) (z : xs.length ≤ sizeLine) :
    ∃ o, FzT o xs ∧ Inv X pins σ (upd H s.heap.objs.size o) { s with heap := s.heap.push { cls := .type "tuple", data := .seq us.toArray }, toks := t' } ∧ H s.heap.objs.size = none :=
  ⟨.frz { cls := .type "tuple", data := .seq us.toArray } (.tup xs), ⟨_, rfl, rfl⟩, I.laid (t' := t') (fun b u e => Heap.get?_push_of_some _ e) (Nat.le_refl _) ⟨Heap.get?_push_size _ rfl, z, us, r, IsTup.new _ _⟩, I.fresh⟩
end

/-! ### what makes tuples -/
section
variable {X : Cx}
theorem pf_tup {es : List Expr} {t : TA} {x1} {pos : Pos} (h : PA X es t) : PE X (.Tuple es x1 pos) (fun σ H Q => t σ H fun xs H' => xs.length ≤ sizeLine ∧ ∀ p o, H' p = none → FzT o xs → Q (.ref p) (upd H' p o)) := by
  refine ⟨fun pins s σ H Q I hq => ?_⟩
  refine wpAny_Tuple_spliced (thn (h.run pos pins s σ H _ I hq) fun us s1 ⟨xs, H1, I1, r, z, q⟩ => ⟨by rw [← r.length]; exact z, ?_⟩)
  obtain ⟨o, ho, I2, hf⟩ := laidT (t' := s1.toks) I1 r z
  exact ⟨.ref s1.heap.objs.size, _, I2, rfl, q _ _ hf ho⟩
theorem call_tupleF : CallR X (.type "tuple") (fun xs H Q => ∃ p ys, xs = [.ref p] ∧ ((SqL X.K H p ys ∧ ∀ l o, H l = none → FzT o ys → Q (.ref l) (upd H l o)) ∨ (SqT X.K H p ys ∧ Q (.ref p) H))) := by
  intro pins s σ H xs us Q I r h
  obtain ⟨p, ys, rfl, h⟩ := h
  obtain ⟨u, rfl, rx⟩ := vals1 r
  cases rx
  rcases h with ⟨hq, q⟩ | ⟨hq, q⟩
  · obtain ⟨its, r', pl, hz⟩ := I.list hq
    have hlen := r'.length
    refine call_tuple_list pl.isList (fun h' kp => ?_) (by simp only [List.size_toArray] <;> omega)
    have I1 : Inv X pins σ H { s with heap := h' } := I.kept (t' := s.toks) kp
    obtain ⟨o, ho, I2, hf⟩ := laidT (t' := s.toks) I1 r' hz
    exact ⟨.ref h'.objs.size, _, I2, rfl, q _ _ hf ho⟩
  · obtain ⟨its, r', pl, hz⟩ := I.tuple hq
    exact call_tuple_same pl ⟨.ref p, H, I, rfl, q⟩
theorem op_catF : OpR X (binaryOp .Add) (fun x y H Q => ∃ a b xs ys, x = .ref a ∧ y = .ref b ∧ SqT X.K H a xs ∧ SqT X.K H b ys ∧ xs.length + ys.length ≤ sizeLine ∧
    (xs = [] → Q (.ref b) H) ∧ (xs ≠ [] → ys = [] → Q (.ref a) H) ∧ (xs ≠ [] → ys ≠ [] → ∀ p o, H p = none → FzT o (xs ++ ys) → Q (.ref p) (upd H p o))) := by
  intro pins s σ H x y v u Q I rx ry h
  obtain ⟨a, b, xs, ys, rfl, rfl, ha, hb, hz, q0, q1, q2⟩ := h
  cases rx
  cases ry
  obtain ⟨its, r1, p1, _⟩ := I.tuple ha
  obtain ⟨its2, r2, p2, _⟩ := I.tuple hb
  by_cases hx : xs = []
  · subst hx
    cases r1
    exact cat_tup0 p1 p2 ⟨.ref b, H, I, rfl, q0 rfl⟩
  · refine HT.cat_tup p1 p2 (fun z => hx (r1.nil_iff.mp z)) (fun z => ⟨.ref a, H, I, rfl, q1 hx (r2.nil_iff.mp z)⟩) (fun z => ?_) (by rw [← r1.length, ← r2.length]; exact hz)
    obtain ⟨o, ho, I2, hf⟩ := laidT (t' := s.toks) I (r1.append r2) (by rw [List.length_append]; exact hz)
    exact ⟨.ref s.heap.objs.size, _, I2, rfl, q2 hx (fun w => z (r2.nil_iff.mpr w)) _ _ hf ho⟩
theorem sl_tupF : SlR X (fun x lo hi H Q => ∃ a xs, x = .ref a ∧ SqT X.K H a xs ∧ (HT.sIx xs.length 0 lo = 0 ∧ HT.sIx xs.length xs.length hi = xs.length → Q (.ref a) H) ∧
    (¬ (HT.sIx xs.length 0 lo = 0 ∧ HT.sIx xs.length xs.length hi = xs.length) → ∀ p o, H p = none → FzT o (cutV xs lo hi) → Q (.ref p) (upd H p o))) := by
  intro pins s σ H x v vl vu lo hi sl Q I rx hs pl pu h
  obtain ⟨a, xs, rfl, hx, q1, q2⟩ := h
  cases rx
  obtain ⟨its, r, ht, hz⟩ := I.tuple hx
  have hlen : its.toArray.size = xs.length := by rw [List.size_toArray]; exact r.length.symm
  refine ⟨"tuple", _, PyProof.Rows.slot_tuple_getitem.lookup, ht.typeIs, ?_⟩
  by_cases hw : HT.sIx xs.length 0 lo = 0 ∧ HT.sIx xs.length xs.length hi = xs.length
  · exact getItem_tuple_whole ht hs pl pu (by rw [hlen]; exact hw) ⟨.ref a, H, I, rfl, q1 hw⟩
  · refine HT.getItem_tuple_cut ht hs pl pu (by rw [hlen]; exact hw) ?_ (by rw [hlen]; exact hz)
    rw [hlen]
    obtain ⟨o, ho, I2, hf⟩ := laidT (t' := s.toks) (us := ((its.drop (HT.sIx xs.length 0 lo)).take (HT.sIx xs.length xs.length hi - HT.sIx xs.length 0 lo))) (xs := cutV xs lo hi) I ((r.drop (HT.sIx xs.length 0 lo)).take _) (Nat.le_trans (cutV_length xs lo hi) hz)
    exact ⟨.ref s.heap.objs.size, _, I2, rfl, q2 hw _ _ hf ho⟩
end
end PL
end

section
set_option Elab.async false
set_option linter.all false
set_option maxRecDepth 100000
set_option maxHeartbeats 4000000
namespace PL
open PySem PySem.Spec PyProof.Rows L2
/-! ### a tuple, so many times -/
theorem mulW_same (l : Addr) (its : Array Value) (n : Nat) (dd : Option Addr) (sl : Array (Option Value)) (x : Int) (u : Tok) (c0 : (decide (x < -(2 ^ 63)) || decide (x ≥ 2 ^ 63)) = false)
    (c1 : (its.isEmpty || x == 1) = true) :
    Meets (Builtin.«tuple.__mul__» ⟨[.ref l, .int x u], []⟩) (fun _ R s => s.heap.get? l = some { cls := .type "tuple", dict := dd, data := .seq its n, slots := sl } ∧ R (.ok (.ret (Value.ref l))) s) :=
  .of_wp fun prog w A R s h => by
    obtain ⟨hp, g, d, tk, os⟩ := s
    obtain ⟨hl, h⟩ := h
    have f1 := AutoSeq1.idx_int
    wp_walk using wpAny_loadPart' hl
    repeat (first
      | (refine wpAny_ite_false (decide_eq_false (by rw [c0]; exact Bool.false_ne_true)) ?_; wp_walk using wpAny_loadPart' hl)
      | (refine wpAny_ite_true (decide_eq_true c1) ?_; wp_walk using wpAny_loadPart' hl))
    exact ⟨_, rfl, h⟩
theorem mulW_none (l : Addr) (its : Array Value) (n : Nat) (dd : Option Addr) (sl : Array (Option Value)) (x : Int) (u : Tok) (c0 : (decide (x < -(2 ^ 63)) || decide (x ≥ 2 ^ 63)) = false)
    (c1 : (its.isEmpty || x == 1) = false) (c2 : (decide (x ≤ 0) || its.isEmpty) = true) :
    Meets (Builtin.«tuple.__mul__» ⟨[.ref l, .int x u], []⟩) (fun _ R s => s.heap.get? l = some { cls := .type "tuple", dict := dd, data := .seq its n, slots := sl } ∧
      R (.ok (.ret (Value.ref s.heap.objs.size))) { s with heap := s.heap.push { cls := Value.type "tuple", data := Data.seq #[] }, toks := s.toks }) :=
  .of_wp fun prog w A R s h => by
    obtain ⟨hp, g, d, tk, os⟩ := s
    obtain ⟨hl, h⟩ := h
    have f1 := AutoSeq1.idx_int
    wp_walk using wpAny_loadPart' hl
    repeat (first
      | (refine wpAny_ite_false (decide_eq_false (by rw [c0]; exact Bool.false_ne_true)) ?_; wp_walk using wpAny_loadPart' hl)
      | (refine wpAny_ite_false (decide_eq_false (by rw [c1]; exact Bool.false_ne_true)) ?_; wp_walk using wpAny_loadPart' hl)
      | (refine wpAny_ite_true (decide_eq_true c2) ?_; wp_walk using wpAny_loadPart' hl))
    exact ⟨_, rfl, h⟩
section
variable {X : Cx}
def rRepF (K : Fg) : R2 := fun x y H Q => ∃ l k xs, x = .ref l ∧ y = .int k ∧ SqT K H l xs ∧ -1000 ≤ k ∧ k ≤ 1000 ∧ xs.length ≤ 1000 ∧
  ((xs = [] ∨ k = 1) → Q (.ref l) H) ∧ (¬ (xs = [] ∨ k = 1) → ∀ p o, H p = none → FzT o (List.replicate k.toNat xs).flatten → Q (.ref p) (upd H p o))
theorem op_repF : OpR X (binaryOp .Mult) (rRepF X.K) := by
  intro pins s σ H x y v u Q I rx ry ⟨l, k, xs, hx, hy, hT, k1, k2, hz, q1, q2⟩
  subst hx; subst hy
  cases rx
  obtain ⟨t, rfl⟩ := ry
  obtain ⟨its, r, ⟨⟨cls, dd, data, sl⟩, ho, hc, n, hd⟩, hs⟩ := I.tuple hT
  simp only at hc hd
  subst hc hd
  have len := r.length
  have emp : its.toArray.isEmpty = decide (xs = []) := by
    cases r with
    | nil => rfl
    | cons _ _ => rfl
  have big : (decide (k < -(2 ^ 63)) || decide (k ≥ 2 ^ 63)) = false := by
    rw [Bool.or_eq_false_iff]
    exact ⟨decide_eq_false (by omega), decide_eq_false (by omega)⟩
  by_cases h1 : xs = [] ∨ k = 1
  · have c1 : (its.toArray.isEmpty || k == 1) = true := by
      rw [emp, Bool.or_eq_true]
      exact h1.imp (fun z => decide_eq_true z) (fun z => beq_iff_eq.mpr z)
    exact wpAny_binaryOp_repeat_ref (T := "tuple") (U := "int") (by decide) ⟨_, ho, rfl⟩ (fun s' => typeIs_int s' k t) noFill_tuple_mul F.fills_int_mul F.slot_int_rmul repeat_tuple F.slot_int_index.lookup
      (call_meets F.slot_int_rmul (typeIs_int s k t) F.entry_int_rmul (F.args_int_rmul_2 _ _) (int_rmul_tuple k t l its.toArray n dd sl)
        ⟨ho, rfl, ⟨_, ho, rfl⟩, call_meets F.slot_tuple_mul ⟨_, ho, rfl⟩ F.entry_tuple_mul (F.args_tuple_mul_2 _ _) (mulW_same l its.toArray n dd sl k t big c1) ⟨ho, .ref l, H, I, rfl, q1 h1⟩⟩)
  · have c1 : (its.toArray.isEmpty || k == 1) = false := by
      rw [emp, Bool.or_eq_false_iff]
      exact ⟨decide_eq_false fun z => h1 (.inl z), beq_eq_false_iff_ne.mpr fun z => h1 (.inr z)⟩
    have ne : its.toArray.isEmpty = false := (Bool.or_eq_false_iff.mp c1).1
    by_cases h2 : k ≤ 0
    · have c2 : (decide (k ≤ 0) || its.toArray.isEmpty) = true := by rw [decide_eq_true h2]; rfl
      obtain ⟨o, fo, I2, hf⟩ := laidT (t' := s.toks) (us := []) I .nil (Nat.zero_le _)
      have e0 : (List.replicate k.toNat xs).flatten = [] := by
        rw [Int.toNat_of_nonpos h2]
        rfl
      exact wpAny_binaryOp_repeat_ref (T := "tuple") (U := "int") (by decide) ⟨_, ho, rfl⟩ (fun s' => typeIs_int s' k t) noFill_tuple_mul F.fills_int_mul F.slot_int_rmul repeat_tuple F.slot_int_index.lookup
        (call_meets F.slot_int_rmul (typeIs_int s k t) F.entry_int_rmul (F.args_int_rmul_2 _ _) (int_rmul_tuple k t l its.toArray n dd sl)
          ⟨ho, rfl, ⟨_, ho, rfl⟩, call_meets F.slot_tuple_mul ⟨_, ho, rfl⟩ F.entry_tuple_mul (F.args_tuple_mul_2 _ _) (mulW_none l its.toArray n dd sl k t big c1 c2) ⟨ho, .ref s.heap.objs.size, _, I2, rfl, q2 h1 _ _ hf (by rw [e0]; exact fo)⟩⟩)
    · have c2 : (decide (k ≤ 0) || its.toArray.isEmpty) = false := by rw [decide_eq_false h2, ne]; rfl
      have m1 : (List.replicate k.toNat its).flatten.length ≤ 1000000 := by
        rw [PyProof.Rows.lm_len_rep_flat, ← len]
        have a1 : k.toNat * xs.length ≤ 1000 * 1000 := Nat.mul_le_mul (by omega) hz
        omega
      have m2 : ((its.toArray.size : Nat) : Int) * k ≤ 1000000 := by
        rw [List.size_toArray, ← len]
        have a1 : ((xs.length : Nat) : Int) * k ≤ 1000 * k := Int.mul_le_mul_of_nonneg_right (by omega) (by omega)
        omega
      have c4 : Builtin.Tuple.tupleTooMany (((its.toArray.size : Nat) : Int) * k) = false := by
        unfold Builtin.Tuple.tupleTooMany
        exact decide_eq_false (by rw [sizeLine_eq]; omega)
      obtain ⟨o, fo, I2, hf⟩ := laidT (t' := s.toks) I (r.rep k.toNat) (by rw [(r.rep k.toNat).length, sizeLine_eq]; omega)
      have fin : EP X pins σ Q (.ref s.heap.objs.size) { s with heap := s.heap.push { cls := .type "tuple", data := .seq (List.foldl (fun x1 x2 => x1 ++ x2) #[] (List.replicate k.toNat its.toArray)) }, toks := s.toks } := by
        rw [size_rep]
        exact ⟨.ref s.heap.objs.size, _, I2, rfl, q2 h1 _ _ hf fo⟩
      exact wpAny_binaryOp_repeat_ref (T := "tuple") (U := "int") (by decide) ⟨_, ho, rfl⟩ (fun s' => typeIs_int s' k t) noFill_tuple_mul F.fills_int_mul F.slot_int_rmul repeat_tuple F.slot_int_index.lookup
        (call_meets F.slot_int_rmul (typeIs_int s k t) F.entry_int_rmul (F.args_int_rmul_2 _ _) (int_rmul_tuple k t l its.toArray n dd sl)
          ⟨ho, rfl, ⟨_, ho, rfl⟩, call_meets F.slot_tuple_mul ⟨_, ho, rfl⟩ F.entry_tuple_mul (F.args_tuple_mul_2 _ _) (tuple_mulW l its.toArray n dd sl k t big c1 c2 (by omega) c4 (by rw [size_rep, List.size_toArray, sizeLine_eq]; omega)) ⟨ho, fin⟩⟩)
end
end PL
end

section
set_option Elab.async false
set_option linter.all false
set_option maxRecDepth 100000
set_option maxHeartbeats 4000000
namespace PL
open PySem PySem.Spec PyProof.Rows L2

/-! ### slots, the ghost, the state -/
inductive Sl where
  | no
  | val (d : D)
  | own (ds : List D)
  | prs
  | exc (C f : Str) (x : D)
abbrev En := List Sl
structure Exc where
  cls : Str
  fld : Str
  arg : D
/-- an object that calls may change: what holds of it between calls -/
structure Prs where
  ok : Fg → AP → Hp → Addr → Prop
  evo : ∀ {K : Fg} {W W' : AP} {H H' : Hp} {a : Addr}, ok K W H a → (∀ b, W' b → W b ∨ H b = none) → (∀ b o, ¬ W b ∨ b = a → H b = some o → H' b = some o) → ok K W' H' a
  there : ∀ {K : Fg} {W : AP} {H : Hp} {a : Addr}, ok K W H a → ∃ o, H a = some o
structure Gh where
  mg : Str → Option Value
  H0 : Hp
  F : AP
  pa : Option Addr
  P : Prs
  Ew : En → Exc → Prop
  sui : Option (Addr × Value × Option Addr)
  hid : List (Addr × HO)
  Wb : AP
  Hb : Hp

def SlotOk (K : Fg) (g : Gh) (W : AP) (H : Hp) (o : Option (Option V)) : Sl → Prop
  | .no => True
  | .val d => ∃ v, o = some (some v) ∧ Rep K W H v d
  | .own ds => ∃ a xs, o = some (some (.ref a)) ∧ W a ∧ ¬ g.F a ∧ H a = some (.lst xs) ∧ Reps K W H xs ds
  | .prs => ∃ a, g.pa = some a ∧ o = some (some (.ref a))
  | .exc C f x => ∃ a dd v Ca, g.sui = some (a, .ref Ca, some dd) ∧ o = some (some (.ref a)) ∧ g.mg C = some (.ref Ca) ∧ ¬ W dd ∧ H dd = some (.xd [(f, v)]) ∧ Rep K W H v x

structure St (K : Fg) (g : Gh) (W : AP) (H : Hp) (σ : L2.St) (ρ : En) : Prop where
  same : ∀ b o, g.pa ≠ some b → g.H0 b = some o → H b = some o
  wF : ∀ b, g.F b → W b
  wN : ∀ b, W b → g.F b ∨ g.H0 b = none
  wH : ∀ b, W b → ∃ o, H b = some o
  pF : ∀ a, g.pa = some a → g.F a
  prs : ∀ a, g.pa = some a → g.P.ok K W H a
  len : ρ.length = σ.length
  sl : ∀ (i : Nat) (s : Sl), ρ[i]? = some s → SlotOk K g W H σ[i]? s
  ap : ∀ (i j : Nat) (a : Addr) (ds es : List D), i ≠ j → ρ[i]? = some (.own ds) → ρ[j]? = some (.own es) → σ[i]? = some (some (.ref a)) → σ[j]? ≠ some (some (.ref a))
  hid : ∀ p ∈ g.hid, W p.1 ∧ ¬ g.F p.1 ∧ H p.1 = some p.2
  hidA : ∀ p ∈ g.hid, ∀ (i : Nat) (ds : List D), ρ[i]? = some (.own ds) → σ[i]? ≠ some (some (.ref p.1))
  eb : Evo g.Wb g.Hb W H

theorem SlotOk.evo {K : Fg} {g : Gh} {W W' : AP} {H H' : Hp} {o : Option (Option V)} {s : Sl} (h : SlotOk K g W H o s) (e : Evo W H W' H')
    (ho : ∀ ds a, s = .own ds → o = some (some (.ref a)) → W a → ¬ g.F a → W' a ∧ H' a = H a) : SlotOk K g W' H' o s := by
  cases s with
  | no => trivial
  | val d => obtain ⟨v, h1, h2⟩ := h; exact ⟨v, h1, h2.evo e⟩
  | own ds =>
    obtain ⟨a, xs, h1, h2, h3, h4, h5⟩ := h
    obtain ⟨w, q⟩ := ho ds a rfl h1 h2 h3
    exact ⟨a, xs, h1, w, h3, by rw [q]; exact h4, h5.evo e⟩
  | prs => exact h
  | exc C f x =>
    obtain ⟨a, dd, v, Ca, h1, h2, h3, h4, h5, h6⟩ := h
    exact ⟨a, dd, v, Ca, h1, h2, h3, e.not h4 h5, e.kp _ _ h4 h5, h6.evo e⟩

section
variable {K : Fg} {g : Gh} {W W' : AP} {H H' : Hp} {σ : L2.St} {ρ : En}
/-- all that is tracked stays but the one that calls may change -/
theorem St.keep (S : St K g W H σ ρ) (k : ∀ b o, g.pa ≠ some b → H b = some o → H' b = some o) (p : ∀ a, g.pa = some a → g.P.ok K W H' a) : St K g W H' σ ρ ∧ Evo W H W H' := by
  have e : Evo W H W H' := ⟨fun _ h => .inl h, fun b o n h => k b o (fun z => n (S.wF _ (S.pF _ z))) h⟩
  refine ⟨⟨fun b o n h => k b o n (S.same b o n h), S.wF, S.wN, fun b h => ?_, S.pF, p, S.len, fun i s h => (S.sl i s h).evo e fun ds a _ _ w nf => ⟨w, ?_⟩, S.ap, fun q hq => ?_, S.hidA, S.eb.trans e⟩, e⟩
  · obtain ⟨o, ho⟩ := S.wH b h
    by_cases z : g.pa = some b
    · exact g.P.there (p b z)
    · exact ⟨o, k b o z ho⟩
  · obtain ⟨o, ho⟩ := S.wH a w
    rw [ho, k a o (fun z => nf (S.pF _ z)) ho]
  · obtain ⟨h1, h2, h3⟩ := S.hid q hq
    exact ⟨h1, h2, k _ _ (fun z => h2 (S.pF _ z)) h3⟩
theorem St.same_ (S : St K g W H σ ρ) (k : Same H H') : St K g W H' σ ρ ∧ Evo W H W H' :=
  S.keep (fun b o _ h => k b o h) fun a z => g.P.evo (S.prs a z) (fun _ h => .inl h) fun b o _ h => k b o h
theorem St.fresh (S : St K g W H σ ρ) {p : Addr} (h : H p = none) : ¬ W p := fun w => by
  obtain ⟨o, ho⟩ := S.wH p w
  rw [h] at ho; cases ho
end

/-- stands for d, an owned list at the top let -/
def RepC (K : Fg) (W : AP) (H : Hp) (v : V) (d : D) : Prop := Rep K W H v d ∨ ∃ a xs ds, v = .ref a ∧ d = .list ds ∧ H a = some (.lst xs) ∧ Reps K W H xs ds
/-- .. or is what an owned slot holds -/
def RepB (K : Fg) (W : AP) (H : Hp) (σ : L2.St) (ρ : En) (v : V) (d : D) : Prop := Rep K W H v d ∨ ∃ (i : Nat) (ds : List D), σ[i]? = some (some v) ∧ ρ[i]? = some (.own ds) ∧ d = .list ds
inductive RepsB (K : Fg) (W : AP) (H : Hp) (σ : L2.St) (ρ : En) : List V → List D → Prop
  | nil : RepsB K W H σ ρ [] []
  | cons {v : V} {vs : List V} {d : D} {ds : List D} : RepB K W H σ ρ v d → RepsB K W H σ ρ vs ds → RepsB K W H σ ρ (v :: vs) (d :: ds)
inductive RepsC (K : Fg) (W : AP) (H : Hp) : List V → List D → Prop
  | nil : RepsC K W H [] []
  | cons {v : V} {vs : List V} {d : D} {ds : List D} : RepC K W H v d → RepsC K W H vs ds → RepsC K W H (v :: vs) (d :: ds)
section
variable {K : Fg} {g : Gh} {W W' : AP} {H H' : Hp} {σ : L2.St} {ρ : En} {v : V} {d : D}
theorem RepB.evo (h : RepB K W H σ ρ v d) (e : Evo W H W' H') : RepB K W' H' σ ρ v d := by
  rcases h with h | h
  · exact .inl (h.evo e)
  · exact .inr h
theorem RepB.c (h : RepB K W H σ ρ v d) (S : St K g W H σ ρ) : RepC K W H v d := by
  rcases h with h | ⟨i, ds, h1, h2, rfl⟩
  · exact .inl h
  · obtain ⟨a, xs, q1, q2, q3, q4, q5⟩ := S.sl i _ h2
    rw [h1] at q1
    cases q1
    exact .inr ⟨a, xs, ds, rfl, rfl, q4, q5⟩
theorem RepsB.evo (e : Evo W H W' H') : ∀ {vs : List V} {ds : List D}, RepsB K W H σ ρ vs ds → RepsB K W' H' σ ρ vs ds
  | _, _, .nil => .nil
  | _, _, .cons a r => .cons (a.evo e) (RepsB.evo e r)
theorem RepsB.c (S : St K g W H σ ρ) : ∀ {vs : List V} {ds : List D}, RepsB K W H σ ρ vs ds → RepsC K W H vs ds
  | _, _, .nil => .nil
  | _, _, .cons a r => .cons (a.c S) (RepsB.c S r)
theorem RepC.list {ds : List D} (h : RepC K W H v (.list ds)) : ∃ a xs, v = .ref a ∧ SqL K H a xs ∧ Reps K W H xs ds := by
  rcases h with h | ⟨a, xs, ds', rfl, e, h4, h5⟩
  · cases h with
    | lst h1 h2 => exact ⟨_, _, rfl, h1.sq, h2⟩
  · cases e
    exact ⟨a, xs, rfl, .inl (.inl h4), h5⟩
theorem RepC.listR {ds : List D} (h : RepC K W H v (.list ds)) : ∃ a xs, v = .ref a ∧ LAt K H a xs ∧ Reps K W H xs ds := by
  rcases h with h | ⟨a, xs, ds', rfl, e, h4, h5⟩
  · cases h with
    | lst h1 h2 => exact ⟨_, _, rfl, h1.lat, h2⟩
  · cases e
    exact ⟨a, xs, rfl, .inl (.inl h4), h5⟩
theorem RepC.rep (h : RepC K W H v d) (n : ∀ ds, d ≠ .list ds) : Rep K W H v d := by
  rcases h with h | ⟨a, xs, ds', rfl, e, h4, h5⟩
  · exact h
  · exact absurd e (n _)
theorem RepC.tuple {ds : List D} (h : RepC K W H v (.tuple ds)) : ∃ a xs, v = .ref a ∧ WT K W H a xs ∧ Reps K W H xs ds := by
  cases h.rep (fun _ => by intro z; cases z) with
  | tup h1 h2 => exact ⟨_, _, rfl, h1, h2⟩
theorem RepC.int {i : Int} (h : RepC K W H v (.int i)) : v = .int i := by
  cases h.rep (fun _ => by intro z; cases z); rfl
theorem RepC.str {x : Str} (h : RepC K W H v (.str x)) : v = .str x := by
  cases h.rep (fun _ => by intro z; cases z); rfl
theorem RepC.bool {b : Bool} (h : RepC K W H v (.bool b)) : v = .bl b := by
  cases h.rep (fun _ => by intro z; cases z); rfl
theorem RepC.none (h : RepC K W H v .none) : v = .non := by
  cases h.rep (fun _ => by intro z; cases z); rfl
end
section
variable {X : Cx} {pins : List (Addr × Obj)} {σ : L2.St} {H : Hp} {s : Shared} {W : AP}
theorem RepC.reads (I : Inv X pins σ H s) {d : D} {v : V} {u : Value} (h : RepC X.K W H v d) (r : RelV v u) : ∃ as, Reads s.heap u d as ∧ (SysK X.K → sysModules ∉ as) := by
  rcases h with h | ⟨a, xs, ds, rfl, rfl, h4, h5⟩
  · exact h.reads I d _ _ r
  · cases r
    obtain ⟨its, rv, ⟨o, n, ho, hc, _, hd⟩, _⟩ := I.list (SqL.of (K := X.K) h4)
    obtain ⟨as, hr, hm⟩ := Reps.reads I ds _ its h5 rv
    refine ⟨_, Reads.list ho hc hd hr, fun sk z => ?_⟩
    rcases List.mem_cons.mp z with z | z
    · obtain ⟨o', hk, ho'⟩ := sk
      have e := I.kIn _ _ hk
      rw [z, ho] at e
      cases e
      rw [hc] at ho'
      exact absurd ho' (by decide)
    · exact hm sk z
end

/-! ### judgements -/
abbrev TrE := En → (D → Prop) → Prop
abbrev TrT := En → (Bool → Prop) → Prop
abbrev TrL := En → (List D → Prop) → Prop
abbrev TrA := En → (List Sl → Prop) → Prop

/-- an expression whose value is clean -/
structure QE (g : Gh) (X : Cx) (e : Expr) (t : TrE) : Prop where
  run : PE X e (fun σ H Q => ∃ W ρ R, St X.K g W H σ ρ ∧ t ρ R ∧ ∀ v d H', St X.K g W H' σ ρ → Evo W H W H' → Rep X.K W H' v d → R d → Q v H')
/-- .. may be an owned slot's -/
structure QB (g : Gh) (X : Cx) (e : Expr) (t : TrE) : Prop where
  run : PE X e (fun σ H Q => ∃ W ρ R, St X.K g W H σ ρ ∧ t ρ R ∧ ∀ v d H', St X.K g W H' σ ρ → Evo W H W H' → RepB X.K W H' σ ρ v d → R d → Q v H')
structure QT (g : Gh) (X : Cx) (e : Expr) (t : TrT) : Prop where
  run : PT X e (fun σ H Q => ∃ W ρ R, St X.K g W H σ ρ ∧ t ρ R ∧ ∀ b H', St X.K g W H' σ ρ → Evo W H W H' → R b → Q b H')
structure QW (g : Gh) (X : Cx) (e : Expr) (t : TrT) : Prop where
  run : PW X e (fun σ H Q => ∃ W ρ R, St X.K g W H σ ρ ∧ t ρ R ∧ ∀ b H', St X.K g W H' σ ρ → Evo W H W H' → R b → Q b H')
/-- written items, arguments of built-ins -/
structure QL (g : Gh) (X : Cx) (es : List Expr) (t : TrL) : Prop where
  run : PA X es (fun σ H Q => ∃ W ρ R, St X.K g W H σ ρ ∧ t ρ R ∧ ∀ vs ds H', St X.K g W H' σ ρ → Evo W H W H' → Reps X.K W H' vs ds → R ds → Q vs H')
structure QLB (g : Gh) (X : Cx) (es : List Expr) (t : TrL) : Prop where
  run : PA X es (fun σ H Q => ∃ W ρ R, St X.K g W H σ ρ ∧ t ρ R ∧ ∀ vs ds H', St X.K g W H' σ ρ → Evo W H W H' → RepsB X.K W H' σ ρ vs ds → R ds → Q vs H')
def ArgOk (K : Fg) (pa : Option Addr) (W : AP) (H : Hp) (v : V) : Sl → Prop
  | .val d => Rep K W H v d
  | .prs => ∃ a, pa = some a ∧ v = .ref a
  | _ => False
inductive ArgsOk (K : Fg) (pa : Option Addr) (W : AP) (H : Hp) : List V → List Sl → Prop
  | nil : ArgsOk K pa W H [] []
  | cons {v : V} {vs : List V} {s : Sl} {ss : List Sl} : ArgOk K pa W H v s → ArgsOk K pa W H vs ss → ArgsOk K pa W H (v :: vs) (s :: ss)
theorem ArgOk.evo {K : Fg} {pa : Option Addr} {W W' : AP} {H H' : Hp} {v : V} {s : Sl} (h : ArgOk K pa W H v s) (e : Evo W H W' H') : ArgOk K pa W' H' v s := by
  cases s with
  | val d => exact Rep.evo e d v h
  | prs => exact h
  | _ => exact h.elim
theorem ArgsOk.evo {K : Fg} {pa : Option Addr} {W W' : AP} {H H' : Hp} (e : Evo W H W' H') : ∀ {vs : List V} {ss : List Sl}, ArgsOk K pa W H vs ss → ArgsOk K pa W' H' vs ss
  | _, _, .nil => .nil
  | _, _, .cons a r => .cons (a.evo e) (ArgsOk.evo e r)
theorem ArgsOk.length {K : Fg} {pa : Option Addr} {W : AP} {H : Hp} : ∀ {vs : List V} {ss : List Sl}, ArgsOk K pa W H vs ss → vs.length = ss.length
  | _, _, .nil => rfl
  | _, _, .cons a r => by rw [List.length_cons, List.length_cons, ArgsOk.length r]
structure QA (g : Gh) (X : Cx) (es : List Expr) (t : TrA) : Prop where
  run : PA X es (fun σ H Q => ∃ W ρ R, St X.K g W H σ ρ ∧ t ρ R ∧ ∀ vs as H', St X.K g W H' σ ρ → Evo W H W H' → ArgsOk X.K g.pa W H' vs as → R as → Q vs H')

theorem pe_imp {X : Cx} {e : Expr} {t t' : TE} (h : PE X e t) (i : ∀ σ H Q, t' σ H Q → t σ H Q) : PE X e t' := ⟨fun p s σ H Q I q => h.run p s σ H Q I (i σ H Q q)⟩
theorem pt_imp {X : Cx} {e : Expr} {t t' : TT} (h : PT X e t) (i : ∀ σ H Q, t' σ H Q → t σ H Q) : PT X e t' := ⟨fun p s σ H Q I q => h.run p s σ H Q I (i σ H Q q)⟩
theorem pw_imp {X : Cx} {e : Expr} {t t' : TT} (h : PW X e t) (i : ∀ σ H Q, t' σ H Q → t σ H Q) : PW X e t' := ⟨fun w p s σ H Q I q => h.run w p s σ H Q I (i σ H Q q)⟩
theorem pa_imp {X : Cx} {e : List Expr} {t t' : TA} (h : PA X e t) (i : ∀ σ H Q, t' σ H Q → t σ H Q) : PA X e t' := ⟨fun w p s σ H Q I q => h.run w p s σ H Q I (i σ H Q q)⟩
theorem ps_imp {X : Cx} {e : Stmt} {t t' : TS} (h : PS X e t) (i : ∀ Dn σ H, t' Dn σ H → t Dn σ H) : PS X e t' := ⟨fun p s σ H Q I q => h.run p s σ H Q I (i Q σ H q)⟩
theorem pss_imp {X : Cx} {e : List Stmt} {t t' : TS} (h : PSs X e t) (i : ∀ Dn σ H, t' Dn σ H → t Dn σ H) : PSs X e t' := ⟨fun p s σ H Q I q => h.run p s σ H Q I (i Q σ H q)⟩

section
variable {g : Gh} {X : Cx} {e a b c : Expr} {es : List Expr} {t ta tb tc : TrE} {pos : Pos}
theorem QE.bb (h : QE g X e t) : QB g X e t := ⟨pe_imp h.run fun σ H Q ⟨W, ρ, R, S, q, k⟩ => ⟨W, ρ, R, S, q, fun v d H' S' E r => k v d H' S' E (.inl r)⟩⟩

/-! ### names, constants -/
def qV (i : Nat) : TrE := fun ρ R => ∃ d, ρ[i]? = some (.val d) ∧ R d
def qVB (i : Nat) : TrE := fun ρ R => (∃ d, ρ[i]? = some (.val d) ∧ R d) ∨ ∃ ds, ρ[i]? = some (.own ds) ∧ R (.list ds)
def qC (d : D) : TrE := fun _ R => R d
theorem qe_v (i : Nat) {x : Str} (hN : X.N[i]? = some x := by rfl) (hv : Vis X.env.scope x := by first | exact Or.inl rfl | exact Or.inr (Or.inl rfl) | exact Or.inr (Or.inr rfl)) (hd : (x == ("__debug__" : Str)) = false := by decide)
    (hcd : (x == ("__classdict__" : Str)) = false := by decide) : QE g X (.Name x pos) (qV i) :=
  ⟨pe_imp (pe_var (i := i) hN hv hd hcd) fun σ H Q ⟨W, ρ, R, S, ⟨d, h1, h2⟩, k⟩ => by
    obtain ⟨v, q1, q2⟩ := S.sl i _ h1
    exact ⟨v, q1, k v d H S (Evo.refl W H) q2 h2⟩⟩
theorem qb_v (i : Nat) {x : Str} (hN : X.N[i]? = some x := by rfl) (hv : Vis X.env.scope x := by first | exact Or.inl rfl | exact Or.inr (Or.inl rfl) | exact Or.inr (Or.inr rfl)) (hd : (x == ("__debug__" : Str)) = false := by decide)
    (hcd : (x == ("__classdict__" : Str)) = false := by decide) : QB g X (.Name x pos) (qVB i) :=
  ⟨pe_imp (pe_var (i := i) hN hv hd hcd) fun σ H Q ⟨W, ρ, R, S, h, k⟩ => by
    rcases h with ⟨d, h1, h2⟩ | ⟨ds, h1, h2⟩
    · obtain ⟨v, q1, q2⟩ := S.sl i _ h1
      exact ⟨v, q1, k v d H S (Evo.refl W H) (.inl q2) h2⟩
    · obtain ⟨a, xs, q1, _⟩ := S.sl i _ h1
      exact ⟨_, q1, k _ _ H S (Evo.refl W H) (.inr ⟨i, ds, q1, h1, rfl⟩) h2⟩⟩
theorem qe_of {v : V} {d : D} (h : PE X e (tC v)) (r : ∀ W H, Rep X.K W H v d) : QE g X e (qC d) :=
  ⟨pe_imp h fun σ H Q ⟨W, ρ, R, S, q, k⟩ => k v d H S (Evo.refl W H) (r W H) q⟩
theorem qe_int {i : Int} {j} : QE g X (.Constant (.int i) j pos) (qC (.int i)) := qe_of pe_int fun _ _ => .int i
theorem qe_str {x j} : QE g X (.Constant (.str x) j pos) (qC (.str x)) := qe_of pe_str fun _ _ => .str x
theorem qe_bl {x j} : QE g X (.Constant (.bool x) j pos) (qC (.bool x)) := qe_of pe_bl fun _ _ => .bl x
theorem qe_non {j} : QE g X (.Constant .none j pos) (qC .none) := qe_of pe_non fun _ _ => .non
/-- a module's constant -/
theorem qe_glob {x : Str} {v : V} {d : D} {u : Value} (hg : Gl X x) (hm : X.mg x = some u) (r : RelV v u) (hr : ∀ W H, Rep X.K W H v d) (hd : (x == ("__debug__" : Str)) = false := by decide) : QE g X (.Name x pos) (qC d) :=
  qe_of (pe_glob hg hm r hd) hr

/-! ### displays -/
def qNil : TrL := fun _ R => R []
def qCons (t : TrE) (u : TrL) : TrL := fun ρ R => t ρ fun d => u ρ fun ds => R (d :: ds)
theorem ql_nil : QL g X [] qNil := ⟨pa_imp pa_nil fun σ H Q ⟨W, ρ, R, S, q, k⟩ => k [] [] H S (Evo.refl W H) .nil q⟩
theorem ql_cons {u : TrL} (h1 : QE g X e t) (h2 : QL g X es u) (hs : starEach (e :: es) X.env = (false, eval e X.env) :: starEach es X.env := by rfl) : QL g X (e :: es) (qCons t u) :=
  ⟨pa_imp (pa_cons h1.run h2.run hs) fun σ H Q ⟨W, ρ, R, S, q, k⟩ => ⟨W, ρ, _, S, q, fun v d H1 S1 E1 r1 q1 => ⟨W, ρ, _, S1, q1, fun vs ds H2 S2 E2 r2 q2 => k (v :: vs) (d :: ds) H2 S2 (E1.trans E2) (.cons (r1.evo E2) r2) q2⟩⟩⟩
theorem qlb_nil : QLB g X [] qNil := ⟨pa_imp pa_nil fun σ H Q ⟨W, ρ, R, S, q, k⟩ => k [] [] H S (Evo.refl W H) .nil q⟩
theorem qlb_cons {u : TrL} (h1 : QB g X e t) (h2 : QLB g X es u) (hs : starEach (e :: es) X.env = (false, eval e X.env) :: starEach es X.env := by rfl) : QLB g X (e :: es) (qCons t u) :=
  ⟨pa_imp (pa_cons h1.run h2.run hs) fun σ H Q ⟨W, ρ, R, S, q, k⟩ => ⟨W, ρ, _, S, q, fun v d H1 S1 E1 r1 q1 => ⟨W, ρ, _, S1, q1, fun vs ds H2 S2 E2 r2 q2 => k (v :: vs) (d :: ds) H2 S2 (E1.trans E2) (.cons (r1.evo E2) r2) q2⟩⟩⟩
def qANil : TrA := fun _ R => R []
def qACons (t : TrE) (u : TrA) : TrA := fun ρ R => t ρ fun d => u ρ fun ds => R (.val d :: ds)
def qAPrs (i : Nat) (u : TrA) : TrA := fun ρ R => ρ[i]? = some .prs ∧ u ρ fun ds => R (.prs :: ds)
theorem qa_nil : QA g X [] qANil := ⟨pa_imp pa_nil fun σ H Q ⟨W, ρ, R, S, q, k⟩ => k [] [] H S (Evo.refl W H) .nil q⟩
theorem qa_cons {u : TrA} (h1 : QE g X e t) (h2 : QA g X es u) (hs : starEach (e :: es) X.env = (false, eval e X.env) :: starEach es X.env := by rfl) : QA g X (e :: es) (qACons t u) :=
  ⟨pa_imp (pa_cons h1.run h2.run hs) fun σ H Q ⟨W, ρ, R, S, q, k⟩ => ⟨W, ρ, _, S, q, fun v d H1 S1 E1 r1 q1 => ⟨W, ρ, _, S1, q1, fun vs ds H2 S2 E2 r2 q2 => k (v :: vs) (.val d :: ds) H2 S2 (E1.trans E2) (.cons (r1.evo E2) r2) q2⟩⟩⟩
theorem qa_prs (i : Nat) {x : Str} {u : TrA} (h2 : QA g X es u) (hN : X.N[i]? = some x := by rfl) (hv : Vis X.env.scope x := by first | exact Or.inl rfl | exact Or.inr (Or.inl rfl) | exact Or.inr (Or.inr rfl)) (hd : (x == ("__debug__" : Str)) = false := by decide)
    (hcd : (x == ("__classdict__" : Str)) = false := by decide) (hs : starEach (.Name x pos :: es) X.env = (false, eval (.Name x pos) X.env) :: starEach es X.env := by rfl) : QA g X (.Name x pos :: es) (qAPrs i u) :=
  ⟨pa_imp (pa_cons (pe_var (i := i) hN hv hd hcd) h2.run hs) fun σ H Q ⟨W, ρ, R, S, ⟨q1, q2⟩, k⟩ => by
    obtain ⟨a, z1, z2⟩ := S.sl i _ q1
    exact ⟨_, z2, W, ρ, _, S, q2, fun vs ds H2 S2 E2 r2 q2 => k _ _ H2 S2 E2 (.cons (s := .prs) ⟨a, z1, rfl⟩ r2) q2⟩⟩

theorem St.newT {K : Fg} {W : AP} {H : Hp} {σ : L2.St} {ρ : En} {p : Addr} {o : HO} (S : St K g W H σ ρ) (h : H p = none) : St K g W (upd H p o) σ ρ ∧ Evo W H W (upd H p o) :=
  S.same_ fun b x q => by rw [upd_ne (ne_of_none q h)]; exact q
theorem rep_newT {K : Fg} {W : AP} {H : Hp} {p : Addr} {o : HO} {xs : List V} {ds : List D} (hw : ∀ b, W b → ∃ o, H b = some o) (h : H p = none) (f : FzT o xs) (r : Reps K W H xs ds) : Rep K W (upd H p o) (.ref p) (.tuple ds) :=
  .tup (.inl ⟨fun w => (by obtain ⟨o, q⟩ := hw p w; rw [h] at q; cases q), o, upd_same, f⟩) (r.evo (Evo.of_same fun b x q => (by rw [upd_ne (ne_of_none q h)]; exact q)))
theorem rep_newL {K : Fg} {W : AP} {H : Hp} {p : Addr} {xs : List V} {ds : List D} (hw : ∀ b, W b → ∃ o, H b = some o) (h : H p = none) (r : Reps K W H xs ds) : Rep K W (upd H p (.lst xs)) (.ref p) (.list ds) :=
  .lst (.inl ⟨fun w => (by obtain ⟨o, q⟩ := hw p w; rw [h] at q; cases q), .inl upd_same⟩) (r.evo (Evo.of_same fun b x q => (by rw [upd_ne (ne_of_none q h)]; exact q)))
def qTup (u : TrL) : TrE := fun ρ R => u ρ fun ds => ds.length ≤ sizeLine ∧ R (.tuple ds)
def qLst (u : TrL) : TrE := fun ρ R => u ρ fun ds => ds.length ≤ sizeLine ∧ R (.list ds)
theorem qe_tup {u : TrL} {x1} (h : QL g X es u) : QE g X (.Tuple es x1 pos) (qTup u) :=
  ⟨pe_imp (pf_tup h.run) fun σ H Q ⟨W, ρ, R, S, q, k⟩ => ⟨W, ρ, _, S, q, fun vs ds H1 S1 E1 r1 q1 => ⟨by rw [r1.length]; exact q1.1, fun p o hp f =>
    k _ _ _ (St.newT S1 hp).1 (E1.trans (St.newT S1 hp).2) (rep_newT S1.wH hp f r1) q1.2⟩⟩⟩
theorem qe_lst {u : TrL} (h : QL g X es u) : QE g X (.List es pos) (qLst u) :=
  ⟨pe_imp (pe_lst h.run) fun σ H Q ⟨W, ρ, R, S, q, k⟩ => ⟨W, ρ, _, S, q, fun vs ds H1 S1 E1 r1 q1 => ⟨by rw [r1.length]; exact q1.1, fun p hp =>
    k _ _ _ (St.newT S1 hp).1 (E1.trans (St.newT S1 hp).2) (rep_newL S1.wH hp r1) q1.2⟩⟩⟩

/-! ### operations by values -/
abbrev OpT := D → D → (D → Prop) → Prop
/-- f on values that stand for d, e; what it gives is clean -/
def rOp (K : Fg) (r : OpT) : R2 := fun x y H Q => ∃ (W : AP) (d e : D) (R : D → Prop), (∀ b, W b → ∃ o, H b = some o) ∧ RepC K W H x d ∧ RepC K W H y e ∧ r d e R ∧ ∀ v c H', Same H H' → Rep K W H' v c → R c → Q v H'
def OpD (X : Cx) (f : Value → Value → Sem Value) (r : OpT) : Prop := OpR X f (rOp X.K r)
def qOp (r : OpT) (ta tb : TrE) : TrE := fun ρ R => ta ρ fun d => tb ρ fun e => r d e R
theorem op_bin {T : (σ : L2.St) → Hp → VK → Prop} {r : OpT} {σ : L2.St} {H : Hp} {Q : VK} {W : AP} {ρ : En} {R : D → Prop} (S : St X.K g W H σ ρ) (q : qOp r ta tb ρ R) (k : ∀ v d H', St X.K g W H' σ ρ → Evo W H W H' → Rep X.K W H' v d → R d → Q v H') :
    tOp (rOp X.K r) (fun σ H Q => ∃ W ρ R, St X.K g W H σ ρ ∧ ta ρ R ∧ ∀ v d H', St X.K g W H' σ ρ → Evo W H W H' → RepB X.K W H' σ ρ v d → R d → Q v H')
      (fun σ H Q => ∃ W ρ R, St X.K g W H σ ρ ∧ tb ρ R ∧ ∀ v d H', St X.K g W H' σ ρ → Evo W H W H' → RepB X.K W H' σ ρ v d → R d → Q v H') σ H Q :=
  ⟨W, ρ, _, S, q, fun v d H1 S1 E1 r1 q1 => ⟨W, ρ, _, S1, q1, fun u e H2 S2 E2 r2 q2 => ⟨W, d, e, R, S2.wH, (r1.evo E2).c S2, r2.c S2, q2, fun w c H3 sm r3 q3 =>
    k w c H3 (S2.same_ sm).1 ((E1.trans E2).trans (S2.same_ sm).2) r3 q3⟩⟩⟩
theorem qe_op {op : Operator} {r : OpT} (ho : OpD X (binaryOp op) r) (ha : QB g X a ta) (hb : QB g X b tb) : QE g X (.BinOp a op b pos) (qOp r ta tb) :=
  ⟨pe_imp (pe_op ho ha.run hb.run) fun σ H Q ⟨W, ρ, R, S, q, k⟩ => op_bin (T := fun _ _ _ => True) S q k⟩
theorem qe_cmp {op : CmpOp} {r : OpT} (ho : OpD X (compareOp op) r) (ha : QB g X a ta) (hb : QB g X b tb) (hm : behindInMarks op b = false := by first | exact nomark _ | rfl) : QE g X (.Compare a [op] [b] pos) (qOp r ta tb) :=
  ⟨pe_imp (pe_cmpR ho ha.run hb.run hm) fun σ H Q ⟨W, ρ, R, S, q, k⟩ => op_bin (T := fun _ _ _ => True) S q k⟩
/-- what a test takes of a value that is a bool -/
def qBl (t : TrE) : TrT := fun ρ R => t ρ fun d => ∃ b, d = .bool b ∧ R b
theorem qt_cmp {op : CmpOp} {r : OpT} (ho : OpD X (compareOp op) r) (ha : QB g X a ta) (hb : QB g X b tb) (hm : behindInMarks op b = false := by first | exact nomark _ | rfl) : QT g X (.Compare a [op] [b] pos) (qBl (qOp r ta tb)) :=
  ⟨pt_imp (pt_cmpR ho ha.run hb.run hm) fun σ H Q ⟨W, ρ, R, S, q, k⟩ => op_bin (T := fun _ _ _ => True) S q fun v d H' S' E' r' ⟨b, hb, hR⟩ => by
    subst hb
    cases r'
    exact ⟨b, rfl, k b H' S' E' hR⟩⟩
def qChain (r r' : OpT) (ta tb tc : TrE) : TrE := fun ρ R => ta ρ fun d => tb ρ fun e => r d e fun z => ∃ b, z = .bool b ∧ if b = true then tc ρ fun f => r' e f R else R (.bool false)
theorem chain_bin {r r' : OpT} {σ : L2.St} {H : Hp} {Q : VK} {W : AP} {ρ : En} {R : D → Prop} (S : St X.K g W H σ ρ) (q : qChain r r' ta tb tc ρ R) (k : ∀ v d H', St X.K g W H' σ ρ → Evo W H W H' → Rep X.K W H' v d → R d → Q v H') :
    tChain (rOp X.K r) (rOp X.K r') (fun σ H Q => ∃ W ρ R, St X.K g W H σ ρ ∧ ta ρ R ∧ ∀ v d H', St X.K g W H' σ ρ → Evo W H W H' → RepB X.K W H' σ ρ v d → R d → Q v H')
      (fun σ H Q => ∃ W ρ R, St X.K g W H σ ρ ∧ tb ρ R ∧ ∀ v d H', St X.K g W H' σ ρ → Evo W H W H' → RepB X.K W H' σ ρ v d → R d → Q v H')
      (fun σ H Q => ∃ W ρ R, St X.K g W H σ ρ ∧ tc ρ R ∧ ∀ v d H', St X.K g W H' σ ρ → Evo W H W H' → RepB X.K W H' σ ρ v d → R d → Q v H') σ H Q := by
  refine ⟨W, ρ, _, S, q, fun v d H1 S1 E1 r1 q1 => ⟨W, ρ, _, S1, q1, fun u e H2 S2 E2 r2 q2 => ⟨W, d, e, _, S2.wH, (r1.evo E2).c S2, r2.c S2, q2, fun w c H3 sm r3 ⟨b, hb, q3⟩ => ?_⟩⟩⟩
  subst hb
  cases r3
  obtain ⟨S3, E3⟩ := S2.same_ sm
  refine ⟨b, rfl, ?_⟩
  cases b with
  | false =>
    rw [if_neg Bool.false_ne_true] at q3 ⊢
    exact k _ _ H3 S3 ((E1.trans E2).trans E3) (.bl false) q3
  | true =>
    rw [if_pos rfl] at q3 ⊢
    exact ⟨W, ρ, _, S3, q3, fun z f H4 S4 E4 r4 q4 => ⟨W, e, f, R, S4.wH, ((r2.evo E3).evo E4).c S4, r4.c S4, q4, fun w c H5 sm5 r5 q5 =>
      k w c H5 (S4.same_ sm5).1 ((((E1.trans E2).trans E3).trans E4).trans (S4.same_ sm5).2) r5 q5⟩⟩
theorem qe_chain {op op' : CmpOp} {r r' : OpT} (ho : OpD X (compareOp op) r) (ho' : OpD X (compareOp op') r') (ha : QB g X a ta) (hb : QB g X b tb) (hc : QB g X c tc) (hm : lastMarks [op, op'] [b, c] = false := by with_unfolding_all rfl) :
    QE g X (.Compare a [op, op'] [b, c] pos) (qChain r r' ta tb tc) :=
  ⟨pe_imp (pe_chain ho ho' ha.run hb.run hc.run hm) fun σ H Q ⟨W, ρ, R, S, q, k⟩ => chain_bin S q k⟩
theorem qt_chain {op op' : CmpOp} {r r' : OpT} (ho : OpD X (compareOp op) r) (ho' : OpD X (compareOp op') r') (ha : QB g X a ta) (hb : QB g X b tb) (hc : QB g X c tc) (hm : lastMarks [op, op'] [b, c] = false := by with_unfolding_all rfl) :
    QT g X (.Compare a [op, op'] [b, c] pos) (qBl (qChain r r' ta tb tc)) :=
  ⟨pt_imp (pt_chain ho ho' ha.run hb.run hc.run hm) fun σ H Q ⟨W, ρ, R, S, q, k⟩ => chain_bin S q fun v d H' S' E' r' ⟨b, hb, hR⟩ => by
    subst hb
    cases r'
    exact ⟨b, rfl, k b H' S' E' hR⟩⟩
def rUnOp (K : Fg) (r : D → (D → Prop) → Prop) : V → Hp → VK → Prop := fun x H Q => ∃ (W : AP) (d : D) (R : D → Prop), (∀ b, W b → ∃ o, H b = some o) ∧ RepC K W H x d ∧ r d R ∧ ∀ v c H', Same H H' → Rep K W H' v c → R c → Q v H'
def UnD (X : Cx) (f : Value → Sem Value) (r : D → (D → Prop) → Prop) : Prop := UnR X f (rUnOp X.K r)
def qUn (r : D → (D → Prop) → Prop) (ta : TrE) : TrE := fun ρ R => ta ρ fun d => r d R
theorem qe_un {op : UnaryOp} {r : D → (D → Prop) → Prop} (ho : UnD X (unaryOp op) r) (ha : QB g X a ta) : QE g X (.UnaryOp op a pos) (qUn r ta) :=
  ⟨pe_imp (pe_un ho ha.run) fun σ H Q ⟨W, ρ, R, S, q, k⟩ => ⟨W, ρ, _, S, q, fun v d H1 S1 E1 r1 q1 => ⟨W, d, R, S1.wH, r1.c S1, q1, fun w c H2 sm r2 q2 =>
    k w c H2 (S1.same_ sm).1 (E1.trans (S1.same_ sm).2) r2 q2⟩⟩⟩

/-! ### tests -/
def truthyD : D → Bool
  | .none => false
  | .bool b => b
  | .int i => i != 0
  | .str x => (x.length : Int) != 0
  | .list ds => !ds.isEmpty
  | .tuple ds => !ds.isEmpty
  | .dict ds => !ds.isEmpty
def qTr (t : TrE) : TrT := fun ρ R => t ρ fun d => (∀ x, d = .str x → x.length ≤ sizeLine) ∧ R (truthyD d)
theorem reps_emp {K : Fg} {W : AP} {H : Hp} {xs : List V} {ds : List D} (r : Reps K W H xs ds) : xs.isEmpty = ds.isEmpty := by cases r <;> rfl
theorem repkv_emp {K : Fg} {W : AP} {H : Hp} {xs : List (Key × V)} {ds : List (D × D)} (r : RepKv K W H xs ds) : xs.isEmpty = ds.isEmpty := by cases r <;> rfl
theorem truv_of {K : Fg} {W : AP} {H : Hp} {v : V} {d : D} (h : RepC K W H v d) (hs : ∀ x, d = .str x → x.length ≤ sizeLine) : TruV K v H (truthyD d) := by
  cases d with
  | none => rw [h.none]; rfl
  | bool b => rw [h.bool]; rfl
  | int i => rw [h.int]; rfl
  | str x => rw [h.str]; exact ⟨hs x rfl, rfl⟩
  | list ds =>
    obtain ⟨a, xs, rfl, q1, q2⟩ := h.list
    exact .inl ⟨xs, q1, by show (!ds.isEmpty) = _; rw [reps_emp q2]⟩
  | tuple ds =>
    obtain ⟨a, xs, rfl, q1, q2⟩ := h.tuple
    exact .inr (.inl ⟨xs, q1.sq, by show (!ds.isEmpty) = _; rw [reps_emp q2]⟩)
  | dict ds =>
    cases h.rep (fun _ => by intro z; cases z) with
    | dct h1 h2 h3 => exact .inr (.inr ⟨_, h2, by show (!ds.isEmpty) = _; rw [repkv_emp h3]⟩)
theorem qt_of (ha : QB g X a ta) (he : ∀ whole, isTrue a X.env whole = (do let v ← whole; standAt a.pos; holding [v] (truthy v)) := by intro _; rfl) : QT g X a (qTr ta) :=
  ⟨pt_imp (pt_truth ha.run he) fun σ H Q ⟨W, ρ, R, S, q, k⟩ => ⟨W, ρ, _, S, q, fun v d H1 S1 E1 r1 q1 => ⟨_, truv_of (r1.c S1) q1.1, k _ H1 S1 E1 q1.2⟩⟩⟩
def qAnd (t u : TrT) : TrT := fun ρ R => t ρ fun b => if b = true then u ρ R else R false
def qOr (t u : TrT) : TrT := fun ρ R => t ρ fun b => if b = true then R true else u ρ R
def qNot (t : TrT) : TrT := fun ρ R => t ρ fun b => R (!b)
section
variable {t1 t2 : TrT} {rest : List Expr}
theorem qt_w (h : QW g X e t1) : QT g X e t1 := ⟨h.run.pt⟩
theorem qw_and1 (h : QT g X a t1) : QW g X (.BoolOp .And [a] pos) t1 := ⟨pw_and1 h.run⟩
theorem qw_or1 (h : QT g X a t1) : QW g X (.BoolOp .Or [a] pos) t1 := ⟨pw_or1 h.run⟩
theorem qw_and (h : QT g X a t1) (k : QW g X (.BoolOp .And (b :: rest) pos) t2) : QW g X (.BoolOp .And (a :: b :: rest) pos) (qAnd t1 t2) :=
  ⟨pw_imp (pw_and h.run k.run) fun σ H Q ⟨W, ρ, R, S, q, k⟩ => ⟨W, ρ, _, S, q, fun c H1 S1 E1 q1 => by
    cases c with
    | false => rw [if_neg Bool.false_ne_true] at q1 ⊢; exact k _ H1 S1 E1 q1
    | true => rw [if_pos rfl] at q1 ⊢; exact ⟨W, ρ, R, S1, q1, fun c H2 S2 E2 q2 => k c H2 S2 (E1.trans E2) q2⟩⟩⟩
theorem qw_or (h : QT g X a t1) (k : QW g X (.BoolOp .Or (b :: rest) pos) t2) : QW g X (.BoolOp .Or (a :: b :: rest) pos) (qOr t1 t2) :=
  ⟨pw_imp (pw_or h.run k.run) fun σ H Q ⟨W, ρ, R, S, q, k⟩ => ⟨W, ρ, _, S, q, fun c H1 S1 E1 q1 => by
    cases c with
    | true => rw [if_pos rfl] at q1 ⊢; exact k _ H1 S1 E1 q1
    | false => rw [if_neg Bool.false_ne_true] at q1 ⊢; exact ⟨W, ρ, R, S1, q1, fun c H2 S2 E2 q2 => k c H2 S2 (E1.trans E2) q2⟩⟩⟩
theorem qt_not (h : QT g X a t1) : QT g X (.UnaryOp .Not a pos) (qNot t1) :=
  ⟨pt_imp (pt_not h.run) fun σ H Q ⟨W, ρ, R, S, q, k⟩ => ⟨W, ρ, _, S, q, fun c H1 S1 E1 q1 => k _ H1 S1 E1 q1⟩⟩
/-- a if t else b -/
def qIf (t : TrT) (ta tb : TrE) : TrE := fun ρ R => t ρ fun b => if b = true then ta ρ R else tb ρ R
theorem qe_if (h : QT g X c t1) (ha : QE g X a ta) (hb : QE g X b tb) : QE g X (.IfExp c a b pos) (qIf t1 ta tb) :=
  ⟨pe_imp (pe_ifExp h.run ha.run hb.run) fun σ H Q ⟨W, ρ, R, S, q, k⟩ => ⟨W, ρ, _, S, q, fun c H1 S1 E1 q1 => by
    cases c with
    | false => rw [if_neg Bool.false_ne_true] at q1 ⊢; exact ⟨W, ρ, R, S1, q1, fun v d H2 S2 E2 r2 q2 => k v d H2 S2 (E1.trans E2) r2 q2⟩
    | true => rw [if_pos rfl] at q1 ⊢; exact ⟨W, ρ, R, S1, q1, fun v d H2 S2 E2 r2 q2 => k v d H2 S2 (E1.trans E2) r2 q2⟩⟩⟩
/-- bools as values -/
def qAndV (ta tb : TrE) : TrE := fun ρ R => ta ρ fun d => ∃ b, d = .bool b ∧ if b = true then tb ρ R else R (.bool false)
def qOrV (ta tb : TrE) : TrE := fun ρ R => ta ρ fun d => ∃ b, d = .bool b ∧ if b = true then R (.bool true) else tb ρ R
def qNotV (ta : TrE) : TrE := fun ρ R => ta ρ fun d => ∃ b, d = .bool b ∧ R (.bool (!b))
theorem qe_one {op} (h : QE g X a ta) : QE g X (.BoolOp op [a] pos) ta := ⟨pe_one h.run⟩
theorem qe_and (ha : QE g X a ta) (hb : QE g X (.BoolOp .And (b :: rest) pos) tb) : QE g X (.BoolOp .And (a :: b :: rest) pos) (qAndV ta tb) :=
  ⟨pe_imp (pe_and ha.run hb.run) fun σ H Q ⟨W, ρ, R, S, q, k⟩ => ⟨W, ρ, _, S, q, fun v d H1 S1 E1 r1 ⟨c, hc, q1⟩ => by
    subst hc
    cases r1
    refine ⟨c, rfl, ?_⟩
    cases c with
    | false => rw [if_neg Bool.false_ne_true] at q1 ⊢; exact k _ _ H1 S1 E1 (.bl false) q1
    | true => rw [if_pos rfl] at q1 ⊢; exact ⟨W, ρ, R, S1, q1, fun v d H2 S2 E2 r2 q2 => k v d H2 S2 (E1.trans E2) r2 q2⟩⟩⟩
theorem qe_or (ha : QE g X a ta) (hb : QE g X (.BoolOp .Or (b :: rest) pos) tb) : QE g X (.BoolOp .Or (a :: b :: rest) pos) (qOrV ta tb) :=
  ⟨pe_imp (pe_or ha.run hb.run) fun σ H Q ⟨W, ρ, R, S, q, k⟩ => ⟨W, ρ, _, S, q, fun v d H1 S1 E1 r1 ⟨c, hc, q1⟩ => by
    subst hc
    cases r1
    refine ⟨c, rfl, ?_⟩
    cases c with
    | true => rw [if_pos rfl] at q1 ⊢; exact k _ _ H1 S1 E1 (.bl true) q1
    | false => rw [if_neg Bool.false_ne_true] at q1 ⊢; exact ⟨W, ρ, R, S1, q1, fun v d H2 S2 E2 r2 q2 => k v d H2 S2 (E1.trans E2) r2 q2⟩⟩⟩
theorem qe_not (ha : QE g X a ta) : QE g X (.UnaryOp .Not a pos) (qNotV ta) :=
  ⟨pe_imp (pe_not ha.run) fun σ H Q ⟨W, ρ, R, S, q, k⟩ => ⟨W, ρ, _, S, q, fun v d H1 S1 E1 r1 ⟨c, hc, q1⟩ => by
    subst hc
    cases r1
    exact ⟨c, rfl, k _ _ H1 S1 E1 (.bl _) q1⟩⟩⟩
end
end
end PL
end

section
set_option Elab.async false
set_option linter.all false
set_option maxRecDepth 100000
set_option maxHeartbeats 4000000
namespace PL
open PySem PySem.Spec PyProof.Rows L2
section
variable {X : Cx}
theorem OpD.or {f : Value → Value → Sem Value} {r r' : OpT} (h : OpD X f r) (h' : OpD X f r') : OpD X f (fun d e R => r d e R ∨ r' d e R) := by
  intro pins s σ H x y v u Q I rx ry ⟨W, d, e, R, w, a, b, q, k⟩
  rcases q with q | q
  · exact h pins s σ H x y v u Q I rx ry ⟨W, d, e, R, w, a, b, q, k⟩
  · exact h' pins s σ H x y v u Q I rx ry ⟨W, d, e, R, w, a, b, q, k⟩
theorem OpD.imp {f : Value → Value → Sem Value} {r r' : OpT} (h : OpD X f r) (i : ∀ d e R, r' d e R → r d e R) : OpD X f r' :=
  fun pins s σ H x y v u Q I rx ry ⟨W, d, e, R, w, a, b, q, k⟩ => h pins s σ H x y v u Q I rx ry ⟨W, d, e, R, w, a, b, i _ _ _ q, k⟩
/-- two ints, a value without the heap -/
theorem opd_int {f : Value → Value → Sem Value} {C : Int → Int → Prop} {gv : Int → Int → V} {gd : Int → Int → D} (h : OpR X f (rI C gv)) (hr : ∀ i j W H, Rep X.K W H (gv i j) (gd i j)) :
    OpD X f (fun d e R => ∃ i j, d = .int i ∧ e = .int j ∧ C i j ∧ R (gd i j)) := by
  intro pins s σ H x y v u Q I rx ry ⟨W, d, e, R, w, a, b, ⟨i, j, hd, he, c, q⟩, k⟩
  subst hd; subst he
  exact h pins s σ H x y v u Q I rx ry ⟨i, j, a.int, b.int, c, k _ _ H (Same.refl H) (hr i j W H) q⟩
theorem opd_int0 {f : Value → Value → Sem Value} {gv : Int → Int → V} {gd : Int → Int → D} (h : OpR X f (rI0 gv)) (hr : ∀ i j W H, Rep X.K W H (gv i j) (gd i j)) :
    OpD X f (fun d e R => ∃ i j, d = .int i ∧ e = .int j ∧ R (gd i j)) := by
  intro pins s σ H x y v u Q I rx ry ⟨W, d, e, R, w, a, b, ⟨i, j, hd, he, q⟩, k⟩
  subst hd; subst he
  exact h pins s σ H x y v u Q I rx ry ⟨i, j, a.int, b.int, k _ _ H (Same.refl H) (hr i j W H) q⟩
/-- a truth that is read off -/
theorem opd_reads {f : Value → Value → Sem Value} {pre : D → D → Prop} {p : D → D → Bool}
    (rule : ∀ (s : Shared) (u v : Value) (d e : D) (as bs : List Addr) (Q E : Value → Shared → Prop), Reads s.heap u d as → Reads s.heap v e bs → pre d e → Q (.bool (p d e)) s → wpAny (model X.prog X.w) X.A (f u v) Q E s) :
    OpD X f (fun d e R => pre d e ∧ R (.bool (p d e))) := by
  intro pins s σ H x y v u Q I rx ry ⟨W, d, e, R, w, a, b, ⟨c, q⟩, k⟩
  obtain ⟨as, r1, _⟩ := a.reads I rx
  obtain ⟨bs, r2, _⟩ := b.reads I ry
  exact rule s v u d e as bs _ _ r1 r2 c ⟨.bl _, H, I, rfl, k _ _ H (Same.refl H) (.bl _) q⟩

/-! ### + - * // % ** -/
def oAdd : OpT := fun d e R => match d, e with
  | .int i, .int j => R (.int (i + j))
  | .str x, .str y => x.length + y.length ≤ sizeLine ∧ R (.str (x ++ y))
  | .tuple xs, .tuple ys => xs.length + ys.length ≤ sizeLine ∧ R (.tuple (xs ++ ys))
  | .list xs, .list ys => xs.length + ys.length ≤ sizeLine ∧ R (.list (xs ++ ys))
  | _, _ => False
theorem op_add_list : OpR X (binaryOp .Add) (fun x y H Q => ∃ l b xs zs, x = .ref l ∧ y = .ref b ∧ LAt X.K H l xs ∧ LAt X.K H b zs ∧ xs.length + zs.length ≤ sizeLine ∧ ∀ p, H p = none → Q (.ref p) (upd H p (.lst (xs ++ zs)))) := by
  intro pins s σ H x y v u Q I rx ry h
  obtain ⟨l, b, xs, zs, rfl, rfl, hH, hB, hz, q⟩ := h
  cases rx
  cases ry
  obtain ⟨z1, its, n1, r, e1⟩ := hH.ok I
  obtain ⟨z2, its2, n2, r2, e2⟩ := hB.ok I
  have l1 := r.length
  have l2 := r2.length
  refine PySem.P.add_list e1 e2 ?_ (by rw [List.size_toArray, List.size_toArray]; omega)
  have ea : its.toArray ++ its2.toArray = (its ++ its2).toArray := by simp
  rw [ea]
  exact ⟨.ref _, _, I.lnew (t' := s.toks) (r.append r2) (by rw [List.length_append]; omega), rfl, q _ I.fresh⟩
theorem opd_add : OpD X (binaryOp .Add) oAdd := by
  intro pins s σ H x y v u Q I rx ry ⟨W, d, e, R, w, a, b, q, k⟩
  cases d with
  | int i => cases e with
    | int j => exact op_add pins s σ H x y v u Q I rx ry ⟨i, j, a.int, b.int, k _ _ H (Same.refl H) (.int _) q⟩
    | _ => exact False.elim q
  | str i => cases e with
    | str j => exact op_add_str pins s σ H x y v u Q I rx ry ⟨i, j, a.str, b.str, q.1, k _ _ H (Same.refl H) (.str _) q.2⟩
    | _ => exact False.elim q
  | tuple ds => cases e with
    | tuple es =>
      obtain ⟨p1, xs, rfl, t1, r1⟩ := a.tuple
      obtain ⟨p2, ys, rfl, t2, r2⟩ := b.tuple
      obtain ⟨q1, q2⟩ := q
      have l1 := r1.length
      have l2 := r2.length
      refine op_catF pins s σ H _ _ v u Q I rx ry ⟨p1, p2, xs, ys, rfl, rfl, t1.sq, t2.sq, by omega, fun z => ?_, fun _ z => ?_, fun _ _ p o hp f => ?_⟩
      · subst z
        cases r1
        exact k _ _ H (Same.refl H) (.tup t2 r2) q2
      · subst z
        cases r2
        exact k _ _ H (Same.refl H) (.tup t1 (by rw [List.append_nil]; exact r1)) q2
      · exact k _ _ _ (fun c o z => by rw [upd_ne (ne_of_none z hp)]; exact z) (rep_newT w hp f (r1.append r2)) q2
    | _ => exact False.elim q
  | list ds => cases e with
    | list es =>
      obtain ⟨p1, xs, rfl, t1, r1⟩ := a.listR
      obtain ⟨p2, ys, rfl, t2, r2⟩ := b.listR
      obtain ⟨q1, q2⟩ := q
      have l1 := r1.length
      have l2 := r2.length
      refine op_add_list pins s σ H _ _ v u Q I rx ry ⟨p1, p2, xs, ys, rfl, rfl, t1, t2, by omega, fun p hp => ?_⟩
      exact k _ _ _ (fun c o z => by rw [upd_ne (ne_of_none z hp)]; exact z) (rep_newL w hp (r1.append r2)) q2
    | _ => exact False.elim q
  | _ => exact False.elim q
def oInt (f : Int → Int → Int) : OpT := fun d e R => ∃ i j, d = .int i ∧ e = .int j ∧ R (.int (f i j))
def oIntC (C : Int → Int → Prop) (f : Int → Int → Int) : OpT := fun d e R => ∃ i j, d = .int i ∧ e = .int j ∧ C i j ∧ R (.int (f i j))
theorem opd_sub : OpD X (binaryOp .Sub) (oInt fun i j => i - j) := opd_int0 op_sub fun _ _ _ _ => .int _
theorem opd_mul : OpD X (binaryOp .Mult) (oIntC CMul fun i j => i * j) := opd_int op_mul fun _ _ _ _ => .int _
theorem opd_fdiv : OpD X (binaryOp .FloorDiv) (oIntC CDiv fun i j => i / j) := opd_int op_fdiv fun _ _ _ _ => .int _
theorem opd_mod : OpD X (binaryOp .Mod) (oIntC (fun _ j => 0 < j) fun i j => i % j) := opd_int op_mod fun _ _ _ _ => .int _
theorem opd_pow : OpD X (binaryOp .Pow) (oIntC CPow fun i j => i ^ j.toNat) := opd_int op_pow fun _ _ _ _ => .int _
theorem und_neg : UnD X (unaryOp .USub) (fun d R => ∃ i, d = .int i ∧ R (.int (-i))) := by
  intro pins s σ H x v Q I rx ⟨W, d, R, w, a, ⟨i, hd, q⟩, k⟩
  subst hd
  exact un_neg pins s σ H x v Q I rx ⟨i, a.int, k _ _ H (Same.refl H) (.int _) q⟩
/-- a tuple, so many times -/
def oRepT : OpT := fun d e R => ∃ xs k, d = .tuple xs ∧ e = .int k ∧ -1000 ≤ k ∧ k ≤ 1000 ∧ xs.length ≤ 1000 ∧ R (.tuple (List.replicate k.toNat xs).flatten)
theorem reps_rep {K : Fg} {W : AP} {H : Hp} {xs : List V} {ds : List D} (r : Reps K W H xs ds) : ∀ n : Nat, Reps K W H (List.replicate n xs).flatten (List.replicate n ds).flatten
  | 0 => .nil
  | n + 1 => by
    rw [List.replicate_succ, List.replicate_succ, List.flatten_cons, List.flatten_cons]
    exact r.append (reps_rep r n)
theorem opd_repT : OpD X (binaryOp .Mult) oRepT := by
  intro pins s σ H x y v u Q I rx ry ⟨W, d, e, R, w, a, b, ⟨ds, n, hd, he, h2, h3, h4, q⟩, k⟩
  subst hd; subst he
  obtain ⟨p1, xs, rfl, t1, r1⟩ := a.tuple
  have l1 := r1.length
  refine op_repF pins s σ H _ _ v u Q I rx ry ⟨p1, n, xs, rfl, b.int, t1.sq, h2, h3, by omega, fun z => ?_, fun z p o hp f => ?_⟩
  · have e : (List.replicate n.toNat ds).flatten = ds := by
      rcases z with z | z
      · subst z
        cases r1
        induction n.toNat with
        | zero => rfl
        | succ m ih => rw [List.replicate_succ, List.flatten_cons, ih]; rfl
      · subst z
        show (List.replicate 1 ds).flatten = ds
        simp
    rw [e] at q
    exact k _ _ H (Same.refl H) (.tup t1 r1) q
  · exact k _ _ _ (fun c o z => by rw [upd_ne (ne_of_none z hp)]; exact z) (rep_newT w hp f (reps_rep r1 _)) q
def oRepL : OpT := fun d e R => ∃ xs k, d = .list xs ∧ e = .int k ∧ 0 ≤ k ∧ k ≤ 1000 ∧ xs.length ≤ 1000 ∧ R (.list (List.replicate k.toNat xs).flatten)

/-! ### comparisons -/
def oEq : OpT := fun d e R => (d.plain = true ∧ e.plain = true ∧ min d.depth e.depth ≤ 60) ∧ R (.bool (PyData.eqv d e))
def oNe : OpT := fun d e R => (d.plain = true ∧ e.plain = true ∧ min d.depth e.depth ≤ 60) ∧ R (.bool (!PyData.eqv d e))
def Un (X : Cx) : Prop := X.A.units + 150 < cLine
theorem un_of {k : Nat} (h : Room k X.A) : Un X := by
  have z := h.un
  unfold Un
  omega
theorem opd_eq (hu : Un X) : OpD X (compareOp .Eq) oEq := opd_reads fun s u v d e as bs Q E r1 r2 c q => by
  unfold Un at hu
  exact SeqAt.eq_plain r1 r2 c.1 c.2.1 (by omega) q
theorem opd_ne (hu : Un X) : OpD X (compareOp .NotEq) oNe := opd_reads fun s u v d e as bs Q E r1 r2 c q => by
  unfold Un at hu
  exact SeqAt.ne_plain r1 r2 c.1 c.2.1 (by omega) q
def AlC (d e : D) : Prop := PySem.W.alike d e = true ∧ d ≠ .none ∧ min d.depth e.depth ≤ 60
def oLt : OpT := fun d e R => AlC d e ∧ R (.bool (PySem.W.dataLt d e))
def oGt : OpT := fun d e R => AlC d e ∧ R (.bool (PySem.W.dataLt e d))
def oLe : OpT := fun d e R => AlC d e ∧ R (.bool (!PySem.W.dataLt e d))
def oGe : OpT := fun d e R => AlC d e ∧ R (.bool (!PySem.W.dataLt d e))
theorem opd_lt (hu : Un X) : OpD X (compareOp .Lt) oLt := opd_reads fun s u v d e as bs Q E r1 r2 c q => by
  unfold Un at hu
  exact PySem.W.lt_data r1 r2 c.1 c.2.1 (by have := c.2.2; omega) q
theorem opd_gt (hu : Un X) : OpD X (compareOp .Gt) oGt := opd_reads fun s u v d e as bs Q E r1 r2 c q => by
  unfold Un at hu
  exact PySem.W.gt_data r1 r2 c.1 c.2.1 (by have := c.2.2; omega) q
theorem opd_le (hu : Un X) : OpD X (compareOp .LtE) oLe := opd_reads fun s u v d e as bs Q E r1 r2 c q => by
  unfold Un at hu
  exact PySem.W.le_data r1 r2 c.1 c.2.1 (by have := c.2.2; omega) q
theorem opd_ge (hu : Un X) : OpD X (compareOp .GtE) oGe := opd_reads fun s u v d e as bs Q E r1 r2 c q => by
  unfold Un at hu
  exact PySem.W.ge_data r1 r2 c.1 c.2.1 (by have := c.2.2; omega) q
/-- x in y: a text within a text, an item of a list or tuple -/
def inStr (x y : Str) : Bool := !(Builtin.Str.occurrences y x 0 y.length 1).isEmpty
def oIn : OpT := fun d e R => match e with
  | .str y => ∃ x, d = .str x ∧ R (.bool (inStr x y))
  | .tuple xs => (PyData.plainAll xs = true ∧ d.plain = true ∧ d.depth ≤ 60) ∧ R (.bool (xs.any fun y => PyData.eqv y d))
  | .list xs => (PyData.plainAll xs = true ∧ d.plain = true ∧ d.depth ≤ 60) ∧ R (.bool (xs.any fun y => PyData.eqv y d))
  | _ => False
def oNotIn : OpT := fun d e R => match e with
  | .str y => ∃ x, d = .str x ∧ R (.bool (!inStr x y))
  | .tuple xs => (PyData.plainAll xs = true ∧ d.plain = true ∧ d.depth ≤ 60) ∧ R (.bool (!xs.any fun y => PyData.eqv y d))
  | .list xs => (PyData.plainAll xs = true ∧ d.plain = true ∧ d.depth ≤ 60) ∧ R (.bool (!xs.any fun y => PyData.eqv y d))
  | _ => False
theorem opd_in (hu : Un X) : OpD X (compareOp .In) oIn := by
  unfold Un at hu
  intro pins s σ H x y v u Q I rx ry ⟨W, d, e, R, w, a, b, q, k⟩
  cases e with
  | str z =>
    obtain ⟨x', hd, q⟩ := q
    subst hd
    exact op_in_str pins s σ H x y v u Q I rx ry ⟨x', z, a.str, b.str, k _ _ H (Same.refl H) (.bl _) q⟩
  | tuple xs =>
    obtain ⟨as, r1, _⟩ := a.reads I rx
    obtain ⟨bs, r2, _⟩ := b.reads I ry
    obtain ⟨⟨c1, c2, c3⟩, q⟩ := q
    exact SeqAt.in_tuple_data r2 r1 c1 c2 (by omega) ⟨.bl _, H, I, rfl, k _ _ H (Same.refl H) (.bl _) q⟩
  | list xs =>
    obtain ⟨as, r1, _⟩ := a.reads I rx
    obtain ⟨bs, r2, _⟩ := b.reads I ry
    obtain ⟨⟨c1, c2, c3⟩, q⟩ := q
    exact SeqAt.in_list_data r2 r1 c1 c2 (by omega) ⟨.bl _, H, I, rfl, k _ _ H (Same.refl H) (.bl _) q⟩
  | _ => exact False.elim q
theorem opd_notIn (hu : Un X) : OpD X (compareOp .NotIn) oNotIn := by
  unfold Un at hu
  intro pins s σ H x y v u Q I rx ry ⟨W, d, e, R, w, a, b, q, k⟩
  cases e with
  | str z =>
    obtain ⟨x', hd, q⟩ := q
    subst hd
    exact op_notIn_str pins s σ H x y v u Q I rx ry ⟨x', z, a.str, b.str, k _ _ H (Same.refl H) (.bl _) q⟩
  | tuple xs =>
    obtain ⟨as, r1, _⟩ := a.reads I rx
    obtain ⟨bs, r2, _⟩ := b.reads I ry
    obtain ⟨⟨c1, c2, c3⟩, q⟩ := q
    exact SeqAt.notIn_tuple_data r2 r1 c1 c2 (by omega) ⟨.bl _, H, I, rfl, k _ _ H (Same.refl H) (.bl _) q⟩
  | list xs =>
    obtain ⟨as, r1, _⟩ := a.reads I rx
    obtain ⟨bs, r2, _⟩ := b.reads I ry
    obtain ⟨⟨c1, c2, c3⟩, q⟩ := q
    exact SeqAt.notIn_list_data r2 r1 c1 c2 (by omega) ⟨.bl _, H, I, rfl, k _ _ H (Same.refl H) (.bl _) q⟩
  | _ => exact False.elim q
/-- is None -/
def isN (d : D) : Bool := match d with
  | .none => true
  | _ => false
def oIsN : OpT := fun d e R => e = .none ∧ R (.bool (isN d))
def oIsNotN : OpT := fun d e R => e = .none ∧ R (.bool (!isN d))
theorem isN_of {K : Fg} {W : AP} {H : Hp} {v : V} {d : D} (h : RepC K W H v d) : decide (v = .non) = isN d := by
  cases d with
  | none => rw [h.none]; rfl
  | bool b => rw [h.bool]; rfl
  | int i => rw [h.int]; rfl
  | str x => rw [h.str]; rfl
  | list ds => obtain ⟨a, xs, rfl, _⟩ := h.list; rfl
  | tuple ds => obtain ⟨a, xs, rfl, _⟩ := h.tuple; rfl
  | dict ds =>
    cases h.rep (fun _ => by intro z; cases z) with
    | dct h1 h2 h3 => rfl
theorem opd_isN : OpD X (compareOp .Is) oIsN := by
  intro pins s σ H x y v u Q I rx ry ⟨W, d, e, R, w, a, b, ⟨he, q⟩, k⟩
  subst he
  refine op_isN pins s σ H x y v u Q I rx ry ⟨b.none, ?_⟩
  rw [isN_of a]
  exact k _ _ H (Same.refl H) (.bl _) q
theorem opd_isnotN : OpD X (compareOp .IsNot) oIsNotN := by
  intro pins s σ H x y v u Q I rx ry ⟨W, d, e, R, w, a, b, ⟨he, q⟩, k⟩
  subst he
  refine op_notN pins s σ H x y v u Q I rx ry ⟨b.none, ?_⟩
  rw [isN_of a]
  exact k _ _ H (Same.refl H) (.bl _) q
/-- is, of two truths -/
def oIsB : OpT := fun d e R => ∃ a b : Bool, d = .bool a ∧ e = .bool b ∧ R (.bool (decide (a = b)))
def oIsNotB : OpT := fun d e R => ∃ a b : Bool, d = .bool a ∧ e = .bool b ∧ R (.bool (!decide (a = b)))
theorem opd_isB : OpD X (compareOp .Is) oIsB := by
  intro pins s σ H x y v u Q I rx ry ⟨W, d, e, R, w, a, b, ⟨i, j, hd, he, q⟩, k⟩
  subst hd; subst he
  exact op_is_bl pins s σ H x y v u Q I rx ry ⟨i, j, a.bool, b.bool, k _ _ H (Same.refl H) (.bl _) q⟩
theorem opd_isnotB : OpD X (compareOp .IsNot) oIsNotB := by
  intro pins s σ H x y v u Q I rx ry ⟨W, d, e, R, w, a, b, ⟨i, j, hd, he, q⟩, k⟩
  subst hd; subst he
  exact op_isnot_bl pins s σ H x y v u Q I rx ry ⟨i, j, a.bool, b.bool, k _ _ H (Same.refl H) (.bl _) q⟩
end
end PL
end

section
set_option Elab.async false
set_option linter.all false
set_option maxRecDepth 100000
set_option maxHeartbeats 4000000
namespace PL
open PySem PySem.Spec PyProof.Rows L2
/-! ### calls of built-ins -/
abbrev CaT := List D → (D → Prop) → Prop
def rCa (K : Fg) (r : CaT) : List V → Hp → VK → Prop := fun vs H Q => ∃ (W : AP) (ds : List D) (R : D → Prop), (∀ b, W b → ∃ o, H b = some o) ∧ RepsC K W H vs ds ∧ r ds R ∧ ∀ v c H', Same H H' → Rep K W H' v c → R c → Q v H'
def CaD (X : Cx) (f : Value) (r : CaT) : Prop := CallR X f (rCa X.K r)
def qCa (r : CaT) (t : TrL) : TrE := fun ρ R => t ρ fun ds => r ds R
theorem repsC1 {K : Fg} {W : AP} {H : Hp} {vs : List V} {d : D} (h : RepsC K W H vs [d]) : ∃ v, vs = [v] ∧ RepC K W H v d := by
  cases h with
  | cons a r => cases r; exact ⟨_, rfl, a⟩
theorem repsC2 {K : Fg} {W : AP} {H : Hp} {vs : List V} {d e : D} (h : RepsC K W H vs [d, e]) : ∃ v u, vs = [v, u] ∧ RepC K W H v d ∧ RepC K W H u e := by
  cases h with
  | cons a r =>
    obtain ⟨u, rfl, b⟩ := repsC1 r
    exact ⟨_, u, rfl, a, b⟩
section
variable {g : Gh} {X : Cx} {e : Expr} {es : List Expr} {t : TrL} {x : Str} {p pos : Pos} {id T : String} {r : CaT}
theorem ca_go {σ : L2.St} {H : Hp} {Q : VK} (h : ∃ W ρ R, St X.K g W H σ ρ ∧ qCa r t ρ R ∧ ∀ v d H', St X.K g W H' σ ρ → Evo W H W H' → Rep X.K W H' v d → R d → Q v H') :
    tCB (rCa X.K r) (fun σ H Q => ∃ W ρ R, St X.K g W H σ ρ ∧ t ρ R ∧ ∀ vs ds H', St X.K g W H' σ ρ → Evo W H W H' → RepsB X.K W H' σ ρ vs ds → R ds → Q vs H') σ H Q := by
  obtain ⟨W, ρ, R, S, q, k⟩ := h
  exact ⟨W, ρ, _, S, q, fun vs ds H1 S1 E1 r1 q1 => ⟨W, ds, R, S1.wH, RepsB.c S1 r1, q1, fun w c H2 sm r2 q2 => k w c H2 (S1.same_ sm).1 (E1.trans (S1.same_ sm).2) r2 q2⟩⟩
theorem qe_callB (hc : CaD X (.builtin id) r) (hg : Gl X x) (hm : X.mg x = none) (hv : bootBuiltins x = some (.builtin id)) (ha : QLB g X (e :: es) t) (hn : x ≠ "__name__" := by decide) (hdb : (x == ("__debug__" : Str)) = false := by decide)
    (he : starEach (e :: es) X.env = (false, eval e X.env) :: starEach es X.env := by rfl) (hpl : (backTo pos (starEach es X.env)).any (·.1) = false := by rfl) : QE g X (.Call (.Name x p) (e :: es) [] pos) (qCa r t) :=
  ⟨pe_imp (pe_callB hc hg hm hv ha.run hn hdb he hpl) fun σ H Q h => ca_go h⟩
theorem qe_callTy (hc : CaD X (.type T) r) (hg : Gl X x) (hm : X.mg x = none) (hv : bootBuiltins x = some (.type T)) (ha : QLB g X (e :: es) t) (hn : x ≠ "__name__" := by decide) (hdb : (x == ("__debug__" : Str)) = false := by decide)
    (he : starEach (e :: es) X.env = (false, eval e X.env) :: starEach es X.env := by rfl) (hpl : (backTo pos (starEach es X.env)).any (·.1) = false := by rfl) : QE g X (.Call (.Name x p) (e :: es) [] pos) (qCa r t) :=
  ⟨pe_imp (pe_callTy hc hg hm hv ha.run hn hdb he hpl) fun σ H Q h => ca_go h⟩
end
section
variable {X : Cx}
/-! ### len, tuple, list -/
def cLen : CaT := fun ds R => match ds with
  | [.str x] => x.length ≤ sizeLine ∧ R (.int x.length)
  | [.list xs] => R (.int xs.length)
  | [.tuple xs] => R (.int xs.length)
  | _ => False
theorem cad_len : CaD X (.builtin "len") cLen := by
  intro pins s σ H vs us Q I rv ⟨W, ds, R, w, r, q, k⟩
  cases r with
  | nil => exact q.elim
  | cons a r =>
    cases r with
    | cons b r => exact (by unfold cLen at q; split at q <;> simp_all)
    | nil =>
      rename_i v d
      cases d with
      | str x => exact call_len pins s σ H _ us Q I rv ⟨v, x.length, rfl, by rw [a.str]; exact ⟨q.1, rfl⟩, k _ _ H (Same.refl H) (.int _) q.2⟩
      | list xs =>
        obtain ⟨p, ys, rfl, h1, h2⟩ := a.list
        exact call_len pins s σ H _ us Q I rv ⟨_, ys.length, rfl, .inl ⟨ys, h1, rfl⟩, by rw [h2.length]; exact k _ _ H (Same.refl H) (.int _) q⟩
      | tuple xs =>
        obtain ⟨p, ys, rfl, h1, h2⟩ := a.tuple
        exact call_len pins s σ H _ us Q I rv ⟨_, ys.length, rfl, .inr ⟨ys, h1.sq, rfl⟩, by rw [h2.length]; exact k _ _ H (Same.refl H) (.int _) q⟩
      | _ => exact q.elim
/-- the items of a list, a tuple -/
def itemsD : D → Option (List D)
  | .list xs => some xs
  | .tuple xs => some xs
  | _ => none
def cTup : CaT := fun ds R => ∃ d xs, ds = [d] ∧ itemsD d = some xs ∧ R (.tuple xs)
def cLst : CaT := fun ds R => ∃ d xs, ds = [d] ∧ itemsD d = some xs ∧ R (.list xs)
theorem cad_tuple : CaD X (.type "tuple") cTup := by
  intro pins s σ H vs us Q I rv ⟨W, ds, R, w, r, ⟨d, xs, hd, hx, q⟩, k⟩
  subst hd
  obtain ⟨v, rfl, a⟩ := repsC1 r
  cases d with
  | list ys =>
    cases hx
    obtain ⟨p, zs, rfl, h1, h2⟩ := a.list
    exact call_tupleF pins s σ H _ us Q I rv ⟨p, zs, rfl, .inl ⟨h1, fun l o hl f => k _ _ _ (fun b o z => by rw [upd_ne (ne_of_none z hl)]; exact z) (rep_newT w hl f h2) q⟩⟩
  | tuple ys =>
    cases hx
    obtain ⟨p, zs, rfl, h1, h2⟩ := a.tuple
    exact call_tupleF pins s σ H _ us Q I rv ⟨p, zs, rfl, .inr ⟨h1.sq, k _ _ H (Same.refl H) (.tup h1 h2) q⟩⟩
  | _ => cases hx
theorem cad_list : CaD X (.type "list") cLst := by
  intro pins s σ H vs us Q I rv ⟨W, ds, R, w, r, ⟨d, xs, hd, hx, q⟩, k⟩
  subst hd
  obtain ⟨v, rfl, a⟩ := repsC1 r
  cases d with
  | list ys =>
    cases hx
    obtain ⟨p, zs, rfl, h1, h2⟩ := a.list
    exact call_list_of pins s σ H _ us Q I rv ⟨p, zs, rfl, .inl h1, fun l hl => k _ _ _ (fun b o z => by rw [upd_ne (ne_of_none z hl)]; exact z) (rep_newL w hl h2) q⟩
  | tuple ys =>
    cases hx
    obtain ⟨p, zs, rfl, h1, h2⟩ := a.tuple
    exact call_list_of pins s σ H _ us Q I rv ⟨p, zs, rfl, .inr h1.sq, fun l hl => k _ _ _ (fun b o z => by rw [upd_ne (ne_of_none z hl)]; exact z) (rep_newL w hl h2) q⟩
  | _ => cases hx

/-! ### all, any of truths; sum of ints; min, max of two -/
def boolsD : List D → Option (List Bool)
  | [] => some []
  | .bool b :: r => (boolsD r).map (b :: ·)
  | _ :: _ => none
theorem reps_bools {K : Fg} {W : AP} {H : Hp} : ∀ {xs : List V} {ds : List D} {bs : List Bool}, Reps K W H xs ds → boolsD ds = some bs → xs = bs.map V.bl
  | _, _, bs, .nil, h => by cases h; rfl
  | _, d :: ds, bs, .cons a r, h => by
    cases d with
    | bool b =>
      cases a
      cases e : boolsD ds with
      | none => simp [boolsD, e] at h
      | some cs =>
        simp [boolsD, e] at h
        subst h
        rw [reps_bools r e]
        rfl
    | _ => cases h
def cAll : CaT := fun ds R => ∃ xs bs, ds = [.list xs] ∧ boolsD xs = some bs ∧ R (.bool (bs.all id))
def cAny : CaT := fun ds R => ∃ xs bs, ds = [.list xs] ∧ boolsD xs = some bs ∧ R (.bool (bs.any id))
theorem cad_all (hc : X.calm = true) : CaD X (.builtin "all") cAll := by
  intro pins s σ H vs us Q I rv ⟨W, ds, R, w, r, ⟨xs, bs, hd, hx, q⟩, k⟩
  subst hd
  obtain ⟨v, rfl, a⟩ := repsC1 r
  obtain ⟨p, zs, rfl, h1, h2⟩ := a.list
  have e := reps_bools h2 hx
  subst e
  exact cr_all hc pins s σ H _ us Q I rv ⟨p, bs, rfl, h1, k _ _ H (Same.refl H) (.bl _) q⟩
theorem cad_any (hc : X.calm = true) : CaD X (.builtin "any") cAny := by
  intro pins s σ H vs us Q I rv ⟨W, ds, R, w, r, ⟨xs, bs, hd, hx, q⟩, k⟩
  subst hd
  obtain ⟨v, rfl, a⟩ := repsC1 r
  obtain ⟨p, zs, rfl, h1, h2⟩ := a.list
  have e := reps_bools h2 hx
  subst e
  exact cr_any hc pins s σ H _ us Q I rv ⟨p, bs, rfl, h1, k _ _ H (Same.refl H) (.bl _) q⟩
def intsD : List D → Option (List Int)
  | [] => some []
  | .int b :: r => (intsD r).map (b :: ·)
  | _ :: _ => none
theorem reps_ints {K : Fg} {W : AP} {H : Hp} : ∀ {xs : List V} {ds : List D} {bs : List Int}, Reps K W H xs ds → intsD ds = some bs → xs = bs.map V.int
  | _, _, bs, .nil, h => by cases h; rfl
  | _, d :: ds, bs, .cons a r, h => by
    cases d with
    | int b =>
      cases a
      cases e : intsD ds with
      | none => simp [intsD, e] at h
      | some cs =>
        simp [intsD, e] at h
        subst h
        rw [reps_ints r e]
        rfl
    | _ => cases h
def cSum : CaT := fun ds R => ∃ xs bs, ds = [.list xs] ∧ intsD xs = some bs ∧ R (.int bs.sum)
theorem cad_sum (hc : X.calm = true) : CaD X (.builtin "sum") cSum := by
  intro pins s σ H vs us Q I rv ⟨W, ds, R, w, r, ⟨xs, bs, hd, hx, q⟩, k⟩
  subst hd
  obtain ⟨v, rfl, a⟩ := repsC1 r
  obtain ⟨p, zs, rfl, h1, h2⟩ := a.list
  have e := reps_ints h2 hx
  subst e
  exact cr_sum hc pins s σ H _ us Q I rv ⟨p, bs, rfl, h1, k _ _ H (Same.refl H) (.int _) q⟩
def cMin2 : CaT := fun ds R => ∃ i j, ds = [.int i, .int j] ∧ R (.int (min i j))
def cMax2 : CaT := fun ds R => ∃ i j, ds = [.int i, .int j] ∧ R (.int (max i j))
theorem cad_min2 (hc : X.calm = true) : CaD X (.builtin "min") cMin2 := by
  intro pins s σ H vs us Q I rv ⟨W, ds, R, w, r, ⟨i, j, hd, q⟩, k⟩
  subst hd
  obtain ⟨v, u, rfl, a, b⟩ := repsC2 r
  rw [a.int, b.int] at rv
  refine call_min2 hc pins s σ H _ us Q I rv ⟨i, j, rfl, ?_⟩
  have e : (if j < i then j else i) = min i j := by split <;> omega
  rw [e]
  exact k _ _ H (Same.refl H) (.int _) q
theorem cad_max2 (hc : X.calm = true) : CaD X (.builtin "max") cMax2 := by
  intro pins s σ H vs us Q I rv ⟨W, ds, R, w, r, ⟨i, j, hd, q⟩, k⟩
  subst hd
  obtain ⟨v, u, rfl, a, b⟩ := repsC2 r
  rw [a.int, b.int] at rv
  refine call_max2 hc pins s σ H _ us Q I rv ⟨i, j, rfl, ?_⟩
  have e : (if j > i then j else i) = max i j := by split <;> omega
  rw [e]
  exact k _ _ H (Same.refl H) (.int _) q
def cAbs : CaT := fun ds R => ∃ i : Int, ds = [.int i] ∧ R (.int i.natAbs)
theorem cad_abs : CaD X (.builtin "abs") cAbs := by
  intro pins s σ H vs us Q I rv ⟨W, ds, R, w, r, ⟨i, hd, q⟩, k⟩
  subst hd
  obtain ⟨v, rfl, a⟩ := repsC1 r
  rw [a.int] at rv
  refine call_abs pins s σ H _ us Q I rv ⟨i, rfl, ?_⟩
  have e : (if i < 0 then -i else i) = (i.natAbs : Int) := by split <;> omega
  rw [e]
  exact k _ _ H (Same.refl H) (.int _) q
/-- int of an int, of a truth -/
def cInt : CaT := fun ds R => (∃ i, ds = [.int i] ∧ R (.int i)) ∨ (∃ b, ds = [.bool b] ∧ R (.int (if b then 1 else 0))) ∨ ∃ x n, ds = [.str x] ∧ PySem.intText? x = some n ∧ x.length ≤ 640 ∧ R (.int n)
theorem cad_int : CaD X (.type "int") cInt := by
  intro pins s σ H vs us Q I rv ⟨W, ds, R, w, r, q, k⟩
  rcases q with ⟨i, hd, q⟩ | ⟨i, hd, q⟩ | ⟨x, n, hd, h1, h2, q⟩
  · subst hd
    obtain ⟨v, rfl, a⟩ := repsC1 r
    rw [a.int] at rv
    exact call_int1 pins s σ H _ us Q I rv (.inl ⟨i, rfl, k _ _ H (Same.refl H) (.int _) q⟩)
  · subst hd
    obtain ⟨v, rfl, a⟩ := repsC1 r
    rw [a.bool] at rv
    exact call_int1 pins s σ H _ us Q I rv (.inr ⟨i, rfl, k _ _ H (Same.refl H) (.int _) q⟩)
  · subst hd
    obtain ⟨v, rfl, a⟩ := repsC1 r
    rw [a.str] at rv
    exact call_int_str pins s σ H _ us Q I rv ⟨x, n, rfl, h1, h2, k _ _ H (Same.refl H) (.int _) q⟩
def cStr : CaT := fun ds R => (∃ i : Int, ds = [.int i] ∧ i.natAbs.log2 < 1920 ∧ R (.str (toString i))) ∨ ∃ x, ds = [.str x] ∧ R (.str x)
theorem cad_str : CaD X (.type "str") cStr := by
  intro pins s σ H vs us Q I rv ⟨W, ds, R, w, r, q, k⟩
  rcases q with ⟨i, hd, h1, q⟩ | ⟨x, hd, q⟩
  · subst hd
    obtain ⟨v, rfl, a⟩ := repsC1 r
    rw [a.int] at rv
    exact call_str_int pins s σ H _ us Q I rv ⟨i, rfl, h1, k _ _ H (Same.refl H) (.str _) q⟩
  · subst hd
    obtain ⟨v, rfl, a⟩ := repsC1 r
    rw [a.str] at rv
    exact SkE.call_str_str pins s σ H _ us Q I rv ⟨x, rfl, k _ _ H (Same.refl H) (.str _) q⟩
def cOrd : CaT := fun ds R => ∃ x, ds = [.str x] ∧ x.length = 1 ∧ R (.int (x.cps.getD 0 0 : Nat))
theorem cad_ord : CaD X (.builtin "ord") cOrd := by
  intro pins s σ H vs us Q I rv ⟨W, ds, R, w, r, ⟨x, hd, h1, q⟩, k⟩
  subst hd
  obtain ⟨v, rfl, a⟩ := repsC1 r
  rw [a.str] at rv
  exact call_ord pins s σ H _ us Q I rv ⟨x, rfl, h1, k _ _ H (Same.refl H) (.int _) q⟩

/-! ### isinstance, repr -/
/-- a value's built-in class is asked for -/
theorem qe_isi {g : Gh} {a : Expr} {ta : TrE} {p0 p1 pos : Pos} {x T : Str} {Tn : String} {f : D → Bool} (ha : QB g X a ta) (hx : x = "isinstance") (hg : Gl X x) (hm : X.mg x = none) (hgT : Gl X T) (hmT : X.mg T = none) (hvT : bootBuiltins T = some (.type Tn))
    (rule : ∀ (s : Shared) (u : Value) (d : D) (as : List Addr) (Q E : Value → Shared → Prop), Reads s.heap u d as → (∀ tk, s.toks ≤ tk → Q (.bool (f d)) { s with toks := tk }) → wpAny (model X.prog X.w) X.A (call (.builtin "isinstance") [u, .type Tn]) Q E s)
    (hnT : T ≠ "__name__" := by decide) (hdT : (T == ("__debug__" : Str)) = false := by decide)
    (he : starEach [a, .Name T p1] X.env = (false, eval a X.env) :: starEach [.Name T p1] X.env := by rfl) (hs2 : starEach [.Name T p1] X.env = (false, eval (.Name T p1) X.env) :: starEach [] X.env := by rfl) (hpl : (backTo pos (starEach [.Name T p1] X.env)).any (·.1) = false := by rfl) :
    QE g X (.Call (.Name x p0) [a, .Name T p1] [] pos) (fun ρ R => ta ρ fun d => R (.bool (f d))) := by
  subst hx
  have hc : CallR X (.builtin "isinstance") (fun vs H Q => ∃ (W : AP) (v : V) (d : D) (R : D → Prop), vs = [v, .ty Tn] ∧ RepC X.K W H v d ∧ R (.bool (f d)) ∧ ∀ v c H', Same H H' → Rep X.K W H' v c → R c → Q v H') := by
    intro pins s σ H vs us Q I rv ⟨W, v, d, R, hv, a, q, k⟩
    subst hv
    obtain ⟨u1, u2, rfl, r1, r2⟩ := vals2 rv
    cases r2
    obtain ⟨as, r1, _⟩ := a.reads I r1
    exact rule s u1 d as _ _ r1 fun tk _ => ⟨.bl _, H, I.tok tk, rfl, k _ _ H (Same.refl H) (.bl _) q⟩
  exact ⟨pe_imp (pe_callB hc hg hm (by decide +kernel) (pa_cons ha.run (pa_cons (pe_bltn (v := .ty Tn) hgT hmT hvT rfl hnT hdT) pa_nil hs2) he) (by decide) (by decide) he hpl) fun σ H Q ⟨W, ρ, R, S, q, k⟩ =>
    ⟨W, ρ, _, S, q, fun v d H1 S1 E1 r1 q1 => ⟨W, v, d, R, rfl, r1.c S1, q1, fun w c H2 sm r2 q2 => k w c H2 (S1.same_ sm).1 (E1.trans (S1.same_ sm).2) r2 q2⟩⟩⟩
def cRepr : CaT := fun ds R => ∃ d, ds = [d] ∧ d.hasDict = false ∧ d.showable = true ∧ d.depth ≤ 60 ∧ d.shown.length ≤ sizeLine ∧ R (.str d.shown)
theorem cad_repr (hu : Un X) (hg : X.A.guards = some []) : CaD X (.builtin "repr") cRepr := by
  unfold Un at hu
  intro pins s σ H vs us Q I rv ⟨W, ds, R, w, r, ⟨d, hd, h0, h1, h2, h3, q⟩, k⟩
  subst hd
  obtain ⟨v, rfl, a⟩ := repsC1 r
  obtain ⟨u, rfl, ru⟩ := vals1 rv
  obtain ⟨as, rd, hsm⟩ := a.reads I ru
  cases rd with
  | none => exact P.repr_of_none ⟨.str _, H, I.tok _, ⟨_, rfl⟩, k _ _ H (Same.refl H) (.str _) q⟩
  | bool b => exact P.repr_of_bool ⟨.str _, H, I.tok _, ⟨_, rfl⟩, k _ _ H (Same.refl H) (.str _) q⟩
  | int i t => exact P.repr_of_int (of_decide_eq_true h1) ⟨.str _, H, I.tok _, ⟨_, rfl⟩, k _ _ H (Same.refl H) (.str _) q⟩
  | str x t => exact P.repr_of_str ⟨.str _, H, I.tok _, ⟨_, rfl⟩, k _ _ H (Same.refl H) (.str _) q⟩ h3
  | list a1 a2 a3 a4 => exact repr_of_reads' (Reads.list a1 a2 a3 a4) h1 (fun z => by rw [h0] at z; cases z) hg (by omega) (fun _ _ z => z) (fun h' u tk kp => ⟨.str _, H, I.kept kp, ⟨_, rfl⟩, k _ _ H (Same.refl H) (.str _) q⟩) h3
  | tuple a1 a2 a3 a4 => exact repr_of_reads' (Reads.tuple a1 a2 a3 a4) h1 (fun z => by rw [h0] at z; cases z) hg (by omega) (fun _ _ z => z) (fun h' u tk kp => ⟨.str _, H, I.kept kp, ⟨_, rfl⟩, k _ _ H (Same.refl H) (.str _) q⟩) h3
  | dict a1 a2 a3 a4 a5 => exact repr_of_reads' (Reads.dict a1 a2 a3 a4 a5) h1 (fun z => by rw [h0] at z; cases z) hg (by omega) (fun _ _ z => z) (fun h' u tk kp => ⟨.str _, H, I.kept kp, ⟨_, rfl⟩, k _ _ H (Same.refl H) (.str _) q⟩) h3

/-! ### sorted -/
def sortD (ds : List D) : List D := ds.mergeSort (PySem.W.dataLe false id)
def cSorted : CaT := fun ds R => ∃ d xs, ds = [d] ∧ itemsD d = some xs ∧ PySem.W.AllAlike xs ∧ PySem.W.Sortable xs ∧ (∀ x ∈ xs, x.depth ≤ 60) ∧ R (.list (sortD xs))
theorem collect_tup {prog : Program} {w : World} {A : Around} {E : Value → Shared → Prop} {s : Shared} {l : Addr} {vs : List Value} {Q : List Value → Shared → Prop} (hl : IsTup s.heap l vs.toArray) (hsz : vs.length ≤ sizeLine)
    (h : Q vs { s with heap := (s.heap.push (seqObj "list" #[] 0)).update s.heap.objs.size (Obj.mapSeq (· ++ vs.toArray)) }) : wpAny (model prog w) A (collect (.ref l)) Q E s := by
  obtain ⟨o, ho, hc, n, hd⟩ := hl
  unfold collect
  refine wpAny_bind (wpAny_runValue (codeAny_builtin entry_proto_collect' ?_))
  show wpAny _ _ (do again (.builtin "list.__iadd__" ⟨[← newList [], .ref l], []⟩)) _ _ s
  refine wpAny_bind (wpAny_newList (wpAny_pure ⟨Code.quiet_builtin _ (by decide +kernel), codeAny_builtin entry_list_iadd' ?_⟩))
  show wpAny _ _ (Builtin.List.listExtendWith (.ref s.heap.objs.size) (.ref l) (.ref s.heap.objs.size)) _ _ { s with heap := s.heap.push (seqObj "list" #[] 0) }
  unfold Builtin.List.listExtendWith
  have ho' : (s.heap.push (seqObj "list" #[] 0)).get? l = some o := Heap.get?_push_of_some _ ho
  refine wpAny_bind (wpAny_typeOf (T := "tuple") ⟨o, ho', hc⟩ ?_)
  have ht : (Value.type "tuple" == Value.type "tuple") = true := by rfl
  rw [if_pos (by rw [ht]; simp)]
  refine wpAny_bind (listItems_at ho' hd ?_)
  refine wpAny_bind (listItems_at (xs := #[]) (n := 0) (Heap.get?_push_size _ rfl) rfl ?_)
  rw [if_neg (by simp)]
  refine wpAny_bind (listUpdate_at (xs := #[]) (n := 0) (Heap.get?_push_size _ rfl) rfl ?_ (Nat.zero_le _) (by show (#[] ++ vs.toArray).size ≤ sizeLine + 1; simp only [Array.size_append, List.size_toArray, List.length_nil]; omega))
  refine wpAny_pure ?_
  show wpAny (model prog w) A (do
      let o ← load s.heap.objs.size
      match o.data with
      | .seq xs _ => pure xs.toList
      | _ => unsupported "internal:collect") Q E { s with heap := (s.heap.push (seqObj "list" #[] 0)).update s.heap.objs.size (Obj.mapSeq (· ++ vs.toArray)) }
  refine wpAny_bind (wpAny_load (get?_update_seq (Heap.get?_push_size _ rfl) _) ?_)
  show wpAny _ _ (pure ((#[] : Array Value) ++ vs.toArray).toList) Q E _
  rw [show ((#[] : Array Value) ++ vs.toArray).toList = vs by simp]
  exact wpAny_pure h
theorem sorted_tup_of {prog : Program} {w : World} {A : Around} {E : Value → Shared → Prop} {s : Shared} {l : Addr} {vs : List Value} {Q : Value → Shared → Prop} (hl : IsTup s.heap l vs.toArray) (hL : vs.length ≤ sizeLine)
    (body : ∀ E' : Value → Shared → Prop, wpAny (model prog w) A.in1.in1 (Builtin.«list.sort» ⟨[.ref (s.heap.objs.size + 1)], []⟩) (fun f s' => f = .done (.ret .none) ∧ Q (.ref (s.heap.objs.size + 1)) s') E' { s with heap := PySem.W.copyHeap s.heap vs }) :
    wpAny (model prog w) A (call (.builtin "sorted") [.ref l]) Q E s := by
  refine Calls.call_function_entry kind_sorted plain_sorted entry_sorted (args_sorted1 _) ?_
  unfold Builtin.«sorted»
  refine wpAny_bind (m := checkCount "sorted" 1 1 _) (wpAny_pure ?_)
  refine wpAny_bind (collect_tup hl hL ?_)
  refine wpAny_bind (wpAny_newList ?_ hL)
  have hsz : ((s.heap.push (seqObj "list" #[] 0)).update s.heap.objs.size (Obj.mapSeq (· ++ vs.toArray))).objs.size = s.heap.objs.size + 1 := by
    rw [Heap.size_update, size_push']
  show wpAny _ _ _ _ _ { s with heap := PySem.W.copyHeap s.heap vs }
  rw [hsz]
  refine wpAny_bind (wpAny_holding (wpAny_call_entry slot_list_sort ⟨_, PySem.W.copyHeap_at s.heap vs, rfl⟩ entry_list_sort ?body (args_list_sort _)))
  case body =>
    refine wpAny_mono (body _) (fun f s' hf => ?_) fun _ _ e => e
    obtain ⟨rfl, hq⟩ := hf
    exact ⟨_, rfl, wpAny_pure ⟨_, rfl, hq⟩⟩
theorem each_relv : ∀ {xs : List V} {us : List Value} {ds : List D}, Vals xs us → xs.length = ds.length → PySem.W.EachIs (fun (u : Value) (p : V × D) => RelV p.1 u) us (xs.zip ds)
  | _, _, [], .nil, _ => .nil
  | _, _, d :: ds, .cons a r, h => .cons a (each_relv r (by simpa using h))
theorem each_reads {h : Heap} : ∀ {xs : List V} {us : List Value} {ds : List D} {as : List Addr}, xs.length = ds.length → ReadsAll h us ds as → PySem.W.EachIs (fun (u : Value) (p : V × D) => ∃ as, Reads h u p.2 as) us (xs.zip ds)
  | [], _, [], _, _, .nil => .nil
  | _ :: xs, _, _ :: ds, _, h, .cons a r => .cons ⟨_, a⟩ (each_reads (by simpa using h) r)
theorem vals_each : ∀ {us : List Value} {ps : List (V × D)}, PySem.W.EachIs (fun (u : Value) (p : V × D) => RelV p.1 u) us ps → Vals (ps.map (·.1)) us
  | _, _, .nil => .nil
  | _, _, .cons a r => .cons a (vals_each r)
theorem reps_zip {K : Fg} {W : AP} {H : Hp} : ∀ {xs : List V} {ds : List D}, Reps K W H xs ds → ∀ p ∈ xs.zip ds, Rep K W H p.1 p.2
  | _, _, .nil, p, h => by simp at h
  | _, _, .cons a r, p, h => by
    rcases List.mem_cons.mp h with h | h
    · rw [h]; exact a
    · exact reps_zip r p h
theorem reps_of_mem {K : Fg} {W : AP} {H : Hp} : ∀ (ps : List (V × D)), (∀ p ∈ ps, Rep K W H p.1 p.2) → Reps K W H (ps.map (·.1)) (ps.map (·.2))
  | [], _ => .nil
  | p :: ps, h => .cons (h p List.mem_cons_self) (reps_of_mem ps fun q hq => h q (List.mem_cons_of_mem _ hq))
theorem map_snd_zip' {xs : List V} {ds : List D} (h : xs.length = ds.length) : (xs.zip ds).map (·.2) = ds := List.map_snd_zip (by omega)
theorem cad_sorted (hu : Un X) : CaD X (.builtin "sorted") cSorted := by
  unfold Un at hu
  intro pins s σ H vs us Q I rv ⟨W, ds, R, w, r, ⟨d, xs, hd, hx, al, so, de, q⟩, k⟩
  subst hd
  obtain ⟨v, rfl, a⟩ := repsC1 r
  obtain ⟨u, rfl, ru⟩ := vals1 rv
  have core : ∀ (p : Addr) (zs : List V) (its : List Value), v = .ref p → Reps X.K W H zs xs → Vals zs its → zs.length ≤ sizeLine → (s.heap.IsList p its.toArray ∨ IsTup s.heap p its.toArray) → wpAny (model X.prog X.w) X.A (call (.builtin "sorted") [u]) (EP X pins σ Q) X.xe s := by
    intro p zs its hv h2 rz hz hp
    subst hv
    cases ru
    have l2 := h2.length
    have l3 := rz.length
    obtain ⟨as, rd, _⟩ := Reps.reads I xs zs its h2 rz
    have hbs : (zs.zip xs).map Prod.snd = xs := map_snd_zip' l2
    have fin : ∀ out : List Value, out.length = (zs.zip xs).length → PySem.W.EachIs (fun (u : Value) (p : V × D) => RelV p.1 u) out ((zs.zip xs).mergeSort (PySem.W.dataLe false Prod.snd)) →
        EP X pins σ Q (.ref (s.heap.objs.size + 1)) { s with heap := sortedAll s.heap its (List.toArray out) } := by
      intro out ho eo
      obtain ⟨c, hc⟩ := sortedAll_at s.heap its out.toArray
      have ev := vals_each eo
      have e2 : ((zs.zip xs).mergeSort (PySem.W.dataLe false Prod.snd)).map (·.2) = sortD xs := by
        have z := PySem.W.sort_maps (r := PySem.W.dataLe false (Prod.snd : V × D → D)) (s := PySem.W.dataLe false id) (Prod.snd : V × D → D) (l := zs.zip xs) (fun _ _ _ _ => rfl)
        rw [hbs] at z
        exact z
      have hn : H (s.heap.objs.size + 1) = none := I.hok.fresh (Nat.le_succ _)
      have rr : Reps X.K W H (((zs.zip xs).mergeSort (PySem.W.dataLe false Prod.snd)).map (·.1)) (sortD xs) := by
        rw [← e2]
        exact reps_of_mem _ fun p hp => reps_zip h2 p (List.mem_mergeSort.mp hp)
      refine ⟨.ref (s.heap.objs.size + 1), _, I.laid (t' := s.toks) (fun _ _ => sortedAll_old) (Nat.le_succ _) (show ObjOk X.prog X.w _ _ _ (.lst (((zs.zip xs).mergeSort (PySem.W.dataLe false Prod.snd)).map (·.1))) from ⟨?_, out, c, ev, hc⟩), rfl,
        k _ _ _ (fun b o z => by rw [upd_ne (ne_of_none z hn)]; exact z) (rep_newL w hn rr) q⟩
      rw [List.length_map, List.length_mergeSort, List.length_zip]
      omega
    have hal : PySem.W.AllAlike ((zs.zip xs).map Prod.snd) := by rw [hbs]; exact al
    have hso : PySem.W.Sortable ((zs.zip xs).map Prod.snd) := by rw [hbs]; exact so
    have hL : (zs.zip xs).length ≤ sizeLine := by rw [List.length_zip]; omega
    have hdp : ∀ b ∈ zs.zip xs, b.2.depth ≤ 60 := fun b hb => de _ (List.of_mem_zip hb).2
    rcases hp with hp | hp
    · exact PySem.W.sorted_data hp (each_relv rz l2) (each_reads l2 rd) hal hso hL (fun b hb => by have := hdp b hb; omega) fun out ho eo => fin out ho eo
    · have er := each_reads l2 rd
      have er' : PySem.W.EachIs (fun (u : Value) (p : V × D) => ∃ as, Reads (PySem.W.sortingHeap (PySem.W.copyHeap s.heap its) (s.heap.objs.size + 1) its) u p.2 as) its (zs.zip xs) := er.mono fun _ _ ⟨as, r⟩ => ⟨as, PyProof.Rows.Reads.keeps (fun _ _ => PySem.W.sorting_copy_old (vs := its)) r⟩
      refine sorted_tup_of hp (by omega) fun E' => PySem.W.list_sort_vals (s := { s with heap := PySem.W.copyHeap s.heap its }) (PySem.W.copyHeap_at s.heap its)
        (PySem.W.SortsAt.data (s := { s with heap := PySem.W.sortingHeap (PySem.W.copyHeap s.heap its) (s.heap.objs.size + 1) its }) (PySem.W.each_map (R := fun v d => ∃ as, Reads (PySem.W.sortingHeap (PySem.W.copyHeap s.heap its) (s.heap.objs.size + 1) its) v d as) Prod.snd er') hal hso
          (PySem.W.bound_map fun b hb => by have := hdp b hb; show X.A.units + 1 + 1 + _ < _; omega)) (by omega) ⟨rfl, ?_⟩
      exact fin _ (by rw [PySem.W.sortVals_length false rfl]; rw [List.length_zip]; omega) (PySem.W.sortVals_data false (each_relv rz l2) er' hal)
  cases d with
  | list ys =>
    cases hx
    obtain ⟨p, zs, rfl, h1, h2⟩ := a.list
    obtain ⟨its, rz, pl, hz⟩ := I.list h1
    exact core p zs its rfl h2 rz hz (.inl pl.isList)
  | tuple ys =>
    cases hx
    obtain ⟨p, zs, rfl, h1, h2⟩ := a.tuple
    obtain ⟨its, rz, pl, hz⟩ := I.tuple h1.sq
    exact core p zs its rfl h2 rz hz (.inr pl)
  | _ => cases hx
end
end PL
end

section
set_option Elab.async false
set_option linter.all false
set_option maxRecDepth 100000
set_option maxHeartbeats 4000000
namespace PL
open PySem PySem.Spec PyProof.Rows L2
/-! ### subscripts -/
section
variable {g : Gh} {X : Cx} {a b e : Expr} {es : List Expr} {ta tb to : TrE} {t : TrL} {pos p2 apos cpos : Pos}
theorem atI_reps {K : Fg} {W : AP} {H : Hp} {xs : List V} {ds : List D} {i : Int} {d : D} (r : Reps K W H xs ds) (h : atI ds i = some d) : ∃ v, atI xs i = some v ∧ Rep K W H v d := by
  unfold atI at h ⊢
  rw [r.length]
  cases e : ixN ds.length i with
  | none => rw [e] at h; cases h
  | some j => rw [e] at h; exact r.get' h
def oIx : OpT := fun d e R => match d with
  | .list xs => ∃ i v, e = .int i ∧ atI xs i = some v ∧ R v
  | .tuple xs => ∃ i v, e = .int i ∧ atI xs i = some v ∧ R v
  | .str z => ∃ i c, e = .int i ∧ z.length ≤ sizeLine ∧ atI z.cps.toList i = some c ∧ R (.str ⟨#[c]⟩)
  | _ => False
theorem qe_ix (ha : QB g X a ta) (hb : QB g X b tb) (hs : PlainIx b) : QE g X (.Subscript a b pos) (qOp oIx ta tb) :=
  ⟨pe_imp (pe_ix ix_seq ha.run hb.run hs) fun σ H Q ⟨W, ρ, R, S, q, k⟩ => ⟨W, ρ, _, S, q, fun v d H1 S1 E1 r1 q1 => ⟨W, ρ, _, S1, q1, fun u e H2 S2 E2 r2 q2 => by
    have E3 := E1.trans E2
    have c1 := (r1.evo E2).c S2
    have c2 := r2.c S2
    cases d with
    | list xs =>
      obtain ⟨i, w, he, hx, q2⟩ := q2
      subst he
      obtain ⟨p, ys, rfl, h1, h2⟩ := c1.list
      obtain ⟨z, hz, rz⟩ := atI_reps h2 hx
      exact .inl ⟨p, ys, i, z, rfl, c2.int, h1, hz, k z w H2 S2 E3 rz q2⟩
    | tuple xs =>
      obtain ⟨i, w, he, hx, q2⟩ := q2
      subst he
      obtain ⟨p, ys, rfl, h1, h2⟩ := c1.tuple
      obtain ⟨z, hz, rz⟩ := atI_reps h2 hx
      exact .inr (.inl ⟨p, ys, i, z, rfl, c2.int, h1.sq, hz, k z w H2 S2 E3 rz q2⟩)
    | str x =>
      obtain ⟨i, c, he, hx, hc, q2⟩ := q2
      subst he
      exact .inr (.inr ⟨x, i, c, c1.str, c2.int, hx, hc, k _ _ H2 S2 E3 (.str _) q2⟩)
    | _ => exact q2.elim⟩⟩⟩

/-! ### slices -/
abbrev TrO := En → (Option Int → Prop) → Prop
structure QO (g : Gh) (X : Cx) (e : Option Expr) (t : TrO) : Prop where
  run : PO X e (fun σ H Q => ∃ W ρ R, St X.K g W H σ ρ ∧ t ρ R ∧ ∀ o H', St X.K g W H' σ ρ → Evo W H W H' → R o → Q o H')
theorem po_imp {e : Option Expr} {t t' : TO} (h : PO X e t) (i : ∀ σ H Q, t' σ H Q → t σ H Q) : PO X e t' := ⟨fun p s σ H Q I q => h.run p s σ H Q I (i σ H Q q)⟩
def qNo : TrO := fun _ R => R none
def qSo (ta : TrE) : TrO := fun ρ R => ta ρ fun d => ∃ i, d = .int i ∧ R (some i)
theorem qo_none : QO g X none qNo := ⟨po_imp po_none fun σ H Q ⟨W, ρ, R, S, q, k⟩ => k none H S (Evo.refl W H) q⟩
theorem qo_some (ha : QB g X a ta) : QO g X (some a) (qSo ta) :=
  ⟨po_imp (po_some ha.run) fun σ H Q ⟨W, ρ, R, S, q, k⟩ => ⟨W, ρ, _, S, q, fun v d H1 S1 E1 r1 ⟨i, hd, q1⟩ => by
    subst hd
    exact ⟨i, (r1.c S1).int, k _ H1 S1 E1 q1⟩⟩⟩
def cutD (xs : List D) (lo hi : Option Int) : List D := (xs.drop (HT.sIx xs.length 0 lo)).take (HT.sIx xs.length xs.length hi - HT.sIx xs.length 0 lo)
theorem reps_cut {K : Fg} {W : AP} {H : Hp} {xs : List V} {ds : List D} (r : Reps K W H xs ds) (lo hi : Option Int) : Reps K W H (cutV xs lo hi) (cutD ds lo hi) := by
  unfold cutV cutD
  rw [r.length]
  exact (r.drop _).take _
abbrev SlT := D → Option Int → Option Int → (D → Prop) → Prop
def oSl : SlT := fun d lo hi R => match d with
  | .list xs => R (.list (cutD xs lo hi))
  | .tuple xs => R (.tuple (cutD xs lo hi))
  | .str z => z.length ≤ sizeLine ∧ R (.str (cutS z lo hi))
  | _ => False
def qSl (ta : TrE) (tl th : TrO) : TrE := fun ρ R => ta ρ fun d => tl ρ fun l => th ρ fun h => oSl d l h R
theorem cut_whole (xs : List D) {lo hi : Option Int} (h : HT.sIx xs.length 0 lo = 0 ∧ HT.sIx xs.length xs.length hi = xs.length) : cutD xs lo hi = xs := by
  unfold cutD
  rw [h.1, h.2]
  simp
theorem sld : SlR X (fun v lo hi H Q => ∃ (W : AP) (d : D) (R : D → Prop), (∀ b, W b → ∃ o, H b = some o) ∧ RepC X.K W H v d ∧ oSl d lo hi R ∧ ∀ w c H', Same H H' → Rep X.K W H' w c → R c → Q w H') := by
  intro pins s σ H x v vl vu lo hi sl Q I rx hs pl pu ⟨W, d, R, w, a, q, k⟩
  cases d with
  | list ds =>
    obtain ⟨p, ys, rfl, h1, h2⟩ := a.list
    exact sl_list pins s σ H _ v vl vu lo hi sl Q I rx hs pl pu ⟨p, ys, rfl, h1, fun l hl => k _ _ _ (fun b o z => by rw [upd_ne (ne_of_none z hl)]; exact z) (rep_newL w hl (reps_cut h2 lo hi)) q⟩
  | tuple ds =>
    obtain ⟨p, ys, rfl, h1, h2⟩ := a.tuple
    have l := h2.length
    refine sl_tupF pins s σ H _ v vl vu lo hi sl Q I rx hs pl pu ⟨p, ys, rfl, h1.sq, fun z => ?_, fun z l o hl f => ?_⟩
    · have z' : HT.sIx ds.length 0 lo = 0 ∧ HT.sIx ds.length ds.length hi = ds.length := by rw [← l]; exact z
      have q' : R (.tuple (cutD ds lo hi)) := q
      rw [cut_whole ds z'] at q'
      exact k _ _ H (Same.refl H) (.tup h1 h2) q'
    · exact k _ _ _ (fun b o z => by rw [upd_ne (ne_of_none z hl)]; exact z) (rep_newT w hl f (reps_cut h2 lo hi)) q
  | str z => exact sl_str pins s σ H _ v vl vu lo hi sl Q I rx hs pl pu ⟨z, a.str, q.1, k _ _ H (Same.refl H) (.str _) q.2⟩
  | _ => exact q.elim
theorem qe_slice {lo hi : Option Expr} {tl th : TrO} (ha : QB g X a ta) (hl : QO g X lo tl) (hh : QO g X hi th) : QE g X (.Subscript a (.Slice lo hi none p2) pos) (qSl ta tl th) :=
  ⟨pe_imp (pe_slice sld ha.run hl.run hh.run) fun σ H Q ⟨W, ρ, R, S, q, k⟩ => ⟨W, ρ, _, S, q, fun v d H1 S1 E1 r1 q1 => ⟨W, ρ, _, S1, q1, fun l H2 S2 E2 q2 => ⟨W, ρ, _, S2, q2, fun h H3 S3 E3 q3 =>
    ⟨W, d, R, S3.wH, ((r1.evo E2).evo E3).c S3, q3, fun w c H4 sm r4 q4 => k w c H4 (S3.same_ sm).1 (((E1.trans E2).trans E3).trans (S3.same_ sm).2) r4 q4⟩⟩⟩⟩⟩

/-! ### methods of built-in types -/
def tyD : D → Option String
  | .str _ => some "str"
  | .list _ => some "list"
  | .tuple _ => some "tuple"
  | _ => none
theorem tyD_is {pins : List (Addr × Obj)} {σ : L2.St} {H : Hp} {s : Shared} {W : AP} {v : V} {u : Value} {d : D} {T : String} (I : Inv X pins σ H s) (r : RelV v u) (h : RepC X.K W H v d) (t : tyD d = some T) :
    s.TypeIs u T ∧ ∀ a, u = .ref a → ∃ ob, s.heap.get? a = some ob ∧ ob.dict = none := by
  cases d with
  | str z =>
    cases t
    rw [h.str] at r
    obtain ⟨k, rfl⟩ := r
    exact ⟨typeIs_str s z k, fun _ e => nomatch e⟩
  | list ds =>
    cases t
    obtain ⟨p, xs, rfl, h1, _⟩ := h.list
    cases r
    obtain ⟨its, _, pl, _⟩ := I.list h1
    refine ⟨pl.isList.typeIs, fun a e => ?_⟩
    cases e
    obtain ⟨o, n, e, c, hd, _⟩ := pl
    exact ⟨o, e, hd⟩
  | tuple ds =>
    cases t
    obtain ⟨p, xs, rfl, h1, _⟩ := h.tuple
    cases r
    obtain ⟨ob, e, hc, hd⟩ := h1.at I
    exact ⟨⟨ob, e, hc⟩, fun a z => by cases z; exact ⟨ob, e, hd⟩⟩
  | _ => cases t
abbrev MeT := D → List D → (D → Prop) → Prop
def MtD (X : Cx) (id : String) (r : MeT) : Prop :=
  MtR X id (fun v vs H Q => ∃ (W : AP) (d : D) (ds : List D) (R : D → Prop), (∀ b, W b → ∃ o, H b = some o) ∧ RepC X.K W H v d ∧ RepsC X.K W H vs ds ∧ r d ds R ∧ ∀ w c H', Same H H' → Rep X.K W H' w c → R c → Q w H')
def qMt0 (T : String) (r : MeT) (to : TrE) : TrE := fun ρ R => to ρ fun d => tyD d = some T ∧ r d [] R
def qMt (T : String) (r : MeT) (to : TrE) (t : TrL) : TrE := fun ρ R => to ρ fun d => tyD d = some T ∧ t ρ fun ds => r d ds R
theorem qe_bm0 {T id : String} {name : Str} {r : MeT} (hm : MtD X id r) (ho : QB g X a to) (pa : PlainAttrs T) (slot : Slot T name id) (hty : typeOf (.builtin id) = pure (.type "method_descriptor"))
    (hbase : attributeBase a name X.env (eval a X.env) = eval a X.env := by rfl) (hline : (apos.endLine == cpos.line) = true := by rfl) : QE g X (.Call (.Attribute a name apos) [] [] cpos) (qMt0 T r to) := by
  refine ⟨⟨fun pins s σ H Q I ⟨W, ρ, R, S, q, k⟩ => ?_⟩⟩
  refine wpAny_Call_method0_late hbase hline (thn (ho.run.run pins s σ H _ I ⟨W, ρ, _, S, q, fun v d H1 S1 E1 r1 q1 => (⟨S1, E1, d, r1, q1⟩ : St X.K g W H1 σ ρ ∧ Evo W H W H1 ∧ ∃ d, RepB X.K W H1 σ ρ v d ∧ tyD d = some T ∧ r d [] R)⟩) fun v s1 ⟨x, H1, I1, rx, S1, E1, d, r1, ty, q1⟩ => ?_)
  obtain ⟨h1, h2⟩ := tyD_is I1 rx (r1.c S1) ty
  exact ⟨T, id, pa, slot, hty, h1, h2, Calls.callWith_builtin rfl (PySem.evalArgs_none (hm pins s1 σ H1 x [] v [] Q I1 rx .nil ⟨W, d, [], R, S1.wH, r1.c S1, .nil, q1, fun w c H2 sm r2 q2 =>
    k w c H2 (S1.same_ sm).1 (E1.trans (S1.same_ sm).2) r2 q2⟩))⟩
theorem qe_bm {T id : String} {name : Str} {r : MeT} (hm : MtD X id r) (ho : QB g X a to) (ha : QLB g X (e :: es) t) (pa : PlainAttrs T) (slot : Slot T name id) (hty : typeOf (.builtin id) = pure (.type "method_descriptor"))
    (hbase : attributeBase a name X.env (eval a X.env) = eval a X.env := by rfl)
    (hfew : ((backTo cpos (starEach (e :: es) X.env)).all (fun z => !z.1) && (backToKw cpos (keywordEach [] X.env)).all (fun z => z.1.isSome)
      && decide ((e :: es).length + ([] : List Keyword).length + (if ([] : List Keyword).isEmpty then 0 else 1) < 30)) = true := by rfl)
    (hline : (apos.endLine == cpos.line) = true := by rfl) (hs : starEach (e :: es) X.env = (false, eval e X.env) :: starEach es X.env := by rfl) (hplain : (backTo cpos (starEach es X.env)).any (·.1) = false := by rfl) :
    QE g X (.Call (.Attribute a name apos) (e :: es) [] cpos) (qMt T r to t) := by
  refine ⟨⟨fun pins s σ H Q I ⟨W, ρ, R, S, q, k⟩ => ?_⟩⟩
  refine wpAny_Call_method_late hbase hfew hline rfl (thn (ho.run.run pins s σ H _ I ⟨W, ρ, _, S, q, fun v d H1 S1 E1 r1 q1 =>
    (⟨S1, E1, d, r1, q1⟩ : St X.K g W H1 σ ρ ∧ Evo W H W H1 ∧ ∃ d, RepB X.K W H1 σ ρ v d ∧ tyD d = some T ∧ t ρ fun ds => r d ds R)⟩) fun v s1 ⟨x, H1, I1, rx, S1, E1, d, r1, ty, q1⟩ => ?_)
  obtain ⟨h1, h2⟩ := tyD_is I1 rx (r1.c S1) ty
  refine ⟨T, id, pa, slot, hty, h1, h2, ?_⟩
  have hA := ha.run.run cpos pins s1 σ H1 _ I1 ⟨W, ρ, _, S1, q1, fun vs ds H2 S2 E2 r2 q2 => (⟨S2, E2, ds, r2, q2⟩ : St X.K g W H2 σ ρ ∧ Evo W H1 W H2 ∧ ∃ ds, RepsB X.K W H2 σ ρ vs ds ∧ r d ds R)⟩
  rw [hs] at hA ⊢
  refine Calls.callWith_builtin (by show (false || (backTo cpos (starEach es X.env)).any (·.1)) = false; rw [Bool.false_or]; exact hplain) (Calls.evalArgs_plain ?_)
  exact thn hA fun us s2 ⟨vs, H2, I2, rv, S2, E2, ds, r2, q2⟩ => hm pins s2 σ H2 x vs v us Q I2 rx rv ⟨W, d, ds, R, S2.wH, (r1.evo E2).c S2, RepsB.c S2 r2, q2, fun w c H3 sm r3 q3 =>
    k w c H3 (S2.same_ sm).1 ((E1.trans E2).trans (S2.same_ sm).2) r3 q3⟩

/-- .count(x) -/
def mCountL : MeT := fun d ds R => ∃ xs x, d = .list xs ∧ ds = [x] ∧ PyData.plainAll xs = true ∧ x.plain = true ∧ x.depth ≤ 60 ∧ R (.int (xs.countP fun y => PyData.eqv y x : Nat))
def mCountT : MeT := fun d ds R => ∃ xs x, d = .tuple xs ∧ ds = [x] ∧ PyData.plainAll xs = true ∧ x.plain = true ∧ x.depth ≤ 60 ∧ R (.int (xs.countP fun y => PyData.eqv y x : Nat))
theorem mtd_countL (hu : Un X) : MtD X "list.count" mCountL := by
  unfold Un at hu
  intro pins s σ H v vs u us Q I rv rvs ⟨W, d, ds, R, w, a, rs, ⟨xs, x, hx, hd, p1, p2, p3, q⟩, k⟩
  subst hd; subst hx
  obtain ⟨y, rfl, b⟩ := repsC1 rs
  obtain ⟨uy, rfl, ry⟩ := vals1 rvs
  obtain ⟨as, r1, _⟩ := a.reads I rv
  obtain ⟨bs, r2, _⟩ := b.reads I ry
  cases r1 with
  | list g1 g2 g3 g4 => exact SeqAt.count_list_data ⟨_, g1, g2, _, g3⟩ g4 r2 p1 p2 (by omega) ⟨.int _, H, I.tok _, ⟨_, rfl⟩, k _ _ H (Same.refl H) (.int _) q⟩
theorem mtd_countT (hu : Un X) : MtD X "tuple.count" mCountT := by
  unfold Un at hu
  intro pins s σ H v vs u us Q I rv rvs ⟨W, d, ds, R, w, a, rs, ⟨xs, x, hx, hd, p1, p2, p3, q⟩, k⟩
  subst hd; subst hx
  obtain ⟨y, rfl, b⟩ := repsC1 rs
  obtain ⟨uy, rfl, ry⟩ := vals1 rvs
  obtain ⟨as, r1, _⟩ := a.reads I rv
  obtain ⟨bs, r2, _⟩ := b.reads I ry
  cases r1 with
  | tuple g1 g2 g3 g4 => exact SeqAt.count_tuple_data ⟨_, g1, g2, _, g3⟩ g4 r2 p1 p2 (by omega) ⟨.int _, H, I.tok _, ⟨_, rfl⟩, k _ _ H (Same.refl H) (.int _) q⟩
end
end PL
end

section
set_option Elab.async false
set_option linter.all false
set_option maxRecDepth 100000
set_option maxHeartbeats 4000000
namespace PL
open PySem PySem.Spec PyProof.Rows L2
/-! ### a def, called where no repr is under way -/
structure FnG (P : Program) (w : World) (K : Fg) (mg : Str → Option Value) (base : Heap) (k : Nat) (f : Addr) (fd : FuncData) (ps : List Str) (sp : Sp) : Prop where
  len : ∀ vs H Q E, sp vs H Q E → vs.length = ps.length
  run : ∀ (A : Around) (outer : List Env) (s : Shared) (H : Hp) (args : Args) (us : List Value) (vs : List V) (Q : VK) (E : XK), Room k A → A.guards = some [] → Env0 P w K mg base A outer s H → BindsTo s fd args (ps.zip us) → Vals vs us → sp vs H Q E →
    codeAny (model P w) A (.call (.ref f) args) (CR (L2.CX P w) outer P w H s Q E) s
theorem FnG.mono {P : Program} {w : World} {K : Fg} {mg : Str → Option Value} {base : Heap} {j k : Nat} {f : Addr} {fd : FuncData} {ps : List Str} {sp : Sp} (F : FnG P w K mg base j f fd ps sp) (h : j ≤ k) : FnG P w K mg base k f fd ps sp :=
  ⟨F.len, fun A outer s H args us vs Q E r => F.run A outer s H args us vs Q E (r.mono h)⟩
theorem FnG.imp {P : Program} {w : World} {K : Fg} {mg : Str → Option Value} {base : Heap} {k : Nat} {f : Addr} {fd : FuncData} {ps : List Str} {sp sp' : Sp} (F : FnG P w K mg base k f fd ps sp)
    (h : ∀ vs H Q E, sp' vs H Q E → sp vs H Q E) : FnG P w K mg base k f fd ps sp' :=
  ⟨fun vs H Q E q => F.len vs H Q E (h _ _ _ _ q), fun A outer s H args us vs Q E r g e0 b v q => F.run A outer s H args us vs Q E r g e0 b v (h _ _ _ _ q)⟩
abbrev cxG (P : Program) (w : World) (K : Fg) (mg : Str → Option Value) (base : Heap) (N : List Str) (qual : Str) (scope : Scope) (f : Addr) (cd : Value) (A : Around) (outer : List Env) (s : Shared) (H : Hp) (E : XK) : Cx :=
  cxOf (L2.CX P w) P w K mg base N qual scope f cd A outer s H E
theorem fnG_of {P : Program} {w : World} {K : Fg} {mg : Str → Option Value} {base : Heap} {k : Nat} {f : Addr} {name qual : Str} {params : Arguments} {body : List Stmt} {scope : Scope} {dV kV doc pm cdv ct oc : Value} {an od : Option Addr}
    {osl : Array (Option Value)} {N ps : List Str} {sp : Sp} (look : K.lookup f = some ⟨oc, od, .func (PySem.W.fnOf name qual params body scope dV kV doc pm an cdv ct), osl⟩) (code : PySem.W.codeIn K cdv qual = true) (S : FnScope N ps scope)
    (len : ∀ vs H Q E, sp vs H Q E → vs.length = ps.length)
    (walk : ∀ (A : Around) (outer : List Env) (s : Shared) (H : Hp) (vs : List V) (Q : VK) (E : XK), Room k (A.deeper (envOfC qual scope s.heap.objs.size f cdv)) → A.guards = some [] → sp vs H Q E →
      ∃ t, PSs (cxG P w K mg base N qual scope f cdv A outer s H E) body t ∧ t { nx := fun _ H' => Q .non H', rt := Q } (start N vs) H) :
    FnG P w K mg base (k + 1) f (PySem.W.fnOf name qual params body scope dV kV doc pm an cdv ct) ps sp := by
  refine ⟨len, fun A outer s H args us vs Q E room gd e0 bind rel want => ?_⟩
  have there : K.In s.heap := e0.mod.kin.keeps fun b o z => (e0.bs b o z).1
  have nolim : s.heap.NoLimit := e0.mod.nolimit.keeps fun b o z => (e0.bs b o z).1
  refine codeAny_call_function room.depth (there _ _ look) rfl S.co S.gen rfl (PySem.W.codeRec_of there code) (bind _ _ _ _ ?_)
  refine wpAny_newFunctionEnv_cells S.kind (fun ⟨n, v⟩ hy => ?_) fun env he s1 ic => ?_
  · rcases S.par n (List.of_mem_zip hy).1 with q | q
    · exact Or.inl q
    · exact Or.inr ⟨q, PySem.W.cellsFrom_some _ _ _ (Or.inl q)⟩
  · subst he
    refine ⟨nolim.keeps ic.toInCall.keep, codeAny_func ?_⟩
    obtain ⟨t, run, goal⟩ := walk A outer s H vs Q E (room.deeper _) gd want
    have I : Inv (cxG P w K mg base N qual scope f cdv A outer s H E) [] (start N vs) H s1 := inv_start S room.hd e0 (len _ _ _ _ want) rel ic
    refine wpAny_mono (run.run [] s1 (start N vs) H _ I goal) (fun fl s' hs => ?_) fun e s' z => z
    cases fl with
    | brk => obtain ⟨_, _, _, q⟩ := hs; exact q.elim
    | cont => obtain ⟨_, _, _, q⟩ := hs; exact q.elim
    | next => obtain ⟨σ', H', J, q⟩ := hs; exact ⟨V.non, H', J.os, J.bare, J.base, J.hok, rfl, q⟩
    | ret u => obtain ⟨v, σ', H', J, rv, q⟩ := hs; exact ⟨v, H', J.os, J.bare, J.base, J.hok, rv, q⟩

section
variable {X : Cx} {k : Nat} {f : Addr} {fd : FuncData} {ps ks : List Str} {sp : Sp} {E : L2.St → XK} {x : Str} {p pos : Pos} {e : Expr} {es : List Expr} {kws : List Keyword} {t tk : TA}
theorem goG {pins : List (Addr × Obj)} {σ : L2.St} {H : Hp} {s : Shared} {Q : VK} {args : Args} {us : List Value} {vs : List V} (F : FnG X.prog X.w X.K X.mg X.base k f fd ps sp) (hr : Room k X.A) (hg : X.A.guards = some []) (hx : PassesAt (L2.CX X.prog X.w) X σ (E σ))
    (I : Inv X pins σ H s) (hb : us.length = ps.length → BindsTo s fd args (ps.zip us)) (r : Vals vs us) (h : sp vs H Q (E σ)) : codeAny (model X.prog X.w) X.A (.call (.ref f) args) (fun r s' => match r with
      | .ok fl => (match fl with | .ret u => EP X pins σ Q u s' | _ => False)
      | .error e => X.xe e s') s := by
  have hl : us.length = ps.length := by rw [← r.length]; exact F.len _ _ _ _ h
  refine codeAny_mono (F.run X.A X.stack s H args us vs Q (E σ) hr hg I.env0 (hb hl) r h) fun r s' hq => ?_
  cases r with
  | error e => exact hx pins H s e s' I hq
  | ok fl =>
    cases fl with
    | ret u => exact I.after hq
    | _ => exact False.elim hq
theorem callG {pins : List (Addr × Obj)} {σ : L2.St} {H : Hp} {s : Shared} {Q : VK} {us : List Value} {vs : List V} (F : FnG X.prog X.w X.K X.mg X.base k f fd ps sp) (hr : Room k X.A) (hg : X.A.guards = some []) (hb : Binds X.K fd ps []) (hx : PassesAt (L2.CX X.prog X.w) X σ (E σ))
    (I : Inv X pins σ H s) (r : Vals vs us) (h : sp vs H Q (E σ)) : wpAny (model X.prog X.w) X.A (call (.ref f) us) (EP X pins σ Q) X.xe s := by
  refine wpAny_call (codeAny_mono (goG F hr hg hx I (fun hl => ?_) r h) fun r s' hq => ?_)
  · have q := hb s us I.kIn (by rw [List.append_nil]; exact hl)
    rw [List.append_nil] at q
    exact q
  · cases r with
    | error e => exact hq
    | ok fl => cases fl with
      | ret u => exact hq
      | _ => exact False.elim hq
theorem pe_callG (F : FnG X.prog X.w X.K X.mg X.base k f fd ps sp) (hr : Room k X.A) (hgd : X.A.guards = some []) (hg : Gl X x) (hm : X.mg x = some (.ref f)) (hk : PySem.W.keepIn X.K (.ref f) = true) (hb : Binds X.K fd ps []) (hx : ∀ σ, PassesAt (L2.CX X.prog X.w) X σ (E σ))
    (ha : PA X (e :: es) t) (hdb : (x == ("__debug__" : Str)) = false := by decide) (he : starEach (e :: es) X.env = (false, eval e X.env) :: starEach es X.env := by rfl) (hpl : (backTo pos (starEach es X.env)).any (·.1) = false := by rfl) :
    PE X (.Call (.Name x p) (e :: es) [] pos) (fun σ H Q => t σ H fun vs H1 => sp vs H1 Q (E σ)) := by
  refine ⟨fun pins s σ H Q I h => wpAny_Call_Name_kw (ld_glob I hg hm ?_ hdb)⟩
  exact PySem.W.callWith_K (h₀ := X.base) I.ok.mod.kin hk (thn (ha.run pos pins s σ H _ I h) fun us s1 ⟨vs, H1, I1, r, q⟩ => ⟨I1.kIn, callG F hr hgd hb (hx σ) I1 r q⟩) he hpl
/-- .. with keywords behind positional arguments, in the parameters' order or not: gV, gU tell how the given values go to the parameters -/
theorem pe_callGK {gU : List Value → List Value → List Value} {gV : List V → List V → List V} (F : FnG X.prog X.w X.K X.mg X.base k f fd ps sp) (hr : Room k X.A) (hgd : X.A.guards = some []) (hg : Gl X x) (hm : X.mg x = some (.ref f)) (hk : PySem.W.keepIn X.K (.ref f) = true)
    (hb : KBinds X.K fd ps ks gU gV) (hx : ∀ σ, PassesAt (L2.CX X.prog X.w) X σ (E σ))
    (ha : PA X (e :: es) t) (hkw : PK X kws tk) (hall : (backToKw pos (keywordEach kws X.env)).all (·.1.isSome) = true := by rfl) (hks : (backToKw pos (keywordEach kws X.env)).filterMap (·.1) = ks := by rfl)
    (hdb : (x == ("__debug__" : Str)) = false := by decide) (he : starEach (e :: es) X.env = (false, eval e X.env) :: starEach es X.env := by rfl)
    (hpl : ((backTo pos (starEach (e :: es) X.env)).any (·.1) || (backToKw pos (keywordEach kws X.env)).any (·.1.isNone)) = false := by rfl) :
    PE X (.Call (.Name x p) (e :: es) kws pos) (fun σ H Q => t σ H fun vs H1 => tk σ H1 fun zs H2 => sp (gV vs zs) H2 Q (E σ)) := by
  refine ⟨fun pins s σ H Q I h => wpAny_Call_Name_kw (ld_glob I hg hm ?_ hdb)⟩
  refine PySem.W.callWith_KW (h₀ := X.base) I.ok.mod.kin hk hall (thn (ha.run pos pins s σ H _ I h) fun us s1 ⟨vs, H1, I1, r, q⟩ => ?_) hpl he
  refine thn (hkw.run pos pins s1 σ H1 _ I1 q) fun ws s2 ⟨zs, H2, I2, rz, q2⟩ => ⟨I2.kIn, ?_⟩
  rw [hks]
  refine wpAny_call (codeAny_mono (goG F hr hgd (hx σ) I2 (fun hl => hb.to s2 us ws I2.kIn hl) (hb.rel r rz) q2) fun r s' hq => ?_)
  cases r with
  | error e => exact hq
  | ok fl => cases fl with
    | ret u => exact hq
    | _ => exact False.elim hq
end
end PL
end

section
set_option Elab.async false
set_option linter.all false
set_option maxRecDepth 100000
set_option maxHeartbeats 4000000
namespace PL
open PySem PySem.Spec PyProof.Rows L2
/-! ### what a def does, by data -/
abbrev FS := List Sl → (D → Prop) → (Exc → Prop) → Prop
/-- an exception at hand: an own class's, its dict holds the one field -/
def WXg (K : Fg) (g : Gh) : WX := fun cls d σ H => ∃ (W : AP) (ρ : En) (e : Exc) (Ca dd : Addr) (v : V), cls = .ref Ca ∧ d = some dd ∧ g.mg e.cls = some (.ref Ca) ∧ St K g W H σ ρ ∧ ¬ W dd ∧ H dd = some (.xd [(e.fld, v)]) ∧ Rep K W H v e.arg ∧ g.Ew ρ e
/-- what holds of the heap behind a call -/
def Aft (P : Prs) (K : Fg) (F : AP) (pa : Option Addr) (H H' : Hp) : Prop := (∀ b o, pa ≠ some b → H b = some o → H' b = some o) ∧ ∀ a, pa = some a → P.ok K F H' a
/-- a dict at the top is a new one -/
def freshD (H : Hp) (v : V) (d : D) : Prop := ∀ kvs, d = .dict kvs → ∃ a, v = .ref a ∧ H a = none
def notDict : D → Prop
  | .dict _ => False
  | _ => True
theorem freshD_of {H : Hp} {v : V} {d : D} (h : notDict d) : freshD H v d := fun kvs e => by
  subst e
  exact h.elim
def spC (c : Option Addr → Prop) (P : Prs) (K : Fg) (mg : Str → Option Value) (n : Nat) (Φ : FS) : Sp := fun vs H Q E => ∃ (F : AP) (pa : Option Addr) (as : List Sl) (R : D → Prop) (Ex : Exc → Prop),
  c pa ∧ as.length = n ∧ (∀ b, F b → ∃ o, H b = some o) ∧ (∀ a, pa = some a → F a) ∧ (∀ a, pa = some a → P.ok K F H a) ∧ ArgsOk K pa F H vs as ∧ Φ as R Ex ∧
  (∀ v d H', Aft P K F pa H H' → Rep K F H' v d → freshD H v d → R d → Q v H') ∧
  ∀ (e : Exc) (Ca dd : Addr) (v : V) H', Aft P K F pa H H' → mg e.cls = some (.ref Ca) → ¬ F dd → H' dd = some (.xd [(e.fld, v)]) → Rep K F H' v e.arg → Ex e → E (.ref Ca) (some dd) H'
abbrev spD (P : Prs) (K : Fg) (mg : Str → Option Value) (n : Nat) (Φ : FS) : Sp := spC (fun _ => True) P K mg n Φ
abbrev FnC (c : Option Addr → Prop) (P : Program) (w : World) (K : Fg) (mg : Str → Option Value) (base : Heap) (Pj : Prs) (k : Nat) (f : Addr) (fd : FuncData) (ps : List Str) (Φ : FS) : Prop := FnG P w K mg base k f fd ps (spC c Pj K mg ps.length Φ)
abbrev FnD (P : Program) (w : World) (K : Fg) (mg : Str → Option Value) (base : Heap) (Pj : Prs) (k : Nat) (f : Addr) (fd : FuncData) (ps : List Str) (Φ : FS) : Prop := FnC (fun _ => True) P w K mg base Pj k f fd ps Φ
section
variable {g : Gh} {X : Cx} {k : Nat} {f : Addr} {fd : FuncData} {ps ks : List Str} {Φ : FS} {x : Str} {p pos : Pos} {e : Expr} {es : List Expr} {kws : List Keyword} {t u : TrA}
def qCall (Ew : En → Exc → Prop) (Φ : FS) (t : TrA) : TrE := fun ρ R => t ρ fun as => Φ as R (Ew ρ)
abbrev E0 : En → Exc → Prop := fun _ _ => False
theorem St.aft {K : Fg} {W : AP} {H H' : Hp} {σ : L2.St} {ρ : En} (S : St K g W H σ ρ) (a : Aft g.P K W g.pa H H') : St K g W H' σ ρ ∧ Evo W H W H' := S.keep a.1 a.2
theorem spD_go {σ : L2.St} {H : Hp} {Q : VK} {W : AP} {ρ : En} {R : D → Prop} {vs : List V} {as : List Sl} {n : Nat} (hmg : g.mg = X.mg) (S : St X.K g W H σ ρ) (ha : ArgsOk X.K g.pa W H vs as) (hn : as.length = n) (q : Φ as R (g.Ew ρ))
    (k : ∀ v d H', St X.K g W H' σ ρ → Evo W H W H' → Rep X.K W H' v d → freshD H v d → R d → Q v H') : spD g.P X.K X.mg n Φ vs H Q (WE (WXg X.K g) σ) :=
  ⟨W, g.pa, as, R, g.Ew ρ, trivial, hn, S.wH, fun a h => S.wF _ (S.pF a h), S.prs, ha, q, fun v d H' a r f z => k v d H' (S.aft a).1 (S.aft a).2 r f z,
    fun e Ca dd v H' a hm hd hx r z => ⟨W, ρ, e, Ca, dd, v, rfl, rfl, by rw [hmg]; exact hm, (S.aft a).1, hd, hx, r, z⟩⟩
theorem qe_call {Ew : En → Exc → Prop} {Pj : Prs} (hE : g.Ew = Ew) (hP : g.P = Pj) (F : FnD X.prog X.w X.K X.mg X.base Pj k f fd ps Φ) (hr : Room k X.A) (hgd : X.A.guards = some []) (hmg : g.mg = X.mg) (tk : Takes X (WXg X.K g)) (hg : Gl X x) (hm : X.mg x = some (.ref f)) (hk : PySem.W.keepIn X.K (.ref f) = true) (hb : Binds X.K fd ps [])
    (ha : QA g X (e :: es) t) (hn : (e :: es).length = ps.length := by rfl) (hdb : (x == ("__debug__" : Str)) = false := by decide) (he : starEach (e :: es) X.env = (false, eval e X.env) :: starEach es X.env := by rfl) (hpl : (backTo pos (starEach es X.env)).any (·.1) = false := by rfl) :
    QE g X (.Call (.Name x p) (e :: es) [] pos) (qCall Ew (fun as R Ex => as.length = ps.length ∧ Φ as R Ex) t) :=
  by subst hP; exact ⟨pe_imp (pe_callG F hr hgd hg hm hk hb (fun σ => passAt tk σ) ha.run hdb he hpl) fun σ H Q ⟨W, ρ, R, S, q, k⟩ => ⟨W, ρ, _, S, q, fun vs as H1 S1 E1 r1 q1 => spD_go hmg S1 r1 q1.1 (by rw [hE]; exact q1.2) fun v d H' S' E' r' _ z => k v d H' S' (E1.trans E') r' z⟩⟩
/-- the given values, as the parameters take them -/
def permG (nu nk : Nat) (pm : List Nat) {α : Type} (us ws : List α) : List α := if us.length = nu ∧ ws.length = nk then pm.filterMap fun i => (us ++ ws)[i]? else []
theorem vals_perm {vs : List V} {us : List Value} (h : Vals vs us) : ∀ pm : List Nat, Vals (pm.filterMap fun i => vs[i]?) (pm.filterMap fun i => us[i]?)
  | [] => .nil
  | i :: pm => by
    have ih := vals_perm h pm
    cases e : vs[i]? with
    | none =>
      have e2 : us[i]? = none := by
        rw [List.getElem?_eq_none_iff] at e ⊢
        have := h.length
        omega
      rw [List.filterMap_cons_none e, List.filterMap_cons_none e2]
      exact ih
    | some v =>
      obtain ⟨u, e2, r⟩ := h.get e
      rw [List.filterMap_cons_some e, List.filterMap_cons_some e2]
      exact .cons r ih
theorem args_perm {K : Fg} {pa : Option Addr} {W : AP} {H : Hp} {vs : List V} {as : List Sl} (h : ArgsOk K pa W H vs as) : ∀ pm : List Nat, ArgsOk K pa W H (pm.filterMap fun i => vs[i]?) (pm.filterMap fun i => as[i]?)
  | [] => .nil
  | i :: pm => by
    have ih := args_perm h pm
    have key : (vs[i]? = none ∧ as[i]? = none) ∨ ∃ v s, vs[i]? = some v ∧ as[i]? = some s ∧ ArgOk K pa W H v s := by
      clear ih
      induction h generalizing i with
      | nil => exact .inl ⟨rfl, rfl⟩
      | cons a r ih =>
        cases i with
        | zero => exact .inr ⟨_, _, rfl, rfl, a⟩
        | succ i => exact ih i
    rcases key with ⟨e, e2⟩ | ⟨v, s, e, e2, r⟩
    · rw [List.filterMap_cons_none e, List.filterMap_cons_none e2]
      exact ih
    · rw [List.filterMap_cons_some e, List.filterMap_cons_some e2]
      exact .cons r ih
theorem ArgsOk.append {K : Fg} {pa : Option Addr} {W : AP} {H : Hp} : ∀ {vs ws : List V} {as bs : List Sl}, ArgsOk K pa W H vs as → ArgsOk K pa W H ws bs → ArgsOk K pa W H (vs ++ ws) (as ++ bs)
  | _, _, _, _, .nil, s => s
  | _, _, _, _, .cons a r, s => .cons a (ArgsOk.append r s)
theorem kb_of {K : Fg} {nu nk : Nat} {pm : List Nat} (h0 : 0 < ps.length) (h : ∀ us ws : List Value, us.length = nu → ws.length = nk → bindArgs fd ⟨us, ks.zip ws⟩ = pure (ps.zip (pm.filterMap fun i => (us ++ ws)[i]?))) :
    KBinds K fd ps ks (permG nu nk pm) (permG nu nk pm) where
  to := fun s us ws _ hl => by
    unfold permG at hl ⊢
    by_cases c : us.length = nu ∧ ws.length = nk
    · rw [if_pos c]
      exact .of_eq (h us ws c.1 c.2)
    · rw [if_neg c] at hl
      rw [← hl] at h0
      exact absurd h0 (Nat.lt_irrefl 0)
  rel := fun {vs us zs ws} r q => by
    unfold permG
    rw [r.length, q.length]
    by_cases c : us.length = nu ∧ ws.length = nk
    · rw [if_pos c, if_pos c]
      exact vals_perm (r.append q) pm
    · rw [if_neg c, if_neg c]
      exact .nil
/-- keywords' values -/
structure QK (g : Gh) (X : Cx) (kws : List Keyword) (t : TrA) : Prop where
  run : PK X kws (fun σ H Q => ∃ W ρ R, St X.K g W H σ ρ ∧ t ρ R ∧ ∀ vs as H', St X.K g W H' σ ρ → Evo W H W H' → ArgsOk X.K g.pa W H' vs as → R as → Q vs H')
theorem pk_imp {X : Cx} {e : List Keyword} {t t' : TA} (h : PK X e t) (i : ∀ σ H Q, t' σ H Q → t σ H Q) : PK X e t' := ⟨fun w p s σ H Q I q => h.run w p s σ H Q I (i σ H Q q)⟩
theorem qk_nil : QK g X [] qANil := ⟨pk_imp pk_nil fun σ H Q ⟨W, ρ, R, S, q, k⟩ => k [] [] H S (Evo.refl W H) .nil q⟩
theorem qk_cons {ta : TrE} {nm : Option Str} {kpos : Pos} (h1 : QE g X e ta) (h2 : QK g X kws t) : QK g X (⟨nm, e, kpos⟩ :: kws) (qACons ta t) :=
  ⟨pk_imp (pk_cons h1.run h2.run) fun σ H Q ⟨W, ρ, R, S, q, k⟩ => ⟨W, ρ, _, S, q, fun v d H1 S1 E1 r1 q1 => ⟨W, ρ, _, S1, q1, fun vs ds H2 S2 E2 r2 q2 => k (v :: vs) (.val d :: ds) H2 S2 (E1.trans E2) (.cons (r1.evo E2) r2) q2⟩⟩⟩
def qCallK (Ew : En → Exc → Prop) (Φ : FS) (nu nk : Nat) (pm : List Nat) (t u : TrA) : TrE := fun ρ R => t ρ fun as => u ρ fun bs => (as.length = nu ∧ bs.length = nk) ∧ Φ (pm.filterMap fun i => (as ++ bs)[i]?) R (Ew ρ)
theorem permG_eq {nu nk : Nat} {pm : List Nat} {α : Type} {us ws : List α} (h : us.length = nu ∧ ws.length = nk) : permG nu nk pm us ws = pm.filterMap fun i => (us ++ ws)[i]? := if_pos h
theorem qe_callK {Ew : En → Exc → Prop} {Pj : Prs} {nu nk : Nat} {pm : List Nat} (hE : g.Ew = Ew) (hP : g.P = Pj) (F : FnD X.prog X.w X.K X.mg X.base Pj k f fd ps Φ) (hr : Room k X.A) (hgd : X.A.guards = some []) (hmg : g.mg = X.mg) (tk : Takes X (WXg X.K g)) (hg : Gl X x) (hm : X.mg x = some (.ref f)) (hk : PySem.W.keepIn X.K (.ref f) = true)
    (hb : KBinds X.K fd ps ks (permG nu nk pm) (permG nu nk pm)) (ha : QA g X (e :: es) t) (hkw : QK g X kws u) (hall : (backToKw pos (keywordEach kws X.env)).all (·.1.isSome) = true := by rfl) (hks : (backToKw pos (keywordEach kws X.env)).filterMap (·.1) = ks := by rfl)
    (hdb : (x == ("__debug__" : Str)) = false := by decide) (he : starEach (e :: es) X.env = (false, eval e X.env) :: starEach es X.env := by rfl)
    (hpl : ((backTo pos (starEach (e :: es) X.env)).any (·.1) || (backToKw pos (keywordEach kws X.env)).any (·.1.isNone)) = false := by rfl) :
    QE g X (.Call (.Name x p) (e :: es) kws pos) (qCallK Ew (fun as R Ex => as.length = ps.length ∧ Φ as R Ex) nu nk pm t u) :=
  by subst hP; exact ⟨pe_imp (pe_callGK F hr hgd hg hm hk hb (fun σ => passAt tk σ) ha.run hkw.run hall hks hdb he hpl) fun σ H Q ⟨W, ρ, R, S, q, k⟩ => ⟨W, ρ, _, S, q, fun vs as H1 S1 E1 r1 q1 => ⟨W, ρ, _, S1, q1, fun zs bs H2 S2 E2 r2 ⟨c, q2, q3⟩ => by
    show spD _ _ _ _ _ (permG nu nk pm vs zs) H2 Q _
    rw [permG_eq ⟨r1.length.trans c.1, r2.length.trans c.2⟩]
    exact spD_go hmg S2 (args_perm ((r1.evo E2).append r2) pm) q2 (by rw [hE]; exact q3) fun v d H' S' E' r' _ z => k v d H' S' ((E1.trans E2).trans E') r' z⟩⟩⟩
theorem pe_callGK0 {E : L2.St → XK} {sp : Sp} {tk : TA} {gU : List Value → List Value → List Value} {gV : List V → List V → List V} (F : FnG X.prog X.w X.K X.mg X.base k f fd ps sp) (hr : Room k X.A) (hgd : X.A.guards = some []) (hg : Gl X x) (hm : X.mg x = some (.ref f)) (hk : PySem.W.keepIn X.K (.ref f) = true)
    (hb : KBinds X.K fd ps ks gU gV) (hx : ∀ σ, PassesAt (L2.CX X.prog X.w) X σ (E σ)) (hkw : PK X kws tk) (hall : (backToKw pos (keywordEach kws X.env)).all (·.1.isSome) = true := by rfl) (hks : (backToKw pos (keywordEach kws X.env)).filterMap (·.1) = ks := by rfl)
    (hdb : (x == ("__debug__" : Str)) = false := by decide) (hpl : ((backTo pos (starEach [] X.env)).any (·.1) || (backToKw pos (keywordEach kws X.env)).any (·.1.isNone)) = false := by rfl) :
    PE X (.Call (.Name x p) [] kws pos) (fun σ H Q => tk σ H fun zs H2 => sp (gV [] zs) H2 Q (E σ)) := by
  refine ⟨fun pins s σ H Q I h => wpAny_Call_Name_kw (ld_glob I hg hm ?_ hdb)⟩
  refine PySem.W.callWith_KW0 (h₀ := X.base) I.ok.mod.kin hk hall (thn (hkw.run pos pins s σ H _ I h) fun ws s2 ⟨zs, H2, I2, rz, q2⟩ => ⟨I2.kIn, ?_⟩) hpl
  rw [hks]
  refine wpAny_call (codeAny_mono (goG F hr hgd (hx σ) I2 (fun hl => hb.to s2 [] ws I2.kIn hl) (hb.rel .nil rz) q2) fun r s' hq => ?_)
  cases r with
  | error e => exact hq
  | ok fl => cases fl with
    | ret u => exact hq
    | _ => exact False.elim hq
theorem qe_callK0 {Ew : En → Exc → Prop} {Pj : Prs} {nk : Nat} {pm : List Nat} (hE : g.Ew = Ew) (hP : g.P = Pj) (F : FnD X.prog X.w X.K X.mg X.base Pj k f fd ps Φ) (hr : Room k X.A) (hgd : X.A.guards = some []) (hmg : g.mg = X.mg) (tk : Takes X (WXg X.K g)) (hg : Gl X x) (hm : X.mg x = some (.ref f)) (hk : PySem.W.keepIn X.K (.ref f) = true)
    (hb : KBinds X.K fd ps ks (permG 0 nk pm) (permG 0 nk pm)) (hkw : QK g X kws u) (hall : (backToKw pos (keywordEach kws X.env)).all (·.1.isSome) = true := by rfl) (hks : (backToKw pos (keywordEach kws X.env)).filterMap (·.1) = ks := by rfl)
    (hdb : (x == ("__debug__" : Str)) = false := by decide) (hpl : ((backTo pos (starEach [] X.env)).any (·.1) || (backToKw pos (keywordEach kws X.env)).any (·.1.isNone)) = false := by rfl) :
    QE g X (.Call (.Name x p) [] kws pos) (qCallK Ew (fun as R Ex => as.length = ps.length ∧ Φ as R Ex) 0 nk pm qANil u) :=
  by subst hP; exact ⟨pe_imp (pe_callGK0 F hr hgd hg hm hk hb (fun σ => passAt tk σ) hkw.run hall hks hdb hpl) fun σ H Q ⟨W, ρ, R, S, q, k⟩ => ⟨W, ρ, _, S, q, fun zs bs H2 S2 E2 r2 ⟨c, q2, q3⟩ => by
    show spD _ _ _ _ _ (permG 0 nk pm [] zs) H2 Q _
    rw [permG_eq (nu := 0) (us := ([] : List V)) ⟨rfl, r2.length.trans c.2⟩]
    exact spD_go hmg S2 (args_perm ((ArgsOk.nil : ArgsOk X.K g.pa W H2 [] []).append r2) pm) q2 (by rw [hE]; exact q3) fun v d H' S' E' r' _ z => k v d H' S' (E2.trans E') r' z⟩⟩
end
end PL
end

section
set_option Elab.async false
set_option linter.all false
set_option maxRecDepth 100000
set_option maxHeartbeats 4000000
namespace PL
open PySem PySem.Spec PyProof.Rows L2
/-! ### statements -/
structure EnB where
  nx : En → Prop
  rt : D → Prop
  bk : En → Prop := fun _ => False
  ct : En → Prop := fun _ => False
abbrev TrS := EnB → En → Prop
structure EndsOk (K : Fg) (g : Gh) (W : AP) (H : Hp) (B : EnB) (Dn : Ends) : Prop where
  nx : ∀ W' σ' ρ' H', St K g W' H' σ' ρ' → Evo W H W' H' → B.nx ρ' → Dn.nx σ' H'
  bk : ∀ W' σ' ρ' H', St K g W' H' σ' ρ' → Evo W H W' H' → B.bk ρ' → Dn.bk σ' H'
  ct : ∀ W' σ' ρ' H', St K g W' H' σ' ρ' → Evo W H W' H' → B.ct ρ' → Dn.ct σ' H'
  rt : ∀ v d H', Aft g.P K g.F g.pa g.H0 H' → Rep K g.F H' v d → freshD g.H0 v d → B.rt d → Dn.rt v H'
theorem EndsOk.later {K : Fg} {g : Gh} {W W1 : AP} {H H1 : Hp} {B : EnB} {Dn : Ends} (k : EndsOk K g W H B Dn) (e : Evo W H W1 H1) : EndsOk K g W1 H1 B Dn :=
  ⟨fun W' σ' ρ' H' S E => k.nx W' σ' ρ' H' S (e.trans E), fun W' σ' ρ' H' S E => k.bk W' σ' ρ' H' S (e.trans E), fun W' σ' ρ' H' S E => k.ct W' σ' ρ' H' S (e.trans E), k.rt⟩
structure QS (g : Gh) (X : Cx) (st : Stmt) (t : TrS) : Prop where
  run : PS X st (fun Dn σ H => ∃ W ρ B, St X.K g W H σ ρ ∧ t B ρ ∧ EndsOk X.K g W H B Dn)
structure QSs (g : Gh) (X : Cx) (st : List Stmt) (t : TrS) : Prop where
  run : PSs X st (fun Dn σ H => ∃ W ρ B, St X.K g W H σ ρ ∧ t B ρ ∧ EndsOk X.K g W H B Dn)

theorem St.dropW {K : Fg} {g : Gh} {W : AP} {H : Hp} {σ : L2.St} {ρ : En} (S : St K g W H σ ρ) : Evo W H g.F H :=
  ⟨fun b h => .inl (S.wF b h), fun _ _ _ h => h⟩
theorem St.aftEnd {K : Fg} {g : Gh} {W : AP} {H : Hp} {σ : L2.St} {ρ : En} (S : St K g W H σ ρ) : Aft g.P K g.F g.pa g.H0 H := by
  refine ⟨fun b o n h => S.same b o n h, fun a h => g.P.evo (S.prs a h) (fun b z => .inl (S.wF b z)) fun b o z h => h⟩
/-- what a slot is set to -/
theorem St.set {K : Fg} {g : Gh} {W : AP} {H : Hp} {σ : L2.St} {ρ : En} {v : V} {d : D} (S : St K g W H σ ρ) (i : Nat) (r : Rep K W H v d) : St K g W H (σ.set i (some v)) (ρ.set i (.val d)) := by
  have own : ∀ (j : Nat) (ds : List D), (ρ.set i (.val d))[j]? = some (.own ds) → j ≠ i ∧ ρ[j]? = some (.own ds) := fun j ds h => by
    by_cases e : i = j
    · subst e
      rw [List.getElem?_set] at h
      simp at h
    · rw [List.getElem?_set_ne e] at h
      exact ⟨fun z => e z.symm, h⟩
  refine ⟨S.same, S.wF, S.wN, S.wH, S.pF, S.prs, by rw [List.length_set, List.length_set]; exact S.len, fun j s h => ?_, fun j j' a ds es ne h1 h2 h3 => ?_, S.hid, fun p hp j ds h => ?_, S.eb⟩
  · by_cases e : i = j
    · subst e
      rw [List.getElem?_set] at h
      rw [List.getElem?_set]
      rw [S.len] at h
      by_cases hl : i < σ.length
      · simp [hl] at h ⊢
        subst h
        exact ⟨v, rfl, r⟩
      · simp [hl] at h
    · rw [List.getElem?_set_ne e] at h ⊢
      exact S.sl j s h
  · obtain ⟨n1, q1⟩ := own j ds h1
    obtain ⟨n2, q2⟩ := own j' es h2
    rw [List.getElem?_set_ne (Ne.symm n1)] at h3
    rw [List.getElem?_set_ne (Ne.symm n2)]
    exact S.ap j j' a ds es ne q1 q2 h3
  · obtain ⟨n1, q1⟩ := own j ds h
    rw [List.getElem?_set_ne (Ne.symm n1)]
    exact S.hidA p hp j ds q1
section
variable {g : Gh} {X : Cx} {e : Expr} {st : Stmt} {sts rest : List Stmt} {te : TrE} {t u : TrS} {pos : Pos}
def qNext : TrS := fun B ρ => B.nx ρ
def qSeq (t u : TrS) : TrS := fun B ρ => t { B with nx := u B } ρ
theorem qss_nil : QSs g X [] qNext := ⟨pss_imp pss_nil fun Dn σ H ⟨W, ρ, B, S, q, k⟩ => k.nx W σ ρ H S (Evo.refl W H) q⟩
theorem qss_cons (h1 : QS g X st t) (h2 : QSs g X rest u) : QSs g X (st :: rest) (qSeq t u) :=
  ⟨pss_imp (pss_cons h1.run h2.run) fun Dn σ H ⟨W, ρ, B, S, q, k⟩ => ⟨W, ρ, { B with nx := u B }, S, q, fun W' σ' ρ' H' S' E q' => ⟨W', ρ', B, S', q', k.later E⟩, k.bk, k.ct, k.rt⟩⟩
theorem qss_one (h1 : QS g X st t) : QSs g X [st] t := ⟨pss_imp (pss_one h1.run) fun Dn σ H h => h⟩
theorem qs_pass : QS g X (.Pass pos) qNext := ⟨ps_imp ps_pass fun Dn σ H ⟨W, ρ, B, S, q, k⟩ => k.nx W σ ρ H S (Evo.refl W H) q⟩
def qBrk : TrS := fun B ρ => B.bk ρ
def qCnt : TrS := fun B ρ => B.ct ρ
theorem qs_break : QS g X (.Break pos) qBrk := ⟨ps_imp ps_break fun Dn σ H ⟨W, ρ, B, S, q, k⟩ => k.bk W σ ρ H S (Evo.refl W H) q⟩
theorem qs_continue : QS g X (.Continue pos) qCnt := ⟨ps_imp ps_continue fun Dn σ H ⟨W, ρ, B, S, q, k⟩ => k.ct W σ ρ H S (Evo.refl W H) q⟩
def qExp (te : TrE) : TrS := fun B ρ => te ρ fun _ => B.nx ρ
theorem qs_expr (he : QE g X e te) (hs : swapsWith e none pos.line X.env = pure false := by rfl) : QS g X (.Expr e pos) (qExp te) :=
  ⟨ps_imp (ps_expr he.run hs) fun Dn σ H ⟨W, ρ, B, S, q, k⟩ => ⟨W, ρ, _, S, q, fun v d H1 S1 E1 r1 q1 => k.nx W σ ρ H1 S1 E1 q1⟩⟩
/-- return e -/
def qRet (te : TrE) : TrS := fun B ρ => te ρ fun d => notDict d ∧ B.rt d
theorem RepB.out {K : Fg} {W : AP} {H : Hp} {σ : L2.St} {ρ : En} {v : V} {d : D} (h : RepB K W H σ ρ v d) (S : St K g W H σ ρ) : Rep K g.F H v d := by
  rcases h with h | ⟨i, ds, h1, h2, h3⟩
  · exact h.evo S.dropW
  · obtain ⟨a, xs, q1, q2, q3, q4, q5⟩ := S.sl i _ h2
    rw [h1] at q1
    cases q1
    rw [h3]
    exact .lst (.inl ⟨q3, .inl q4⟩) (q5.evo S.dropW)
theorem qs_ret (he : QB g X e te) : QS g X (.Return (some e) pos) (qRet te) :=
  ⟨ps_imp (ps_ret he.run) fun Dn σ H ⟨W, ρ, B, S, q, k⟩ => ⟨W, ρ, _, S, q, fun v d H1 S1 E1 r1 q1 => k.rt v d H1 S1.aftEnd (r1.out S1) (freshD_of q1.1) q1.2⟩⟩
def qRetN : TrS := fun B _ => B.rt .none
theorem qs_retN : QS g X (.Return none pos) qRetN := ⟨ps_imp ps_retN fun Dn σ H ⟨W, ρ, B, S, q, k⟩ => k.rt .non .none H S.aftEnd .non (freshD_of trivial) q⟩
def qIfS (c : TrT) (t u : TrS) : TrS := fun B ρ => c ρ fun b => if b = true then t B ρ else u B ρ
theorem qs_if {c : Expr} {a b : List Stmt} {tc : TrT} (hc : QT g X c tc) (ha : QSs g X a t) (hb : QSs g X b u) : QS g X (.If c a b pos) (qIfS tc t u) :=
  ⟨ps_imp (ps_if hc.run ha.run hb.run) fun Dn σ H ⟨W, ρ, B, S, q, k⟩ => ⟨W, ρ, _, S, q, fun b H1 S1 E1 q1 => by
    cases b with
    | false => rw [if_neg Bool.false_ne_true] at q1 ⊢; exact ⟨W, ρ, B, S1, q1, k.later E1⟩
    | true => rw [if_pos rfl] at q1 ⊢; exact ⟨W, ρ, B, S1, q1, k.later E1⟩⟩⟩

/-! ### targets -/
abbrev TrG := D → En → (En → Prop) → Prop
abbrev TrGs := List D → En → (En → Prop) → Prop
/-- what a walk hands over: clean, or a new pair -/
def RepY (K : Fg) (W : AP) (H : Hp) (v : V) (d : D) : Prop := Rep K W H v d ∨ ∃ p xs ds, v = .ref p ∧ H p = some (.tup xs) ∧ Reps K W H xs ds ∧ d = .tuple ds
theorem RepY.tuple {K : Fg} {W : AP} {H : Hp} {v : V} {ds : List D} (h : RepY K W H v (.tuple ds)) : ∃ a xs, v = .ref a ∧ SqT K H a xs ∧ Reps K W H xs ds := by
  rcases h with h | ⟨p, xs, ds', rfl, h1, h2, e⟩
  · cases h with
    | tup h1 h2 => exact ⟨_, _, rfl, h1.sq, h2⟩
  · cases e
    exact ⟨p, xs, rfl, .inl (.inl h1), h2⟩
/-- places but those of ix stay -/
def Off {α : Type} (ix : List Nat) (σ σ' : List α) : Prop := σ'.length = σ.length ∧ ∀ j, j ∉ ix → σ'[j]? = σ[j]?
theorem Off.refl {α : Type} (ix : List Nat) (σ : List α) : Off ix σ σ := ⟨rfl, fun _ _ => rfl⟩
theorem Off.set {α : Type} (i : Nat) (σ : List α) (v : α) : Off [i] σ (σ.set i v) := ⟨List.length_set, fun j h => List.getElem?_set_ne fun z => h (by rw [z]; exact List.mem_singleton.mpr rfl)⟩
theorem Off.trans {α : Type} {ix iy : List Nat} {σ σ1 σ2 : List α} (a : Off ix σ σ1) (b : Off iy σ1 σ2) : Off (ix ++ iy) σ σ2 :=
  ⟨b.1.trans a.1, fun j h => (b.2 j fun z => h (List.mem_append_right _ z)).trans (a.2 j fun z => h (List.mem_append_left _ z))⟩
abbrev RkT := Fg → AP → Hp → V → D → Prop
/-- a target; Rk tells what it takes -/
structure QGr (Rk : RkT) (g : Gh) (X : Cx) (tg : Expr) (t : TrG) (ix : List Nat) : Prop where
  run : PG X tg (fun v σ H Q => ∃ W ρ d P, St X.K g W H σ ρ ∧ Rk X.K W H v d ∧ t d ρ P ∧ ∀ σ' ρ', Off ix σ σ' → Off ix ρ ρ' → St X.K g W H σ' ρ' → P ρ' → Q σ' H)
abbrev QG (g : Gh) (X : Cx) (tg : Expr) (t : TrG) (ix : List Nat) : Prop := QGr Rep g X tg t ix
abbrev QGY (g : Gh) (X : Cx) (tg : Expr) (t : TrG) (ix : List Nat) : Prop := QGr RepY g X tg t ix
structure QGs (g : Gh) (X : Cx) (tg : List Expr) (t : TrGs) (ix : List Nat) : Prop where
  run : PGs X tg (fun vs σ H Q => ∃ W ρ ds P, St X.K g W H σ ρ ∧ Reps X.K W H vs ds ∧ t ds ρ P ∧ ∀ σ' ρ', Off ix σ σ' → Off ix ρ ρ' → St X.K g W H σ' ρ' → P ρ' → Q σ' H)
theorem pg_imp {tg : Expr} {t t' : TG} (h : PG X tg t) (i : ∀ v σ H Q, t' v σ H Q → t v σ H Q) : PG X tg t' := ⟨fun p s σ H v u Q I r q => h.run p s σ H v u Q I r (i _ _ _ _ q)⟩
theorem pgs_imp {tg : List Expr} {t t' : TGs} (h : PGs X tg t) (i : ∀ v σ H Q, t' v σ H Q → t v σ H Q) : PGs X tg t' := ⟨fun p s σ H v u Q I r q => h.run p s σ H v u Q I r (i _ _ _ _ q)⟩
def gNm (i : Nat) : TrG := fun d ρ P => P (ρ.set i (.val d))
theorem qg_name (i : Nat) {x : Str} (hN : X.N.Nodup) (hi : X.N[i]? = some x := by rfl) (hx : Loc X.env.scope x := by first | exact Or.inl rfl | exact Or.inr rfl) (hf : X.fn x = true ∨ X.env.scope.names.lookup x = some .local := by first | exact .inl rfl | exact .inr rfl | assumption) : QG g X (.Name x pos) (gNm i) [i] :=
  ⟨pg_imp (pg_name hN hi hx hf) fun v σ H Q ⟨W, ρ, d, P, S, r, q, k⟩ => k _ _ (Off.set i σ _) (Off.set i ρ _) (S.set i r) q⟩
def gN0 : TrGs := fun ds ρ P => ds = [] ∧ P ρ
def gNc (t : TrG) (u : TrGs) : TrGs := fun ds ρ P => ∃ d r, ds = d :: r ∧ t d ρ fun ρ' => u r ρ' P
theorem qgs_nil : QGs g X [] gN0 [] := ⟨pgs_imp pgs_nil fun vs σ H Q ⟨W, ρ, ds, P, S, r, q, k⟩ => by
  obtain ⟨rfl, q⟩ := q
  cases r
  exact ⟨rfl, k σ ρ (Off.refl _ _) (Off.refl _ _) S q⟩⟩
theorem qgs_cons {a : Expr} {es : List Expr} {t : TrG} {u : TrGs} {ix iy : List Nat} (h1 : QG g X a t ix) (h2 : QGs g X es u iy) (hs : (assignEach (a :: es) X.env).map (·.2) = assign a X.env :: (assignEach es X.env).map (·.2) := by rfl) : QGs g X (a :: es) (gNc t u) (ix ++ iy) :=
  ⟨pgs_imp (pgs_cons h1.run h2.run hs) fun vs σ H Q ⟨W, ρ, ds, P, S, r, ⟨d, dr, e, q⟩, k⟩ => by
    subst e
    cases r with
    | cons ra rr => exact ⟨_, _, rfl, W, ρ, d, _, S, ra, q, fun σ' ρ' o' r' S' q' => ⟨W, ρ', dr, P, S', rr, q', fun σ2 ρ2 o2 r2 S2 q2 => k σ2 ρ2 (o'.trans o2) (r'.trans r2) S2 q2⟩⟩⟩
def gTp (n : Nat) (t : TrGs) : TrG := fun d ρ P => ∃ ds, d = .tuple ds ∧ ds.length = n ∧ t ds ρ P
theorem qgy_tup {es : List Expr} {kk : Nat} {t : TrGs} {ix : List Nat} {n : Nat} (hc : X.calm = true) (h : QGs g X es t ix) (hn : (assignEach es X.env).length = n := by rfl) (hst : (assignEach es X.env).findIdx? (·.1) = none := by rfl) : QGY g X (.Tuple es kk pos) (gTp n t) ix :=
  ⟨pg_imp (pg_tup hc h.run hn hst) fun v σ H Q ⟨W, ρ, d, P, S, r, ⟨ds, e, hl, q⟩, k⟩ => by
    subst e
    obtain ⟨a, xs, rfl, h1, h2⟩ := r.tuple
    exact ⟨a, xs, rfl, h1, h2.length.trans hl, W, ρ, ds, P, S, h2, q, k⟩⟩
theorem QGr.qg {tg : Expr} {t : TrG} {ix : List Nat} (h : QGY g X tg t ix) : QG g X tg t ix := ⟨pg_imp h.run fun v σ H Q ⟨W, ρ, d, P, S, r, q, k⟩ => ⟨W, ρ, d, P, S, .inl r, q, k⟩⟩
/-- x = e -/
def qAsg (te : TrE) (tg : TrG) : TrS := fun B ρ => te ρ fun d => tg d ρ B.nx
theorem asg_go {σ : L2.St} {H : Hp} {Dn : Ends} {tg : TrG} {gg : TG} {ix : List Nat} (i : ∀ v σ H Q, (∃ W ρ d P, St X.K g W H σ ρ ∧ Rep X.K W H v d ∧ tg d ρ P ∧ ∀ σ' ρ', Off ix σ σ' → Off ix ρ ρ' → St X.K g W H σ' ρ' → P ρ' → Q σ' H) → gg v σ H Q)
    (h : ∃ W ρ B, St X.K g W H σ ρ ∧ qAsg te tg B ρ ∧ EndsOk X.K g W H B Dn) :
    tAsg (fun σ H Q => ∃ W ρ R, St X.K g W H σ ρ ∧ te ρ R ∧ ∀ v d H', St X.K g W H' σ ρ → Evo W H W H' → Rep X.K W H' v d → R d → Q v H') gg Dn σ H := by
  obtain ⟨W, ρ, B, S, q, k⟩ := h
  exact ⟨W, ρ, _, S, q, fun v d H1 S1 E1 r1 q1 => i _ _ _ _ ⟨W, ρ, d, _, S1, r1, q1, fun σ' ρ' _ _ S' q' => k.nx W σ' ρ' H1 S' E1 q'⟩⟩
theorem qs_set (i : Nat) {x : Str} {pos' : Pos} (he : QE g X e te) (hN : X.N.Nodup) (hi : X.N[i]? = some x := by rfl) (hx : Loc X.env.scope x := by first | exact Or.inl rfl | exact Or.inr rfl) (hs : swapsWith e (some (.Name x pos')) pos.line X.env = pure false := by rfl)
    (hf : X.fn x = true ∨ X.env.scope.names.lookup x = some .local := by first | exact .inl rfl | exact .inr rfl | assumption) : QS g X (.Assign [.Name x pos'] e pos) (qAsg te (gNm i)) :=
  ⟨ps_imp (ps_set hN hi hx he.run hs hf) fun Dn σ H h => asg_go (ix := [i]) (fun v σ H Q ⟨W, ρ, d, P, S, r, q, k⟩ => k _ _ (Off.set i σ _) (Off.set i ρ _) (S.set i r) q) h⟩
theorem qs_asg {tg : Expr} {tt : TrG} {ix : List Nat} (he : QE g X e te) (hg : QG g X tg tt ix) (hs : swapsWithSole [tg] e pos.line X.env = pure false := by rfl) (hw : swappedStores [tg] e X.env = pure none := by rfl)
    (h1 : (assignEach [tg] X.env).map (·.2) = [assign tg X.env] := by rfl) : QS g X (.Assign [tg] e pos) (qAsg te tt) :=
  ⟨ps_imp (ps_asg he.run hg.run hs hw h1) fun Dn σ H h => asg_go (ix := ix) (fun _ _ _ _ z => z) h⟩
/-- x, y = a, b -/
def qPar (i j : Nat) (tl : TrL) : TrS := fun B ρ => tl ρ fun ds => ∃ a b, ds = [a, b] ∧ B.nx ((ρ.set i (.val a)).set j (.val b))
theorem qs_par (i j : Nat) {x y : Str} {a b : Expr} {tl : TrL} {px py pt : Pos} {kt k2 pt2} (hc : X.calm = true) (hN : X.N.Nodup) (ha : QL g X [a, b] tl) (hw : swappedStores [.Tuple [.Name x px, .Name y py] kt pt] (.Tuple [a, b] k2 pt2) X.env = pure (some [x, y])) (hi : X.N[i]? = some x := by rfl) (hj : X.N[j]? = some y := by rfl) (hij : i ≠ j := by decide)
    (hx : X.env.scope.names.lookup x = some .local := by rfl) (hy : X.env.scope.names.lookup y = some .local := by rfl)
    (hs : swapsWithSole [.Tuple [.Name x px, .Name y py] kt pt] (.Tuple [a, b] k2 pt2) pos.line X.env = pure false := by rfl) :
    QS g X (.Assign [.Tuple [.Name x px, .Name y py] kt pt] (.Tuple [a, b] k2 pt2) pos) (qPar i j tl) :=
  ⟨ps_imp (ps_par hc hN hi hj hij hx hy ha.run hw hs) fun Dn σ H ⟨W, ρ, B, S, q, k⟩ => ⟨W, ρ, _, S, q, fun vs ds H1 S1 E1 r1 ⟨a, b, e, q1⟩ => by
    subst e
    cases r1 with
    | cons ra rr =>
      cases rr with
      | cons rb rn =>
        cases rn
        exact ⟨_, _, rfl, k.nx W _ _ H1 ((S1.set i ra).set j rb) E1 q1⟩⟩⟩
end
end PL
end

section
set_option Elab.async false
set_option linter.all false
set_option maxRecDepth 100000
set_option maxHeartbeats 4000000
namespace PL
open PySem PySem.Spec PyProof.Rows L2
/-! ### local lists that change -/
section
variable {K : Fg} {g : Gh} {W : AP} {H : Hp} {σ : L2.St} {ρ : En} {a p : Addr} {xs ys : List V} {ds es : List D}
theorem get_set_some {α : Type} {l : List α} {i j : Nat} {x y : α} (h : (l.set i x)[j]? = some y) : (j = i ∧ i < l.length ∧ x = y) ∨ (j ≠ i ∧ l[j]? = some y) := by
  by_cases e : i = j
  · subst e
    rw [List.getElem?_set] at h
    by_cases hl : i < l.length
    · simp [hl] at h
      exact .inl ⟨rfl, hl, h⟩
    · simp [hl] at h
  · rw [List.getElem?_set_ne e] at h
    exact .inr ⟨fun z => e z.symm, h⟩
/-- a new list is laid and kept by slot i -/
theorem St.setOwn (S : St K g W H σ ρ) (i : Nat) (h : H p = none) (r : Reps K W H xs ds) : St K g (fun b => W b ∨ b = p) (upd H p (.lst xs)) (σ.set i (some (.ref p))) (ρ.set i (.own ds)) ∧ Evo W H (fun b => W b ∨ b = p) (upd H p (.lst xs)) := by
  have np : ∀ b o, H b = some o → b ≠ p := fun b o z e => by rw [e, h] at z; cases z
  have nW : ¬ W p := S.fresh h
  have nF : ¬ g.F p := fun z => nW (S.wF p z)
  have e : Evo W H (fun b => W b ∨ b = p) (upd H p (.lst xs)) := ⟨fun b z => z.imp id (fun q => by rw [q]; exact h), fun b o _ z => by rw [upd_ne (np b o z)]; exact z⟩
  have h0 : g.H0 p = none := by
    cases z : g.H0 p with
    | none => rfl
    | some o =>
      have q := S.same p o (fun w => nF (S.pF p w)) z
      rw [h] at q; cases q
  have slp : ∀ (j : Nat) (es : List D), ρ[j]? = some (.own es) → σ[j]? ≠ some (some (.ref p)) := fun j es q z => by
    obtain ⟨a, xs, q1, q2, q3, q4, _⟩ := S.sl j _ q
    rw [z] at q1
    cases q1
    rw [h] at q4; cases q4
  refine ⟨⟨fun b o n z => ?_, fun b z => .inl (S.wF b z), fun b z => ?_, fun b z => ?_, S.pF, fun a z => ?_, by rw [List.length_set, List.length_set]; exact S.len, fun j s q => ?_, fun j j' a ds es ne q1 q2 q3 => ?_, fun q hq => ?_, fun q hq j ds hj => ?_, S.eb.trans e⟩, e⟩
  · have z' := S.same b o n z
    rw [upd_ne (np b o z')]; exact z'
  · rcases z with z | z
    · exact S.wN b z
    · rw [z]; exact .inr h0
  · rcases z with z | z
    · obtain ⟨o, ho⟩ := S.wH b z
      exact ⟨o, by rw [upd_ne (np b o ho)]; exact ho⟩
    · rw [z]; exact ⟨_, upd_same⟩
  · refine g.P.evo (S.prs a z) e.own fun b o _ q => ?_
    rw [upd_ne (np b o q)]; exact q
  · rcases get_set_some q with ⟨rfl, hl, rfl⟩ | ⟨ne, q⟩
    · rw [S.len] at hl
      exact ⟨p, xs, by rw [List.getElem?_set]; simp [hl], .inr rfl, nF, upd_same, r.evo e⟩
    · rw [List.getElem?_set_ne (Ne.symm ne)]
      exact (S.sl j s q).evo e fun ds a e1 e2 w nf => ⟨.inl w, by
        obtain ⟨o, ho⟩ := S.wH a w
        rw [upd_ne (np a o ho)]⟩
  · rcases get_set_some q1 with ⟨z1, l1, w1⟩ | ⟨n1, m1⟩
    · rcases get_set_some q2 with ⟨z2, l2, w2⟩ | ⟨n2, m2⟩
      · exact absurd (z1.trans z2.symm) ne
      · subst z1
        rw [S.len] at l1
        rw [List.getElem?_set] at q3
        simp [l1] at q3
        subst q3
        rw [List.getElem?_set_ne ne]
        exact slp j' es m2
    · rw [List.getElem?_set_ne (Ne.symm n1)] at q3
      rcases get_set_some q2 with ⟨z2, l2, w2⟩ | ⟨n2, m2⟩
      · subst z2
        rw [S.len] at l2
        rw [List.getElem?_set]
        simp [l2]
        intro z
        subst z
        exact slp j ds m1 q3
      · rw [List.getElem?_set_ne (Ne.symm n2)]
        exact S.ap j j' a ds es ne m1 m2 q3
  · obtain ⟨h1, h2, h3⟩ := S.hid q hq
    exact ⟨.inl h1, h2, by rw [upd_ne (np _ _ h3)]; exact h3⟩
  · obtain ⟨h1, h2, h3⟩ := S.hid q hq
    rcases get_set_some hj with ⟨z1, l1, w1⟩ | ⟨n1, q1⟩
    · subst z1
      rw [S.len] at l1
      rw [List.getElem?_set]
      simp [l1]
      exact fun z => np _ _ h3 z.symm
    · rw [List.getElem?_set_ne (Ne.symm n1)]
      exact S.hidA q hq j ds q1
/-- slot i's list changes -/
theorem St.mutOwn (S : St K g W H σ ρ) (i : Nat) (hi : ρ[i]? = some (.own ds)) (ha : σ[i]? = some (some (.ref a))) (r : Reps K W H ys es) : St K g W (upd H a (.lst ys)) σ (ρ.set i (.own es)) ∧ Evo W H W (upd H a (.lst ys)) := by
  obtain ⟨a', xs, q1, q2, q3, q4, q5⟩ := S.sl i _ hi
  rw [ha] at q1
  cases q1
  have e : Evo W H W (upd H a (.lst ys)) := ⟨fun b z => .inl z, fun b o n z => by rw [upd_ne (fun w => n (by rw [w]; exact q2))]; exact z⟩
  refine ⟨⟨fun b o n z => ?_, S.wF, S.wN, fun b z => ?_, S.pF, fun c z => ?_, by rw [List.length_set]; exact S.len, fun j s q => ?_, fun j j' c ds es ne w1 w2 w3 => ?_, fun q hq => ?_, fun q hq j ds hj => ?_, S.eb.trans e⟩, e⟩
  · have z' := S.same b o n z
    refine (?_ : upd H a (.lst ys) b = some o)
    rw [upd_ne (fun w => ?_)]
    · exact z'
    · subst w
      rcases S.wN b q2 with w | w
      · exact q3 w
      · rw [w] at z; cases z
  · by_cases w : b = a
    · rw [w]; exact ⟨_, upd_same⟩
    · rw [upd_ne w]; exact S.wH b z
  · refine g.P.evo (S.prs c z) (fun b w => .inl w) fun b o w q => ?_
    rw [upd_ne (fun v => ?_)]
    · exact q
    · rcases w with w | w
      · exact w (by rw [v]; exact q2)
      · exact q3 (by rw [← v, w]; exact S.pF c z)
  · rcases get_set_some q with ⟨rfl, hl, rfl⟩ | ⟨ne, q⟩
    · exact ⟨a, ys, ha, q2, q3, upd_same, r.evo e⟩
    · refine (S.sl j s q).evo e fun ds' c e1 e2 w nf => ⟨w, upd_ne fun v => ?_⟩
      subst e1; subst v
      exact S.ap i j c ds ds' (Ne.symm ne) hi q ha e2
  · rcases get_set_some w1 with ⟨z1, l1, _⟩ | ⟨n1, m1⟩
    · rcases get_set_some w2 with ⟨z2, l2, _⟩ | ⟨n2, m2⟩
      · exact absurd (z1.trans z2.symm) ne
      · subst z1
        exact S.ap j j' c _ es ne hi m2 w3
    · rcases get_set_some w2 with ⟨z2, l2, _⟩ | ⟨n2, m2⟩
      · subst z2
        exact S.ap j j' c ds _ ne m1 hi w3
      · exact S.ap j j' c ds es ne m1 m2 w3
  · obtain ⟨h1, h2, h3⟩ := S.hid q hq
    refine ⟨h1, h2, ?_⟩
    rw [upd_ne (fun v => S.hidA q hq i ds hi (by rw [v]; exact ha))]
    exact h3
  · rcases get_set_some hj with ⟨rfl, l1, _⟩ | ⟨n1, w1⟩
    · exact S.hidA q hq j _ hi
    · exact S.hidA q hq j ds w1
/-- slot i's list will change no more -/
theorem St.freeze (S : St K g W H σ ρ) (i : Nat) (hi : ρ[i]? = some (.own ds)) : ∃ W', St K g W' H σ (ρ.set i (.val (.list ds))) ∧ Evo W H W' H := by
  obtain ⟨a, xs, q1, q2, q3, q4, q5⟩ := S.sl i _ hi
  have e : Evo W H (fun b => W b ∧ b ≠ a) H := ⟨fun b z => .inl z.1, fun b o _ z => z⟩
  refine ⟨_, ⟨S.same, fun b z => ⟨S.wF b z, fun w => q3 (by rw [← w]; exact z)⟩, fun b z => S.wN b z.1, fun b z => S.wH b z.1, S.pF, fun c z => g.P.evo (S.prs c z) e.own fun b o _ q => q, by rw [List.length_set]; exact S.len, fun j s q => ?_, fun j j' c ds' es ne w1 w2 w3 => ?_,
    fun q hq => ?_, fun q hq j ds' hj => ?_, S.eb.trans e⟩, e⟩
  · rcases get_set_some q with ⟨rfl, hl, rfl⟩ | ⟨ne, q⟩
    · exact ⟨.ref a, q1, .lst (.inl ⟨fun w => w.2 rfl, .inl q4⟩) (q5.evo e)⟩
    · refine (S.sl j s q).evo e fun ds' c e1 e2 w nf => ⟨⟨w, fun v => ?_⟩, rfl⟩
      subst e1; subst v
      exact S.ap i j c ds ds' (Ne.symm ne) hi q q1 e2
  · rcases get_set_some w1 with ⟨_, _, z⟩ | ⟨n1, w1⟩
    · cases z
    · rcases get_set_some w2 with ⟨_, _, z⟩ | ⟨n2, w2⟩
      · cases z
      · exact S.ap j j' c ds' es ne w1 w2 w3
  · obtain ⟨h1, h2, h3⟩ := S.hid q hq
    exact ⟨⟨h1, fun v => S.hidA q hq i ds hi (by rw [v]; exact q1)⟩, h2, h3⟩
  · rcases get_set_some hj with ⟨_, _, z⟩ | ⟨n1, w1⟩
    · cases z
    · exact S.hidA q hq j ds' w1
end
/-! ### rules -/
/-- an expression that lays a new list -/
structure QN (g : Gh) (X : Cx) (e : Expr) (t : TrL) : Prop where
  run : PE X e (fun σ H Q => ∃ W ρ R, St X.K g W H σ ρ ∧ t ρ R ∧ ∀ p xs ds H1, St X.K g W H1 σ ρ → Evo W H W H1 → H1 p = none → Reps X.K W H1 xs ds → R ds → Q (.ref p) (upd H1 p (.lst xs)))
section
variable {g : Gh} {X : Cx} {e : Expr} {es : List Expr} {sts : List Stmt} {te : TrE} {tl : TrL} {t : TrS} {pos p1 apos cpos : Pos}
theorem qn_lst {u : TrL} (h : QL g X es u) : QN g X (.List es pos) (fun ρ R => u ρ fun ds => ds.length ≤ sizeLine ∧ R ds) :=
  ⟨pe_imp (pe_lst h.run) fun σ H Q ⟨W, ρ, R, S, q, k⟩ => ⟨W, ρ, _, S, q, fun vs ds H1 S1 E1 r1 q1 => ⟨by rw [r1.length]; exact q1.1, fun p hp => k p vs ds H1 S1 E1 hp r1 q1.2⟩⟩⟩
theorem qn_list {x : Str} {p : Pos} (hg : Gl X x) (hm : X.mg x = none) (hv : bootBuiltins x = some (.type "list")) (ha : QLB g X (e :: es) tl) (hn : x ≠ "__name__" := by decide) (hdb : (x == ("__debug__" : Str)) = false := by decide)
    (he : starEach (e :: es) X.env = (false, eval e X.env) :: starEach es X.env := by rfl) (hpl : (backTo pos (starEach es X.env)).any (·.1) = false := by rfl) :
    QN g X (.Call (.Name x p) (e :: es) [] pos) (fun ρ R => tl ρ fun ds => ∃ d xs, ds = [d] ∧ itemsD d = some xs ∧ R xs) :=
  ⟨pe_imp (pe_callTy (call_list_of (X := X)) hg hm hv ha.run hn hdb he hpl) fun σ H Q ⟨W, ρ, R, S, q, k⟩ => ⟨W, ρ, _, S, q, fun vs ds H1 S1 E1 r1 ⟨d, xs, hd, hx, q1⟩ => by
    subst hd
    obtain ⟨v, rfl, a⟩ := repsC1 (RepsB.c S1 r1)
    cases d with
    | list ys =>
      cases hx
      obtain ⟨l, zs, rfl, h1, h2⟩ := a.list
      exact ⟨l, zs, rfl, .inl h1, fun p hp => k p zs _ H1 S1 E1 hp h2 q1⟩
    | tuple ys =>
      cases hx
      obtain ⟨l, zs, rfl, h1, h2⟩ := a.tuple
      exact ⟨l, zs, rfl, .inr h1.sq, fun p hp => k p zs _ H1 S1 E1 hp h2 q1⟩
    | _ => cases hx⟩⟩
def qOwn (i : Nat) (tl : TrL) : TrS := fun B ρ => tl ρ fun ds => B.nx (ρ.set i (.own ds))
theorem qs_own (i : Nat) {x : Str} {pos' : Pos} (he : QN g X e tl) (hN : X.N.Nodup) (hi : X.N[i]? = some x := by rfl) (hx : Loc X.env.scope x := by first | exact Or.inl rfl | exact Or.inr rfl) (hs : swapsWith e (some (.Name x pos')) pos.line X.env = pure false := by rfl)
    (hf : X.fn x = true ∨ X.env.scope.names.lookup x = some .local := by first | exact .inl rfl | exact .inr rfl | assumption) : QS g X (.Assign [.Name x pos'] e pos) (qOwn i tl) :=
  ⟨ps_imp (ps_set hN hi hx he.run hs hf) fun Dn σ H ⟨W, ρ, B, S, q, k⟩ => ⟨W, ρ, _, S, q, fun p xs ds H1 S1 E1 hp r1 q1 => k.nx _ _ _ _ (S1.setOwn i hp r1).1 (E1.trans (S1.setOwn i hp r1).2) q1⟩⟩
def qFrz (i : Nat) (t : TrS) : TrS := fun B ρ => ∃ ds, ρ[i]? = some (.own ds) ∧ t B (ρ.set i (.val (.list ds)))
theorem qss_frz (i : Nat) (h : QSs g X sts t) : QSs g X sts (qFrz i t) :=
  ⟨pss_imp h.run fun Dn σ H ⟨W, ρ, B, S, ⟨ds, hi, q⟩, k⟩ => by
    obtain ⟨W', S', E'⟩ := S.freeze i hi
    exact ⟨W', _, B, S', q, k.later E'⟩⟩
def qApp (i : Nat) (te : TrE) : TrS := fun B ρ => ∃ ds, ρ[i]? = some (.own ds) ∧ te ρ fun d => ds.length < sizeLine ∧ B.nx (ρ.set i (.own (ds ++ [d])))
theorem ty_own {K : Fg} {W : AP} {H : Hp} {σ : L2.St} {ρ : En} {i : Nat} {ds : List D} (S : St K g W H σ ρ) (hi : ρ[i]? = some (.own ds)) : ∃ a xs, σ[i]? = some (some (.ref a)) ∧ H a = some (.lst xs) ∧ Reps K W H xs ds ∧ tyV K "list" (.ref a) H := by
  obtain ⟨a, xs, q1, q2, q3, q4, q5⟩ := S.sl i _ hi
  exact ⟨a, xs, q1, q4, q5, .inl ⟨rfl, xs, .inl (.inl q4)⟩⟩
theorem qs_append (i : Nat) {x : Str} (he : QE g X e te) (hN : X.N[i]? = some x := by rfl) (hv : Vis X.env.scope x := by first | exact Or.inl rfl | exact Or.inr (Or.inl rfl) | exact Or.inr (Or.inr rfl)) (hd : (x == ("__debug__" : Str)) = false := by decide)
    (hcd : (x == ("__classdict__" : Str)) = false := by decide) (hbase : attributeBase (.Name x p1) "append" X.env (eval (.Name x p1) X.env) = eval (.Name x p1) X.env := by rfl)
    (hfew : ((backTo cpos (starEach [e] X.env)).all (fun x => !x.1) && (backToKw cpos (keywordEach [] X.env)).all (fun x => x.1.isSome)
      && decide ([e].length + ([] : List Keyword).length + (if ([] : List Keyword).isEmpty then 0 else 1) < 30)) = true := by rfl)
    (hline : (apos.endLine == cpos.line) = true := by rfl) (hs : starEach [e] X.env = (false, eval e X.env) :: starEach [] X.env := by rfl) (hplain : (backTo cpos (starEach [] X.env)).any (·.1) = false := by rfl)
    (hsw : swapsWith (.Call (.Attribute (.Name x p1) "append" apos) [e] [] cpos) none pos.line X.env = pure false := by rfl) : QS g X (.Expr (.Call (.Attribute (.Name x p1) "append" apos) [e] [] cpos) pos) (qApp i te) :=
  ⟨ps_imp (ps_expr (pe_bm PySem.F.plainAttrs_list PySem.F.slot_list_append PySem.F.type_list_append mt_append (pe_var (i := i) hN hv hd hcd) (pa_cons he.run pa_nil hs) hbase hfew hline hs hplain) hsw) fun Dn σ H ⟨W, ρ, B, S, ⟨ds, hi, q⟩, k⟩ => by
    obtain ⟨a, xs, q1, q2, q3, q4⟩ := ty_own S hi
    refine ⟨.ref a, q1, q4, W, ρ, _, S, q, fun v d H1 S1 E1 r1 ⟨hz, q5⟩ => ?_⟩
    obtain ⟨a', ys, w1, w2, w3, w4⟩ := ty_own S1 hi
    rw [q1] at w1
    cases w1
    refine ⟨a, ys, v, rfl, rfl, w2, by rw [w3.length]; exact hz, ?_⟩
    obtain ⟨S2, E2⟩ := S1.mutOwn i hi q1 (w3.append (.cons r1 .nil))
    exact k.nx W σ _ _ S2 (E1.trans E2) q5⟩
end
end PL
end

section
set_option Elab.async false
set_option linter.all false
set_option maxRecDepth 100000
set_option maxHeartbeats 4000000
namespace PL
open PySem PySem.Spec PyProof.Rows L2
/-! ### enumerate over a tuple -/
theorem enum_new1 {v : Value} {o : Obj} {H : Heap → Prop} (B : Begins v o H) :
    Meets (Builtin.«enumerate.__new__» ⟨[.type "enumerate", v], []⟩) (fun _ R s => H s.heap ∧
      R (.ok (.ret (.ref (s.heap.push o).objs.size))) { s with heap := (s.heap.push o).push { cls := .type "enumerate", data := .fields #[.none, .bool false, .ref s.heap.objs.size, rawInt 0, .none, .none] } }) :=
  .of_wp fun prog w A R s h => by
    obtain ⟨hp, g, d, tk, os⟩ := s
    obtain ⟨h1, h⟩ := h
    have hsub := sub_enumerate
    have q1 : ∀ {A' : Around} {E : Value → Shared → Prop} {Q : Value → Shared → Prop}, Q (.ref hp.objs.size) ⟨hp.push o, g, d, tk, os⟩ → wpAny (model prog w) A' (pyIter v) Q E ⟨hp, g, d, tk, os⟩ :=
      fun q => B.iter prog w _ _ ⟨hp, g, d, tk, os⟩ _ h1 q
    wp_walk using q1
    refine wpAny_stack_any fun st => wpAny_pure ?_
    split
    · rename_i c _ _ _ _ _
      cases (c == Value.type "enumerate") <;> (wp_walk using q1; exact ⟨_, rfl, h⟩)
    · wp_walk using q1
      exact ⟨_, rfl, h⟩
theorem enum_call1 {prog : Program} {w : World} {A : Around} {E : Value → Shared → Prop} {s : Shared} {v : Value} {o : Obj} {H : Heap → Prop} {Q : Value → Shared → Prop} (B : Begins v o H) (h1 : H s.heap)
    (h : ∀ h', IsEnum h' (s.heap.objs.size + 1) s.heap.objs.size 0 .none → h'.get? s.heap.objs.size = some o → h'.objs.size = s.heap.objs.size + 2 → (∀ b o, s.heap.get? b = some o → h'.get? b = some o) → Q (.ref (s.heap.objs.size + 1)) { s with heap := h' }) :
    wpAny (model prog w) A (call (.type "enumerate") [v]) Q E s := by
  refine callType_new F.called_enumerate (by decide) (F.typeCall_enumerate_1 _) (F.newCall_enumerate_1 _) (fun obj => F.args_object_init_2 obj _) F.entry_enumerate_new (enum_new1 B) ⟨h1, ?_⟩
  have hz : (s.heap.push o).objs.size = s.heap.objs.size + 1 := Heap.size_push ..
  show _ ∧ _
  rw [hz]
  have he : IsEnum ((s.heap.push o).push { cls := .type "enumerate", data := .fields #[.none, .bool false, .ref s.heap.objs.size, rawInt 0, .none, .none] }) (s.heap.objs.size + 1) s.heap.objs.size 0 .none := by
    have z := Heap.get?_push_size (s.heap.push o) (o := { cls := .type "enumerate", data := .fields #[.none, .bool false, .ref s.heap.objs.size, rawInt 0, .none, .none] }) rfl
    rw [hz] at z
    exact z
  refine ⟨⟨_, he, rfl⟩, h _ he (Heap.get?_push_of_some _ (Heap.get?_push_size _ B.free)) (by rw [Heap.size_push, hz]) fun b o x => Heap.get?_push_of_some _ (Heap.get?_push_of_some _ x)⟩
/-- the tuple at a as it stands at each turn, each item in a new pair -/
def IteT (K : Fg) (a : Addr) : It :=
  ⟨fun i H => ∃ (xs : List V) (x : V), SqT K H a xs ∧ xs[i]? = some x, fun i H v H' => ∃ T x, v = .ref T ∧ H T = none ∧ H' = upd H T (.tup [.int (i : Nat), x]) ∧ ∀ xs, SqT K H a xs → xs[i]? = some x, fun i H => ∃ xs : List V, SqT K H a xs ∧ xs.length ≤ i⟩
theorem turn_enumT {P : Program} {w : World} {K : Fg} {elts : List Expr} {kk : Nat} {tpos : Pos} (a e it : Addr) :
    Turn P w K (.Tuple elts kk tpos) (IteT K a) [e, it] e (fun i h => (∃ old, IsEnum h e it ((i : Nat) : Int) old) ∧ h.IsTupleIter it a i ∧ e ≠ it ∧ a ≠ it ∧ a ≠ e) where
  mem := by simp
  obj := fun i h st b hb => by
    obtain ⟨⟨old, he⟩, ⟨o, ho, hc, hd⟩, _⟩ := st
    have e' : b = e ∨ b = it := by simpa using hb
    rcases e' with z | z
    · rw [z]; exact ⟨_, he, fun v q => nomatch q⟩
    · rw [z]; exact ⟨o, ho, fun v q => by rw [hd] at q; cases q⟩
  keep := fun i h h' st k => by
    obtain ⟨⟨old, he⟩, hi, hne⟩ := st
    exact ⟨⟨old, k e (by simp) _ he⟩, hi.at fun o q => k it (by simp) o q, hne⟩
  item := by
    intro X hP hw hK hc i pins s σ H E I hf st hg
    subst hP hw hK
    obtain ⟨⟨old, he⟩, hit, hne, hai, hae⟩ := st
    obtain ⟨xs, x, hq, hx⟩ := hg
    obtain ⟨its, rv, p, hz⟩ := I.tuple hq
    obtain ⟨u, hu, ru⟩ := rv.get hx
    have hel : e < s.heap.objs.size := Heap.lt_size he
    have hil : it < s.heap.objs.size := by obtain ⟨_, q, _⟩ := hit; exact Heap.lt_size q
    have hlt : i < its.toArray.size := by
      rw [List.size_toArray]
      exact (List.getElem?_eq_some_iff.mp hu).1
    have D := Draws.tuple (prog := X.prog) (w := X.w) (A := X.A.in1) (I.ok.hd hc) it a hai its.toArray
    refine wpAny_pyNext_enum_itemD D he ⟨hit, p⟩ hlt hne (by simp; exact ⟨hne, Ne.symm hae⟩) fun y h' tk hy ho hst hT hsz hk => ?_
    have hyu : y = u := by
      have q : its.toArray[i]? = some y := hy
      have q2 : its.toArray[i]? = some u := by simpa using hu
      rw [q] at q2
      exact Option.some.inj q2
    subst hyu
    refine ⟨_, rfl, wpAny_letOwnedTupleGo_enum (s := { s with heap := h', toks := tk + 1 }) ho fun h'' he' sb => ?_⟩
    have hT2 : h''.get? s.heap.objs.size = some { cls := .type "tuple", data := .seq #[.int i tk, y] } := (sb.2 _ (Nat.ne_of_gt hel)).trans hT
    have new : ObjOk X.prog X.w (upd H s.heap.objs.size (.tup [.int (i : Nat), x])) h'' s.heap.objs.size (.tup [.int (i : Nat), x]) :=
      ⟨by show 2 ≤ sizeLine; decide, [.int i tk, y], .cons ⟨_, rfl⟩ (.cons ru .nil), ⟨_, hT2, rfl, _, rfl⟩⟩
    have I1 : Inv X pins σ (upd H s.heap.objs.size (.tup [.int (i : Nat), x])) { s with heap := h'', toks := tk + 1 } :=
      I.turnedNew (ch := [e, it]) (fun b ob hb q => (sb.2 b (fun z => hb (by simp [z]))).trans (hk b ob (fun z => hb (by simp [z])) (fun z => hb (by simp [z])) q)) hf (Nat.le_refl _) new
    refine ⟨.ref s.heap.objs.size, _, I1, rfl, ⟨_, x, rfl, I.hok.fresh (Nat.le_refl _), rfl, fun ys hy => by rw [I.tuple_inj hy hq]; exact hx⟩, ⟨⟨y, ?_⟩, hst.1.at fun o q => (sb.2 it (Ne.symm hne)).trans q, hne, hai, hae⟩, fun b hb => ?_⟩
    · have e1 : ((i + 1 : Nat) : Int) = (i : Int) + 1 := by omega
      rw [e1]; exact he'
    · have hb' : b < s.heap.objs.size := by
        have e' : b = e ∨ b = it := by simpa using hb
        rcases e' with z | z
        · rw [z]; exact hel
        · rw [z]; exact hil
      rw [upd_ne (Nat.ne_of_lt hb')]
      exact (hf b hb).1
  done := by
    intro X hP hw hK hc i pins s σ H E I hf st hg
    subst hP hw hK
    obtain ⟨⟨old, he⟩, hit, hne, hai, hae⟩ := st
    obtain ⟨xs, hq, hx⟩ := hg
    obtain ⟨its, rv, p, hz⟩ := I.tuple hq
    obtain ⟨f0, f1, f2, f3, f4, f5⟩ := hf it (by simp)
    have hl := rv.length
    unfold pyNext
    have hT : s.TypeIs (.ref e) "enumerate" := ⟨_, he, rfl⟩
    refine wpAny_bind (wpAny_attempt (wpAny_callSpecial?_slot (name := Str.ofString "__next__") hT F.slot_enumerate_next (wpAny_call_entry F.slot_enumerate_next hT F.entry_enumerate_next ?_ (F.args_enumerate_next_1 _))))
    show wpAny _ _ (field (.ref e) 2 >>= _) _ _ _
    refine wpAny_bind (wpAny_field he rfl (x := .ref it) rfl ?_)
    refine wpAny_bind (wpAny_nextOf_tuple_end (A := X.A.in1) (I.ok.hd hc) hit p (by rw [Array.getElem?_eq_none]; rw [List.size_toArray]; omega) fun h' x he' hx' => ?_)
    obtain ⟨o, ho, hcs⟩ := hx'
    refine wpAny_bind (wpAny_isInstance (T := "StopIteration") (b := true) ⟨o, ho, hcs⟩ isSubtype_stop ?_)
    exact wpAny_pure ⟨rfl, I.turned (t' := s.toks) (fun b o hb q => he' b o hb q) f0 f1 f3 f4 f5⟩
  self := fun A i s Q E st h => by
    obtain ⟨⟨old, he⟩, _⟩ := st
    exact wpAny_pyIter_enum he h
end PL
end

section
set_option Elab.async false
set_option linter.all false
set_option maxRecDepth 100000
set_option maxHeartbeats 4000000
namespace PL
open PySem PySem.Spec PyProof.Rows L2
/-! ### what is walked -/
structure WalkD (Rk : RkT) (K : Fg) (W0 : AP) (H0 : Hp) (J : It) (ds : List D) : Prop where
  ex : ∃ G Y, Walk J ds.length G Y ∧ (∀ W H, Evo W0 H0 W H → G H) ∧ ∀ i W H x H', Evo W0 H0 W H → (∀ b, W b → ∃ o, H b = some o) → Y i H x H' → Same H H' ∧ ∃ d, ds[i]? = some d ∧ Rk K W H' x d
structure QI (Rk : RkT) (g : Gh) (X : Cx) (tg e : Expr) (t : En → (List D → Prop) → Prop) : Prop where
  run : PI X tg e (fun σ H R => ∃ W ρ P, St X.K g W H σ ρ ∧ t ρ P ∧ ∀ J H' ds, St X.K g W H' σ ρ → Evo W H W H' → WalkD Rk X.K W H' J ds → P ds → R J H')
theorem pi_imp {X : Cx} {tg e : Expr} {t t' : TI} (h : PI X tg e t) (i : ∀ σ H R, t' σ H R → t σ H R) : PI X tg e t' := ⟨fun p s σ H Q I q => h.run p s σ H Q I (i σ H Q q)⟩
section
variable {X : Cx} {tg e e2 : Expr} {te : TE} {ta : TA} {p pos tpos : Pos} {elts : List Expr} {kk : Nat}
theorem pi_seq (he : PE X e te) : PI X tg e (fun σ H R => te σ H fun x H1 => (∃ a xs, x = .ref a ∧ SqL X.K H1 a xs ∧ R (Itl X.K a) H1) ∨ (∃ a xs, x = .ref a ∧ SqT X.K H1 a xs ∧ R (Itt X.K a) H1) ∨ ∃ z, x = .str z ∧ R (Its z) H1) := by
  refine ⟨fun pins s σ H R I h => thn (he.run pins s σ H _ I h) fun v s1 ⟨x, H1, I1, r1, q1⟩ => ?_⟩
  rcases q1 with ⟨a, xs, e, hq, q⟩ | ⟨a, xs, e, hq, q⟩ | ⟨z, e, q⟩
  · subst e
    cases r1
    obtain ⟨its, rv, p, hz⟩ := I1.list hq
    exact wpAny_pyIter_list p.isList (pi_one (tk := s1.toks) I1 _ (turn_list a _) ⟨_, Heap.get?_push_size _ rfl, rfl, rfl⟩ q)
  · subst e
    cases r1
    obtain ⟨its, rv, p, hz⟩ := I1.tuple hq
    exact wpAny_pyIter_tuple (show s1.heap.IsTuple a its.toArray from p) (pi_one (tk := s1.toks) I1 _ (turn_tuple a _) ⟨_, Heap.get?_push_size _ rfl, rfl, rfl⟩ q)
  · subst e
    obtain ⟨t, rfl⟩ := r1
    cases ha : z.cps.all (· < 128)
    · exact wpAny_pyIter_wide ha (pi_one (tk := s1.toks) I1 _ (turn_str _ z t "str_iterator" (.inr rfl)) ⟨_, Heap.get?_push_size _ rfl, rfl, rfl⟩ q)
    · exact wpAny_pyIter_ascii ha (pi_one (tk := s1.toks) I1 _ (turn_str _ z t "str_ascii_iterator" (.inl rfl)) ⟨_, Heap.get?_push_size _ rfl, rfl, rfl⟩ q)
theorem pi_enumT (hg : Gl X "enumerate") (hm : X.mg "enumerate" = none) (ha : PA X [e] ta) (hs : starEach [e] X.env = [(false, eval e X.env)] := by rfl) :
    PI X (.Tuple elts kk tpos) (.Call (.Name "enumerate" p) [e] [] pos) (fun σ H R => ta σ H fun vs H1 => ∃ a xs, vs = [.ref a] ∧ SqT X.K H1 a xs ∧ R (IteT X.K a) H1) := by
  refine ⟨fun pins s σ H R I h => ?_⟩
  refine Call_ (ld_blt I hg hm boot_enumerate (PyProof.Rows.callWith_type1 (thn (ha.run pos pins s σ H _ I h) fun us s1 ⟨vs, H1, I1, r1, q1⟩ => ?_) hs rfl))
  obtain ⟨a, xs, ex, hq, q⟩ := q1
  subst ex
  cases r1 with
  | cons r rr =>
    cases rr
    cases r
    obtain ⟨its, rv, p', hz⟩ := I1.tuple hq
    have hal : a < s1.heap.objs.size := by
      obtain ⟨o, ho, _⟩ := p'
      exact Heap.lt_size ho
    refine enum_call1 (begins_tuple a its.toArray) p' fun h' he hit hsz hk => wpAny_pyIter_enum he ?_
    have I2 : Inv X pins σ H1 { s1 with heap := h' } := I1.kept (t' := s1.toks) hk
    refine ⟨s1.heap.objs.size + 1, [s1.heap.objs.size + 1, s1.heap.objs.size], _, _, H1, rfl, I2, turn_enumT a (s1.heap.objs.size + 1) s1.heap.objs.size, ⟨⟨.none, he⟩, ⟨_, hit, rfl, rfl⟩, Nat.succ_ne_self _, Nat.ne_of_lt hal, Nat.ne_of_lt (Nat.lt_succ_of_lt hal)⟩, fun b hb => ?_, q⟩
    have e' : b = s1.heap.objs.size + 1 ∨ b = s1.heap.objs.size := by simpa using hb
    have hle : s1.heap.objs.size ≤ b := by
      rcases e' with z | z
      · rw [z]; exact Nat.le_add_right _ _
      · rw [z]; exact Nat.le_refl _
    exact I1.fpOk hle (I1.hok.fresh hle)
end
section
variable {K : Fg} {W0 : AP} {H0 : Hp} {a b : Addr} {xs ys : List V} {ds es : List D}
theorem same_upd {H : Hp} {p : Addr} {o : HO} (h : H p = none) : Same H (upd H p o) := fun b u z => by rw [upd_ne (ne_of_none z h)]; exact z
theorem wd_list (h : WL K W0 H0 a xs) (r : Reps K W0 H0 xs ds) : WalkD Rep K W0 H0 (Itl K a) ds := by
  refine ⟨_, _, by rw [← r.length]; exact walk_list (K := K) (a := a) (xs := xs), fun W H e => (h.evo e).sq, fun i W H x H' e _ y => ?_⟩
  obtain ⟨rfl, hx⟩ := y
  obtain ⟨d, hd, rd⟩ := r.get hx
  exact ⟨Same.refl _, d, hd, rd.evo e⟩
theorem wd_tup (h : WT K W0 H0 a xs) (r : Reps K W0 H0 xs ds) : WalkD Rep K W0 H0 (Itt K a) ds := by
  refine ⟨_, _, by rw [← r.length]; exact walk_tup (K := K) (a := a) (xs := xs), fun W H e => (h.evo e).sq, fun i W H x H' e _ y => ?_⟩
  obtain ⟨rfl, hx⟩ := y
  obtain ⟨d, hd, rd⟩ := r.get hx
  exact ⟨Same.refl _, d, hd, rd.evo e⟩
def sgns (z : Str) : List D := z.cps.toList.map fun c => .str ⟨#[c]⟩
theorem wd_str (z : Str) : WalkD Rep K W0 H0 (Its z) (sgns z) := by
  refine ⟨fun _ => True, _, by
    have e : (sgns z).length = z.cps.size := by unfold sgns; simp
    rw [e]; exact walk_str, fun W H e => trivial, fun i W H x H' e _ y => ?_⟩
  obtain ⟨rfl, c, hc, rfl⟩ := y
  exact ⟨Same.refl _, .str ⟨#[c]⟩, by unfold sgns; simp [hc], .str _⟩
theorem wd_range (lo : Int) (n : Nat) : WalkD Rep K W0 H0 (Itr lo n) ((List.range n).map fun i => .int (lo + (i : Nat))) := by
  refine ⟨fun _ => True, fun i H x H' => i < n ∧ H' = H ∧ x = .int (lo + (i : Nat)), by
    rw [List.length_map, List.length_range]; exact walk_range.mono (fun _ _ => trivial) (fun i H x H' hi _ y => ⟨hi, y.1, y.2⟩), fun W H e => trivial, fun i W H x H' e _ y => ?_⟩
  obtain ⟨hi, rfl, rfl⟩ := y
  exact ⟨Same.refl _, .int (lo + (i : Nat)), by simp [hi], .int _⟩
def enumD (ds : List D) : List D := ds.zipIdx.map fun p => .tuple [.int (p.2 : Nat), p.1]
def zipD (ds es : List D) : List D := (ds.zip es).map fun p => .tuple [p.1, p.2]
theorem pair_ok {W : AP} {H H' : Hp} {T : Addr} {x y v : V} {d c : D} (e : Evo W0 H0 W H) (hv : v = .ref T) (hT : H T = none) (hH : H' = upd H T (.tup [x, y])) (r1 : Rep K W0 H0 x d) (r2 : Rep K W0 H0 y c) : Same H H' ∧ RepY K W H' v (.tuple [d, c]) := by
  subst hH
  have s := same_upd (o := HO.tup [x, y]) hT
  exact ⟨s, .inr ⟨T, _, _, hv, upd_same, .cons ((r1.evo e).evo (Evo.of_same s)) (.cons ((r2.evo e).evo (Evo.of_same s)) .nil), rfl⟩⟩
theorem enum_get {i : Nat} {d : D} (h : ds[i]? = some d) : (enumD ds)[i]? = some (.tuple [.int (i : Nat), d]) := by
  unfold enumD
  simp [h]
theorem zip_get {i : Nat} {d c : D} (h : ds[i]? = some d) (h2 : es[i]? = some c) : (zipD ds es)[i]? = some (.tuple [d, c]) := by
  unfold zipD
  rw [List.getElem?_map]
  have e : (ds.zip es)[i]? = some (d, c) := by
    rw [List.zip, List.getElem?_zipWith, h, h2]
  rw [e]
  rfl
theorem wd_enumL (h : WL K W0 H0 a xs) (r : Reps K W0 H0 xs ds) : WalkD RepY K W0 H0 (Ite K a) (enumD ds) := by
  refine ⟨_, _, by
    have e : (enumD ds).length = xs.length := by unfold enumD; simp [r.length]
    rw [e]; exact walk_enum (K := K) (a := a) (xs := xs), fun W H e => (h.evo e).sq, fun i W H x H' e _ y => ?_⟩
  obtain ⟨T, x', y', hv, hT, hH, h1, h2⟩ := y
  cases h1
  obtain ⟨d, hd, rd⟩ := r.get h2
  obtain ⟨s, ry⟩ := pair_ok e hv hT hH (.int _) rd
  exact ⟨s, _, enum_get hd, ry⟩
theorem walk_enumT : Walk (IteT K a) xs.length (fun H => SqT K H a xs) (YPair (fun i => some (.int (i : Nat))) (fun i => xs[i]?)) := by
  refine ⟨fun i _ hi q => ⟨xs, xs[i], q, by simp [hi]⟩, fun _ q => ⟨xs, q, Nat.le_refl _⟩, fun i H v H' _ q y => ?_⟩
  obtain ⟨T, x, h1, h2, h3, h4⟩ := y
  exact ⟨T, .int (i : Nat), x, h1, h2, h3, rfl, h4 xs q⟩
theorem wd_enumT (h : WT K W0 H0 a xs) (r : Reps K W0 H0 xs ds) : WalkD RepY K W0 H0 (IteT K a) (enumD ds) := by
  refine ⟨_, _, by
    have e : (enumD ds).length = xs.length := by unfold enumD; simp [r.length]
    rw [e]; exact walk_enumT (K := K) (a := a) (xs := xs), fun W H e => (h.evo e).sq, fun i W H x H' e _ y => ?_⟩
  obtain ⟨T, x', y', hv, hT, hH, h1, h2⟩ := y
  cases h1
  obtain ⟨d, hd, rd⟩ := r.get h2
  obtain ⟨s, ry⟩ := pair_ok e hv hT hH (.int _) rd
  exact ⟨s, _, enum_get hd, ry⟩
theorem zipD_length : (zipD ds es).length = min ds.length es.length := by unfold zipD; simp
theorem wd_zipL (h : WL K W0 H0 a xs) (r : Reps K W0 H0 xs ds) (h' : WL K W0 H0 b ys) (r' : Reps K W0 H0 ys es) : WalkD RepY K W0 H0 (Itz K a b) (zipD ds es) := by
  refine ⟨_, _, walk_zip (K := K) (a := a) (b := b) (xs := xs) (ys := ys) (by rw [zipD_length, r.length, r'.length]), fun W H e => ⟨(h.evo e).sq, (h'.evo e).sq⟩, fun i W H x H' e _ y => ?_⟩
  obtain ⟨T, x', y', hv, hT, hH, h1, h2⟩ := y
  obtain ⟨d, hd, rd⟩ := r.get h1
  obtain ⟨c, hc, rc⟩ := r'.get h2
  obtain ⟨s, ry⟩ := pair_ok e hv hT hH rd rc
  exact ⟨s, _, zip_get hd hc, ry⟩
theorem walk_zipT {n : Nat} (hn : n = min xs.length ys.length) : Walk (RZ.ItzT K a b) n (fun H => SqT K H a xs ∧ SqT K H b ys) (YPair (fun i => xs[i]?) (fun i => ys[i]?)) := by
  subst hn
  refine ⟨fun i _ hi q => ?_, fun _ q => ⟨xs, ys, q.1, q.2, by omega⟩, fun i H v H' _ q y => ?_⟩
  · have h1 : i < xs.length := by omega
    have h2 : i < ys.length := by omega
    exact ⟨xs, ys, xs[i], ys[i], q.1, q.2, by simp [h1], by simp [h2]⟩
  · obtain ⟨T, x, z, h1, h2, h3, h4, h5⟩ := y
    exact ⟨T, x, z, h1, h2, h3, h4 xs q.1, h5 ys q.2⟩
theorem wd_zipT (h : WT K W0 H0 a xs) (r : Reps K W0 H0 xs ds) (h' : WT K W0 H0 b ys) (r' : Reps K W0 H0 ys es) : WalkD RepY K W0 H0 (RZ.ItzT K a b) (zipD ds es) := by
  refine ⟨_, _, walk_zipT (K := K) (a := a) (b := b) (xs := xs) (ys := ys) (by rw [zipD_length, r.length, r'.length]), fun W H e => ⟨(h.evo e).sq, (h'.evo e).sq⟩, fun i W H x H' e _ y => ?_⟩
  obtain ⟨T, x', y', hv, hT, hH, h1, h2⟩ := y
  obtain ⟨d, hd, rd⟩ := r.get h1
  obtain ⟨c, hc, rc⟩ := r'.get h2
  obtain ⟨s, ry⟩ := pair_ok e hv hT hH rd rc
  exact ⟨s, _, zip_get hd hc, ry⟩
end
section
variable {g : Gh} {X : Cx} {tg e e2 : Expr} {te te2 : TrE} {tl : TrL} {p pos tpos : Pos} {elts : List Expr} {kk : Nat}
theorem QI.y {t : En → (List D → Prop) → Prop} (h : QI Rep g X tg e t) : QI RepY g X tg e t :=
  ⟨pi_imp h.run fun σ H R ⟨W, ρ, P, S, q, k⟩ => ⟨W, ρ, P, S, q, fun J H' ds S' E' ⟨G, Y, w, hG, hY⟩ q' => k J H' ds S' E' ⟨G, Y, w, hG, fun i W H x H' e a y => by
    obtain ⟨s, d, hd, r⟩ := hY i W H x H' e a y
    exact ⟨s, d, hd, .inl r⟩⟩ q'⟩⟩
/-- lists and tuples have a greatest length -/
def lenOk : D → Prop
  | .list xs => xs.length ≤ sizeLine
  | .tuple xs => xs.length ≤ sizeLine
  | _ => True
theorem rep_len {pins : List (Addr × Obj)} {σ : L2.St} {H : Hp} {s : Shared} {W : AP} {v : V} {d : D} (I : Inv X pins σ H s) (r : Rep X.K W H v d) : lenOk d := by
  cases d with
  | list xs => cases r with
    | lst h1 h2 =>
      obtain ⟨its, rv, p, hz⟩ := I.list h1.sq
      show xs.length ≤ sizeLine
      have l1 := rv.length
      have l2 := h2.length
      omega
  | tuple xs => cases r with
    | tup h1 h2 =>
      obtain ⟨its, rv, p, hz⟩ := I.tuple h1.sq
      show xs.length ≤ sizeLine
      have l1 := rv.length
      have l2 := h2.length
      omega
  | _ => trivial
theorem reps_len {pins : List (Addr × Obj)} {σ : L2.St} {H : Hp} {s : Shared} {W : AP} (I : Inv X pins σ H s) : ∀ {vs : List V} {ds : List D}, Reps X.K W H vs ds → ∀ d ∈ ds, lenOk d
  | _, _, .nil, d, h => by cases h
  | _, _, .cons a r, d, h => by
    rcases List.mem_cons.mp h with h | h
    · rw [h]; exact rep_len I a
    · exact reps_len I r d h
theorem qe_len (he : QE g X e te) : QE g X e (fun ρ R => te ρ fun d => lenOk d → R d) :=
  ⟨⟨fun pins s σ H Q I ⟨W, ρ, R, S, q, k⟩ => thn (he.run.run pins s σ H (fun v H' => ∃ d, St X.K g W H' σ ρ ∧ Evo W H W H' ∧ Rep X.K W H' v d ∧ (lenOk d → R d)) I ⟨W, ρ, _, S, q, fun v d H' S' E' r' q' => ⟨d, S', E', r', q'⟩⟩) fun u s' ⟨v, H', I', ru, d, S', E', r', q'⟩ =>
    ⟨v, H', I', ru, k v d H' S' E' r' (q' (rep_len I' r'))⟩⟩⟩
theorem ql_len {es : List Expr} (he : QL g X es tl) : QL g X es (fun ρ R => tl ρ fun ds => (∀ d ∈ ds, lenOk d) → R ds) :=
  ⟨⟨fun pos pins s σ H Q I ⟨W, ρ, R, S, q, k⟩ => thn (he.run.run pos pins s σ H (fun vs H' => ∃ ds, St X.K g W H' σ ρ ∧ Evo W H W H' ∧ Reps X.K W H' vs ds ∧ ((∀ d ∈ ds, lenOk d) → R ds)) I ⟨W, ρ, _, S, q, fun v d H' S' E' r' q' => ⟨d, S', E', r', q'⟩⟩) fun u s' ⟨v, H', I', ru, d, S', E', r', q'⟩ =>
    ⟨v, H', I', ru, k v d H' S' E' r' (q' (reps_len I' r'))⟩⟩⟩
/-- what a loop over d goes through -/
def seqD : D → Option (List D)
  | .list xs => some xs
  | .tuple xs => some xs
  | .str z => some (sgns z)
  | _ => none
def iSeq (te : TrE) : En → (List D → Prop) → Prop := fun ρ P => te ρ fun d => ∃ xs, seqD d = some xs ∧ P xs
theorem qi_seq (he : QE g X e te) : QI Rep g X tg e (iSeq te) :=
  ⟨pi_imp (pi_seq he.run) fun σ H R ⟨W, ρ, P, S, q, k⟩ => ⟨W, ρ, _, S, q, fun v d H1 S1 E1 r1 ⟨xs, hx, q1⟩ => by
    cases d with
    | list ys =>
      cases hx
      cases r1 with
      | lst h1 h2 => exact .inl ⟨_, _, rfl, h1.sq, k _ H1 _ S1 E1 (wd_list h1 h2) q1⟩
    | tuple ys =>
      cases hx
      cases r1 with
      | tup h1 h2 => exact .inr (.inl ⟨_, _, rfl, h1.sq, k _ H1 _ S1 E1 (wd_tup h1 h2) q1⟩)
    | str z =>
      cases hx
      cases r1
      exact .inr (.inr ⟨z, rfl, k _ H1 _ S1 E1 (wd_str z) q1⟩)
    | _ => cases hx⟩⟩
def iRg1 (tl : TrL) : En → (List D → Prop) → Prop := fun ρ P => tl ρ fun ds => ∃ j : Int, ds = [.int j] ∧ -(2 ^ 62) ≤ j ∧ j < 2 ^ 62 ∧ P ((List.range j.toNat).map fun i => .int (i : Nat))
theorem qi_range1 (hg : Gl X "range") (hm : X.mg "range" = none) (ha : QLB g X [e] tl) (hs : starEach [e] X.env = [(false, eval e X.env)] := by rfl) : QI Rep g X tg (.Call (.Name "range" p) [e] [] pos) (iRg1 tl) :=
  ⟨pi_imp (pi_range1 hg hm ha.run hs) fun σ H R ⟨W, ρ, P, S, q, k⟩ => ⟨W, ρ, _, S, q, fun vs ds H1 S1 E1 r1 ⟨j, hd, h1, h2, q1⟩ => by
    subst hd
    obtain ⟨v, rfl, a⟩ := repsC1 (RepsB.c S1 r1)
    rw [a.int]
    refine ⟨j, rfl, h1, h2, k _ H1 _ S1 E1 (wd_range 0 j.toNat) ?_⟩
    simp only [Int.zero_add]
    exact q1⟩⟩
def iRg2 (tl : TrL) : En → (List D → Prop) → Prop := fun ρ P => tl ρ fun ds => ∃ i j : Int, ds = [.int i, .int j] ∧ (-(2 ^ 62) ≤ i ∧ i < 2 ^ 62 ∧ -(2 ^ 62) ≤ j ∧ j < 2 ^ 62) ∧ P ((List.range (j - i).toNat).map fun k => .int (i + (k : Nat)))
theorem qi_range2 (hg : Gl X "range") (hm : X.mg "range" = none) (ha : QLB g X [e, e2] tl) (hs : starEach [e, e2] X.env = [(false, eval e X.env), (false, eval e2 X.env)] := by rfl) (hs2 : starEach [e2] X.env = [(false, eval e2 X.env)] := by rfl) : QI Rep g X tg (.Call (.Name "range" p) [e, e2] [] pos) (iRg2 tl) :=
  ⟨pi_imp (pi_range2 hg hm ha.run hs hs2) fun σ H R ⟨W, ρ, P, S, q, k⟩ => ⟨W, ρ, _, S, q, fun vs ds H1 S1 E1 r1 ⟨i, j, hd, h1, q1⟩ => by
    subst hd
    obtain ⟨v, u, rfl, a, b⟩ := repsC2 (RepsB.c S1 r1)
    rw [a.int, b.int]
    exact ⟨i, j, rfl, h1, k _ H1 _ S1 E1 (wd_range i (j - i).toNat) q1⟩⟩⟩
def iEn (tl : TrL) : En → (List D → Prop) → Prop := fun ρ P => tl ρ fun ds => ∃ xs, ds = [.list xs] ∧ P (enumD xs)
def iEnT (tl : TrL) : En → (List D → Prop) → Prop := fun ρ P => tl ρ fun ds => ∃ xs, ds = [.tuple xs] ∧ P (enumD xs)
theorem qi_enum (hg : Gl X "enumerate") (hm : X.mg "enumerate" = none) (ha : QL g X [e] tl) (hs : starEach [e] X.env = [(false, eval e X.env)] := by rfl) : QI RepY g X (.Tuple elts kk tpos) (.Call (.Name "enumerate" p) [e] [] pos) (iEn tl) :=
  ⟨pi_imp (pi_enum hg hm ha.run hs) fun σ H R ⟨W, ρ, P, S, q, k⟩ => ⟨W, ρ, _, S, q, fun vs ds H1 S1 E1 r1 ⟨xs, hd, q1⟩ => by
    subst hd
    cases r1 with
    | cons a r =>
      cases r
      cases a with
      | lst h1 h2 => exact ⟨_, _, rfl, h1.sq, k _ H1 _ S1 E1 (wd_enumL h1 h2) q1⟩⟩⟩
theorem qi_enumT (hg : Gl X "enumerate") (hm : X.mg "enumerate" = none) (ha : QL g X [e] tl) (hs : starEach [e] X.env = [(false, eval e X.env)] := by rfl) : QI RepY g X (.Tuple elts kk tpos) (.Call (.Name "enumerate" p) [e] [] pos) (iEnT tl) :=
  ⟨pi_imp (pi_enumT hg hm ha.run hs) fun σ H R ⟨W, ρ, P, S, q, k⟩ => ⟨W, ρ, _, S, q, fun vs ds H1 S1 E1 r1 ⟨xs, hd, q1⟩ => by
    subst hd
    cases r1 with
    | cons a r =>
      cases r
      cases a with
      | tup h1 h2 => exact ⟨_, _, rfl, h1.sq, k _ H1 _ S1 E1 (wd_enumT h1 h2) q1⟩⟩⟩
def iZp (tl : TrL) : En → (List D → Prop) → Prop := fun ρ P => tl ρ fun ds => ∃ xs ys, (ds = [.list xs, .list ys] ∨ ds = [.tuple xs, .tuple ys]) ∧ P (zipD xs ys)
theorem qi_zip (hg : Gl X "zip") (hm : X.mg "zip" = none) (ha : QL g X [e, e2] tl) (hs : starEach [e, e2] X.env = (false, eval e X.env) :: starEach [e2] X.env := by rfl) (hpl : (backTo pos (starEach [e2] X.env)).any (·.1) = false := by rfl) :
    QI RepY g X (.Tuple elts kk tpos) (.Call (.Name "zip" p) [e, e2] [] pos) (iZp tl) :=
  ⟨pi_imp (RZ.pi_zipA hg hm ha.run hs hpl) fun σ H R ⟨W, ρ, P, S, q, k⟩ => ⟨W, ρ, _, S, q, fun vs ds H1 S1 E1 r1 ⟨xs, ys, hd, q1⟩ => by
    rcases hd with hd | hd
    · subst hd
      cases r1 with
      | cons a r => cases r with
        | cons b r =>
          cases r
          cases a with
          | lst h1 h2 => cases b with
            | lst h3 h4 => exact ⟨_, _, _, _, rfl, .inl ⟨h1.sq, h3.sq, k _ H1 _ S1 E1 (wd_zipL h1 h2 h3 h4) q1⟩⟩
    · subst hd
      cases r1 with
      | cons a r => cases r with
        | cons b r =>
          cases r
          cases a with
          | tup h1 h2 => cases b with
            | tup h3 h4 => exact ⟨_, _, _, _, rfl, .inr ⟨h1.sq, h3.sq, k _ H1 _ S1 E1 (wd_zipT h1 h2 h3 h4) q1⟩⟩⟩⟩
end
end PL
end

section
set_option Elab.async false
set_option linter.all false
set_option maxRecDepth 100000
set_option maxHeartbeats 4000000
namespace PL
open PySem PySem.Spec PyProof.Rows L2
/-! ### loops -/
abbrev TrI := En → (List D → Prop) → Prop
section
variable {g : Gh} {X : Cx} {tg iter : Expr} {body : List Stmt} {ti : TrI} {tt : TrG} {tb : TrS} {pos : Pos} {ix : List Nat} {Rk : RkT}
abbrev rdS (K : Fg) (g : Gh) (t : TrS) : TS := fun Dn σ H => ∃ W ρ B, St K g W H σ ρ ∧ t B ρ ∧ EndsOk K g W H B Dn
abbrev rdG (Rk : RkT) (K : Fg) (g : Gh) (t : TrG) (ix : List Nat) : TG := fun v σ H Q => ∃ W ρ d P, St K g W H σ ρ ∧ Rk K W H v d ∧ t d ρ P ∧ ∀ σ' ρ', Off ix σ σ' → Off ix ρ ρ' → St K g W H σ' ρ' → P ρ' → Q σ' H
/-- P: what holds while so many items are still to come -/
def qFor (ti : TrI) (tt : TrG) (tb : TrS) : TrS := fun B ρ => ti ρ fun ds => ∃ P : List D → En → Prop, P ds ρ ∧ (∀ ρ', P [] ρ' → B.nx ρ') ∧
  ∀ d rest ρ', P (d :: rest) ρ' → tt d ρ' fun ρ2 => tb { B with nx := P rest, ct := P rest, bk := B.nx } ρ2
theorem qs_for (hp : PassesOwn (model X.prog X.w) X.A X.env X.xe) (hc : X.calm = true) (hi : QI Rk g X tg iter ti) (hg : QGr Rk g X tg tt ix) (hb : QSs g X body tb) (hs : ∀ x, foldedSetIterable iter X.env x = pure x := by intro _; rfl) :
    QS g X (.For tg iter body [] pos) (qFor ti tt tb) :=
  ⟨ps_imp (ps_for hp hc hi.run hg.run hb.run hs) fun Dn σ H ⟨W, ρ, B, S, q, k⟩ => ⟨W, ρ, _, S, q, fun J H1 ds S1 E1 ⟨G, Y, w, hG, hY⟩ ⟨P, p0, pn, ps⟩ => by
    refine for_it w (D := Dn) (g := rdG Rk X.K g tt ix) (tb := rdS X.K g tb) (fun i σ' H' => ∃ W' ρ', St X.K g W' H' σ' ρ' ∧ Evo W H1 W' H' ∧ P (ds.drop i) ρ') ⟨W, ρ, S1, Evo.refl _ _, p0⟩ (fun i σ' H' _ ⟨W', ρ', _, e, _⟩ => hG W' H' e) (fun i x σ' H' H2 hi ⟨W', ρ', S', e, p⟩ y => ?_) fun σ' H' ⟨W', ρ', S', e, p⟩ => ?_
    · obtain ⟨sm, d, hd, r⟩ := hY i W' H' x H2 e S'.wH y
      obtain ⟨S2, E2⟩ := S'.same_ sm
      have hdr : ds.drop i = d :: ds.drop (i + 1) := by
        obtain ⟨h1, h2⟩ := List.getElem?_eq_some_iff.mp hd
        rw [List.drop_eq_getElem_cons h1, h2]
      rw [hdr] at p
      refine ⟨W', ρ', d, _, S2, r, ps d _ ρ' p, fun σ3 ρ3 _ _ S3 q3 => ⟨W', ρ3, _, S3, q3, ?_⟩⟩
      have e2 : Evo W H1 W' H2 := e.trans E2
      exact ⟨fun W4 σ4 ρ4 H4 S4 E4 p4 => ⟨W4, ρ4, S4, e2.trans E4, p4⟩, fun W4 σ4 ρ4 H4 S4 E4 p4 => k.nx W4 σ4 ρ4 H4 S4 (E1.trans (e2.trans E4)) p4, fun W4 σ4 ρ4 H4 S4 E4 p4 => ⟨W4, ρ4, S4, e2.trans E4, p4⟩, k.rt⟩
    · rw [List.drop_length] at p
      exact k.nx W' σ' ρ' H' S' (E1.trans e) (pn ρ' p)⟩⟩
/-- P: by a measure -/
def qWhile (tc : TrT) (tb : TrS) : TrS := fun B ρ => ∃ P : Nat → En → Prop, (∃ n, P n ρ) ∧ ∀ n ρ', P n ρ' → tc ρ' fun b => if b = true then tb { B with nx := fun ρ2 => ∃ m, m < n ∧ P m ρ2, ct := fun ρ2 => ∃ m, m < n ∧ P m ρ2, bk := B.nx } ρ' else B.nx ρ'
theorem qs_while {c : Expr} {tc : TrT} (hp : PassesOwn (model X.prog X.w) X.A X.env X.xe) (hc : QT g X c tc) (hb : QSs g X body tb) : QS g X (.While c body [] pos) (qWhile tc tb) :=
  ⟨ps_imp (ps_while hp hc.run hb.run) fun Dn σ H ⟨W, ρ, B, S, ⟨P, ⟨n0, p0⟩, ps⟩, k⟩ => by
    refine ⟨fun n σ' H' => ∃ W' ρ', St X.K g W' H' σ' ρ' ∧ Evo W H W' H' ∧ P n ρ', ⟨n0, W, ρ, S, Evo.refl _ _, p0⟩, fun n σ' H' ⟨W', ρ', S', e, p⟩ => ⟨W', ρ', _, S', ps n ρ' p, fun b H2 S2 E2 q2 => ?_⟩⟩
    cases b with
    | false =>
      rw [if_neg Bool.false_ne_true] at q2 ⊢
      exact k.nx W' σ' ρ' H2 S2 (e.trans E2) q2
    | true =>
      rw [if_pos rfl] at q2 ⊢
      refine ⟨_, fun σ3 H3 z => z, W', ρ', _, S2, q2, ?_⟩
      have e2 : Evo W H W' H2 := e.trans E2
      have nx : ∀ W4 σ4 ρ4 H4, St X.K g W4 H4 σ4 ρ4 → Evo W' H2 W4 H4 → (∃ m, m < n ∧ P m ρ4) → ∃ m, m < n ∧ ∃ W' ρ', St X.K g W' H4 σ4 ρ' ∧ Evo W H W' H4 ∧ P m ρ' :=
        fun W4 σ4 ρ4 H4 S4 E4 ⟨m, hm, p4⟩ => ⟨m, hm, W4, ρ4, S4, e2.trans E4, p4⟩
      exact ⟨nx, fun W4 σ4 ρ4 H4 S4 E4 p4 => k.nx W4 σ4 ρ4 H4 S4 (e2.trans E4) p4, nx, k.rt⟩⟩
end

/-! ### list comprehensions -/
def Gh.blk (g : Gh) (h : List (Addr × HO)) : Gh := { g with hid := h, Ew := E0 }
theorem takesE0 {X : Cx} {g : Gh} (h : g.Ew = E0) : Takes X (WXg X.K g) := fun _ _ ⟨_, _, _, _, _, _, _, _, _, _, _, _, _, _, _, _, ⟨_, _, _, _, _, _, _, _, _, _, _, _, _, w⟩⟩ => by
  rw [h] at w
  exact w.elim
/-- the tests of a comprehension -/
structure QTs (g : Gh) (X : Cx) (ifs : List Expr) (t : TrT) : Prop where
  run : PTs X ifs (fun σ H Q => ∃ W ρ R, St X.K g W H σ ρ ∧ t ρ R ∧ ∀ b H', St X.K g W H' σ ρ → Evo W H W H' → R b → Q b H')
def qYes : TrT := fun _ R => R true
section
variable {g : Gh} {X : Cx} {c : Expr} {tt : TrT}
theorem pts_imp {X : Cx} {e : List Expr} {t t' : TT} (h : PTs X e t) (i : ∀ σ H Q, t' σ H Q → t σ H Q) : PTs X e t' := ⟨fun p s σ H Q I q => h.run p s σ H Q I (i σ H Q q)⟩
theorem qts_nil : QTs g X [] qYes := ⟨pts_imp pts_nil fun σ H Q ⟨W, ρ, R, S, q, k⟩ => k true H S (Evo.refl _ _) q⟩
theorem qts_one (h : QT g X c tt) : QTs g X [c] tt := ⟨pts_one h.run⟩
end
def wipeD (ρ : En) : List Nat → En
  | [] => ρ
  | v :: vs => (wipeD ρ vs).set v .no
section
variable {K : Fg} {g : Gh} {W : AP} {H : Hp} {σ σ' : L2.St} {ρ : En}
theorem St.setNo (S : St K g W H σ ρ) (i : Nat) : St K g W H (σ.set i none) (ρ.set i .no) := by
  have own : ∀ (j : Nat) (ds : List D), (ρ.set i .no)[j]? = some (.own ds) → j ≠ i ∧ ρ[j]? = some (.own ds) := fun j ds h => by
    rcases get_set_some h with ⟨_, _, z⟩ | z
    · cases z
    · exact z
  refine ⟨S.same, S.wF, S.wN, S.wH, S.pF, S.prs, by rw [List.length_set, List.length_set]; exact S.len, fun j s h => ?_, fun j j' a ds es ne h1 h2 h3 => ?_, S.hid, fun p hp j ds h => ?_, S.eb⟩
  · rcases get_set_some h with ⟨_, _, z⟩ | ⟨ne, z⟩
    · subst z; trivial
    · rw [List.getElem?_set_ne (Ne.symm ne)]
      exact S.sl j s z
  · obtain ⟨n1, q1⟩ := own j ds h1
    obtain ⟨n2, q2⟩ := own j' es h2
    rw [List.getElem?_set_ne (Ne.symm n1)] at h3
    rw [List.getElem?_set_ne (Ne.symm n2)]
    exact S.ap j j' a ds es ne q1 q2 h3
  · obtain ⟨n1, q1⟩ := own j ds h
    rw [List.getElem?_set_ne (Ne.symm n1)]
    exact S.hidA p hp j ds q1
theorem St.wipe (S : St K g W H σ ρ) : ∀ vs : List Nat, St K g W H (L2.wipe σ vs) (wipeD ρ vs)
  | [] => S
  | v :: vs => (St.wipe S vs).setNo v
theorem wipe_get (σ : L2.St) : ∀ (vs : List Nat) (j : Nat), (L2.wipe σ vs)[j]? = if j ∈ vs ∧ j < σ.length then some none else σ[j]?
  | [], j => by simp [L2.wipe]
  | v :: vs, j => by
    unfold L2.wipe
    by_cases e : v = j
    · subst e
      rw [List.getElem?_set]
      have l : (L2.wipe σ vs).length = σ.length := wipe_length σ vs
      by_cases hl : v < σ.length
      · simp [hl, l]
      · simp [hl, l]
    · rw [List.getElem?_set_ne e, wipe_get σ vs j]
      simp [Ne.symm e]
theorem wipe_off {ix vs : List Nat} (o : Off ix (L2.wipe σ vs) σ') (h : ∀ i ∈ ix, i ∈ vs) : L2.wipe σ' vs = L2.wipe σ vs := by
  have l : σ'.length = σ.length := by rw [o.1, wipe_length]
  refine List.ext_getElem? fun j => ?_
  rw [wipe_get, wipe_get, l]
  by_cases hj : j ∈ vs
  · by_cases hl : j < σ.length
    · simp [hj, hl]
    · rw [if_neg fun z => hl z.2, if_neg fun z => hl z.2, List.getElem?_eq_none (by omega), List.getElem?_eq_none (by omega)]
  · have e := o.2 j fun z => hj (h j z)
    rw [wipe_get] at e
    simp [hj] at e ⊢
    exact e
/-- a new list is laid and hidden -/
theorem St.hide {p : Addr} (u : HO) (S : St K g W H σ ρ) (h : H p = none) : St K (g.blk ((p, u) :: g.hid)) (fun b => W b ∨ b = p) (upd H p u) σ ρ ∧ Evo W H (fun b => W b ∨ b = p) (upd H p u) := by
  have np : ∀ b o, H b = some o → b ≠ p := fun b o z e => by rw [e, h] at z; cases z
  have nF : ¬ g.F p := fun z => S.fresh h (S.wF p z)
  have e : Evo W H (fun b => W b ∨ b = p) (upd H p u) := ⟨fun b z => z.imp id (fun q => by rw [q]; exact h), fun b o _ z => by rw [upd_ne (np b o z)]; exact z⟩
  have h0 : g.H0 p = none := by
    cases z : g.H0 p with
    | none => rfl
    | some o =>
      have q := S.same p o (fun w => nF (S.pF p w)) z
      rw [h] at q; cases q
  refine ⟨⟨fun b o n z => ?_, fun b z => .inl (S.wF b z), fun b z => ?_, fun b z => ?_, S.pF, fun a z => g.P.evo (S.prs a z) e.own fun b o _ q => by rw [upd_ne (np b o q)]; exact q, S.len, fun j s q => ?_, S.ap, fun q hq => ?_, fun q hq j ds hj => ?_, S.eb.trans e⟩, e⟩
  · have z' := S.same b o n z
    rw [upd_ne (np b o z')]; exact z'
  · rcases z with z | z
    · exact S.wN b z
    · rw [z]; exact .inr h0
  · rcases z with z | z
    · obtain ⟨o, ho⟩ := S.wH b z
      exact ⟨o, by rw [upd_ne (np b o ho)]; exact ho⟩
    · rw [z]; exact ⟨_, upd_same⟩
  · have q' : SlotOk K g (fun b => W b ∨ b = p) (upd H p u) σ[j]? s := (S.sl j s q).evo e fun ds a e1 e2 w nf => ⟨.inl w, by
      obtain ⟨o, ho⟩ := S.wH a w
      rw [upd_ne (np a o ho)]⟩
    cases s <;> exact q'
  · rcases List.mem_cons.mp hq with hq | hq
    · rw [hq]; exact ⟨.inr rfl, nF, upd_same⟩
    · obtain ⟨h1, h2, h3⟩ := S.hid q hq
      exact ⟨.inl h1, h2, by rw [upd_ne (np _ _ h3)]; exact h3⟩
  · rcases List.mem_cons.mp hq with hq | hq
    · rw [hq]
      intro z
      obtain ⟨a, xs, q1, q2, q3, q4, _⟩ := S.sl j _ hj
      rw [z] at q1
      cases q1
      exact np _ _ q4 rfl
    · exact S.hidA q hq j ds hj
/-- the hidden list grows -/
theorem St.grow {p : Addr} {xs ys : HO} {h : List (Addr × HO)} (S : St K (g.blk ((p, xs) :: h)) W H σ ρ) (hp : ∀ q ∈ h, q.1 ≠ p) : St K (g.blk ((p, ys) :: h)) W (upd H p ys) σ ρ ∧ Evo W H W (upd H p ys) := by
  obtain ⟨w, nF, hl⟩ := S.hid (p, xs) List.mem_cons_self
  have e : Evo W H W (upd H p ys) := ⟨fun b z => .inl z, fun b o n z => by rw [upd_ne (fun v => n (by rw [v]; exact w))]; exact z⟩
  refine ⟨⟨fun b o n z => ?_, S.wF, S.wN, fun b z => ?_, S.pF, fun c z => ?_, S.len, fun j s q => ?_, S.ap, fun q hq => ?_, fun q hq j ds hj => ?_, S.eb.trans e⟩, e⟩
  · have z' := S.same b o n z
    refine (?_ : upd H p ys b = some o)
    rw [upd_ne (fun v => ?_)]
    · exact z'
    · subst v
      rcases S.wN b w with v | v
      · exact nF v
      · have z2 : g.H0 b = some o := z
        have v2 : g.H0 b = none := v
        rw [v2] at z2; cases z2
  · by_cases v : b = p
    · rw [v]; exact ⟨_, upd_same⟩
    · rw [upd_ne v]; exact S.wH b z
  · refine g.P.evo (S.prs c z) (fun b w => .inl w) fun b o v q => ?_
    rw [upd_ne (fun u => ?_)]
    · exact q
    · rcases v with v | v
      · exact v (by rw [u]; exact w)
      · exact nF (by rw [← u, v]; exact S.pF c z)
  · have q' : SlotOk K (g.blk ((p, xs) :: h)) W (upd H p ys) σ[j]? s := (S.sl j s q).evo e fun ds' c e1 e2 v nf => ⟨v, upd_ne fun u => by
      subst e1; subst u
      exact S.hidA _ List.mem_cons_self j _ q e2⟩
    cases s <;> exact q'
  · rcases List.mem_cons.mp hq with hq | hq
    · rw [hq]; exact ⟨w, nF, upd_same⟩
    · obtain ⟨h1, h2, h3⟩ := S.hid q (List.mem_cons_of_mem _ hq)
      exact ⟨h1, h2, by rw [upd_ne (hp q hq)]; exact h3⟩
  · rcases List.mem_cons.mp hq with hq | hq
    · rw [hq]; exact S.hidA _ List.mem_cons_self j ds hj
    · exact S.hidA _ (List.mem_cons_of_mem _ hq) j ds hj
/-- the hidden list is let go: it was laid last -/
theorem St.unhide {p : Addr} {xs : HO} (S : St K (g.blk ((p, xs) :: g.hid)) (fun b => W b ∨ b = p) H σ ρ) (nW : ¬ W p) (hp : ∀ q ∈ g.hid, q.1 ≠ p) :
    St K g W (fun b => if b = p then none else H b) σ ρ ∧ Evo (fun b => W b ∨ b = p) H W (fun b => if b = p then none else H b) ∧ upd (fun b => if b = p then none else H b) p xs = H := by
  obtain ⟨w, nF, hl⟩ := S.hid (p, xs) List.mem_cons_self
  have ne : ∀ b, b ≠ p → (if b = p then none else H b) = H b := fun b h => if_neg h
  have e : Evo (fun b => W b ∨ b = p) H W (fun b => if b = p then none else H b) := ⟨fun b z => .inl (.inl z), fun b o n z => by
    show (if b = p then none else H b) = some o
    rw [ne b fun v => n (.inr v)]; exact z⟩
  refine ⟨⟨fun b o n z => ?_, fun b z => ?_, fun b z => S.wN b (.inl z), fun b z => ?_, S.pF, fun c z => ?_, S.len, fun j s q => ?_, S.ap, fun q hq => ?_, fun q hq j ds hj => S.hidA _ (List.mem_cons_of_mem _ hq) j ds hj, S.eb.trans e⟩, e, ?_⟩
  · show (if b = p then none else H b) = some o
    rw [ne b fun v => ?_]
    · exact S.same b o n z
    · have z2 : g.H0 p = some o := by rw [← v]; exact z
      rcases S.wN p (.inr rfl) with u | u
      · exact nF u
      · have u2 : g.H0 p = none := u
        rw [z2] at u2; cases u2
  · rcases S.wF b z with u | u
    · exact u
    · exact absurd (by rw [← u]; exact z) nF
  · obtain ⟨o, ho⟩ := S.wH b (.inl z)
    refine ⟨o, ?_⟩
    show (if b = p then none else H b) = some o
    rw [ne b fun v => nW (by rw [← v]; exact z)]; exact ho
  · refine g.P.evo (S.prs c z) e.own fun b o v q => ?_
    show (if b = p then none else H b) = some o
    rw [ne b fun u => ?_]
    · exact q
    · rcases v with v | v
      · exact v (.inr u)
      · exact nF (by rw [← u, v]; exact S.pF c z)
  · have q' : SlotOk K (g.blk ((p, xs) :: g.hid)) W (fun b => if b = p then none else H b) σ[j]? s := (S.sl j s q).evo e fun ds' c e1 e2 v nf => by
      have nc : c ≠ p := fun u => by
        subst e1; subst u
        exact S.hidA _ List.mem_cons_self j _ q e2
      exact ⟨v.resolve_right nc, ne c nc⟩
    cases s <;> exact q'
  · obtain ⟨h1, h2, h3⟩ := S.hid q (List.mem_cons_of_mem _ hq)
    refine ⟨h1.resolve_right (hp q hq), h2, ?_⟩
    show (if q.1 = p then none else H q.1) = _
    rw [ne _ (hp q hq)]; exact h3
  · funext b
    unfold upd
    by_cases v : b = p
    · rw [if_pos v, v]; exact hl.symm
    · rw [if_neg v]; exact ne b v
theorem wipeD_get (ρ : En) : ∀ (vs : List Nat) (j : Nat), (wipeD ρ vs)[j]? = if j ∈ vs ∧ j < ρ.length then some .no else ρ[j]?
  | [], j => by simp [wipeD]
  | v :: vs, j => by
    unfold wipeD
    have l : ∀ us : List Nat, (wipeD ρ us).length = ρ.length := fun us => by
      induction us with
      | nil => rfl
      | cons u us ih => unfold wipeD; rw [List.length_set, ih]
    by_cases e : v = j
    · subst e
      rw [List.getElem?_set]
      by_cases hl : v < ρ.length
      · simp [hl, l]
      · simp [hl, l]
    · rw [List.getElem?_set_ne e, wipeD_get ρ vs j]
      simp [Ne.symm e]
theorem wipeD_length (ρ : En) : ∀ vs : List Nat, (wipeD ρ vs).length = ρ.length
  | [] => rfl
  | v :: vs => by unfold wipeD; rw [List.length_set, wipeD_length ρ vs]
theorem wipeD_off {ix vs : List Nat} {ρ' : En} (o : Off ix (wipeD ρ vs) ρ') (h : ∀ i ∈ ix, i ∈ vs) : wipeD ρ' vs = wipeD ρ vs := by
  have l : ρ'.length = ρ.length := by rw [o.1, wipeD_length]
  refine List.ext_getElem? fun j => ?_
  rw [wipeD_get, wipeD_get, l]
  by_cases hj : j ∈ vs
  · by_cases hl : j < ρ.length
    · simp [hj, hl]
    · rw [if_neg fun z => hl z.2, if_neg fun z => hl z.2, List.getElem?_eq_none (by omega), List.getElem?_eq_none (by omega)]
  · have e := o.2 j fun z => hj (h j z)
    rw [wipeD_get] at e
    simp [hj] at e ⊢
    exact e
theorem St.unwipe {H2 : Hp} {vs : List Nat} (S : St K g W H σ ρ) (T : St K g W H2 (L2.wipe σ vs) (wipeD ρ vs)) (E : Evo W H W H2) (no : ∀ i ∈ vs, ∀ ds, ρ[i]? ≠ some (.own ds)) : St K g W H2 σ ρ := by
  have key : ∀ j, j ∉ vs → (L2.wipe σ vs)[j]? = σ[j]? ∧ (wipeD ρ vs)[j]? = ρ[j]? := fun j h => by
    rw [wipe_get, wipeD_get]
    simp [h]
  refine ⟨T.same, T.wF, T.wN, T.wH, T.pF, T.prs, S.len, fun j s q => ?_, S.ap, T.hid, S.hidA, T.eb⟩
  by_cases hj : j ∈ vs
  · exact (S.sl j s q).evo E fun ds a e1 _ _ _ => absurd (by rw [← e1]; exact q) (no j hj ds)
  · obtain ⟨k1, k2⟩ := key j hj
    have z := T.sl j s (by rw [k2]; exact q)
    rw [k1] at z
    exact z
end
/-- one item of a comprehension: what it gives -/
def lcB (vs : List Nat) (tt : TrG) (tc : TrT) (te : TrE) (ρ : En) : D → (Option D → Prop) → Prop := fun d k => tt d (wipeD ρ vs) fun ρ2 => tc ρ2 fun b => if b = true then te ρ2 fun y => k (some y) else k none
/-- all items -/
def lcD (body : D → (Option D → Prop) → Prop) : List D → List D → (List D → Prop) → Prop
  | [], acc, R => R acc
  | d :: ds, acc, R => body d fun o => lcD body ds (match o with | none => acc | some y => acc ++ [y]) R
def noOwn (ρ : En) (vs : List Nat) : Prop := ∀ i ∈ vs, ∀ ds, ρ[i]? ≠ some (.own ds)
def qLcL (vs : List Nat) (ti : TrI) (tt : TrG) (tc : TrT) (te : TrE) : TrL := fun ρ R => ti ρ fun ds => noOwn ρ vs ∧ ds.length ≤ sizeLine ∧ lcD (lcB vs tt tc te ρ) ds [] R
section
variable {g : Gh} {X : Cx} {elt tg iter : Expr} {ifs : List Expr} {scope : Scope} {own : List (Str × Nat)} {ix : List Nat} {pos : Pos} {Rk : RkT} {ti : TrI} {tt : TrG} {tc : TrT} {te : TrE}
abbrev rdE (K : Fg) (g : Gh) (t : TrE) : TE := fun σ H Q => ∃ W ρ R, St K g W H σ ρ ∧ t ρ R ∧ ∀ v d H', St K g W H' σ ρ → Evo W H W H' → Rep K W H' v d → R d → Q v H'
abbrev rdT (K : Fg) (g : Gh) (t : TrT) : TT := fun σ H Q => ∃ W ρ R, St K g W H σ ρ ∧ t ρ R ∧ ∀ b H', St K g W H' σ ρ → Evo W H W H' → R b → Q b H'
/-- the reading of a block's part: whatever is hidden -/
def anyE (K : Fg) (g : Gh) (t : TrE) : TE := fun σ H Q => ∃ h, rdE K (g.blk h) t σ H Q
def anyT (K : Fg) (g : Gh) (t : TrT) : TT := fun σ H Q => ∃ h, rdT K (g.blk h) t σ H Q
def anyG (Rk : RkT) (K : Fg) (g : Gh) (t : TrG) (ix : List Nat) : TG := fun v σ H Q => ∃ h, rdG Rk K (g.blk h) t ix v σ H Q
theorem lc_go {σ : L2.St} {H : Hp} {Q : VK} (hix : ∀ i ∈ ix, i ∈ own.map (·.2))
    (h : ∃ W ρ R, St X.K g W H σ ρ ∧ qLcL (own.map (·.2)) ti tt tc te ρ R ∧ ∀ p xs ds H1, St X.K g W H1 σ ρ → Evo W H W H1 → H1 p = none → Reps X.K W H1 xs ds → R ds → Q (.ref p) (upd H1 p (.lst xs))) :
    tLc (fun σ H R => ∃ W ρ P, St X.K g W H σ ρ ∧ ti ρ P ∧ ∀ J H' ds, St X.K g W H' σ ρ → Evo W H W H' → WalkD Rk X.K W H' J ds → P ds → R J H') (anyG Rk X.K g tt ix) (anyT X.K g tc) (anyE X.K g te) (own.map (·.2)) σ H Q := by
  obtain ⟨W, ρ, R, S, q, k⟩ := h
  refine ⟨W, ρ, _, S, q, fun J H1 ds S1 E1 ⟨G, Y, w, hG, hY⟩ ⟨no, hz, lc⟩ => fun D hD => ?_⟩
  have nW : ¬ W D := S1.fresh hD
  have hp : ∀ q ∈ g.hid, q.1 ≠ D := fun q hq z => by
    obtain ⟨_, _, h3⟩ := S1.hid q hq
    rw [z, hD] at h3; cases h3
  obtain ⟨S2, E2⟩ := (S1.wipe (own.map (·.2))).hide (.lst []) hD
  refine lc_it w (D := D) (Qd := fun H' => Q (.ref D) H') (g := anyG Rk X.K g tt ix) (tt := anyT X.K g tc) (te := anyE X.K g te) (fun i H' => ∃ acc ys, St X.K (g.blk ((D, .lst acc) :: g.hid)) (fun b => W b ∨ b = D) H' (L2.wipe σ (own.map (·.2))) (wipeD ρ (own.map (·.2))) ∧ Evo W H1 (fun b => W b ∨ b = D) H' ∧
    Reps X.K (fun b => W b ∨ b = D) H' acc ys ∧ ys.length ≤ i ∧ lcD (lcB (own.map (·.2)) tt tc te ρ) (ds.drop i) ys R) ⟨[], [], S2, E2, .nil, Nat.zero_le _, lc⟩
    (fun i H' _ ⟨acc, ys, _, e, _⟩ => hG _ H' e) (fun i x H' H2 hi ⟨acc, ys, S', e, r, hl, lc⟩ y => ?_) fun H' ⟨acc, ys, S', e, r, hl, lc⟩ => ?_
  · obtain ⟨sm, d, hd, rx⟩ := hY i _ H' x H2 e S'.wH y
    obtain ⟨S3, E3⟩ := S'.same_ sm
    have hdr : ds.drop i = d :: ds.drop (i + 1) := by
      obtain ⟨h1, h2⟩ := List.getElem?_eq_some_iff.mp hd
      rw [List.drop_eq_getElem_cons h1, h2]
    rw [hdr] at lc
    refine ⟨_, _, _, d, _, S3, rx, lc, fun σ3 ρ3 o3 r3 S4 lc4 => ⟨wipe_off o3 hix, _, _, _, _, S4, lc4, fun b H4 S5 E5 lc5 => ?_⟩⟩
    have w3 : L2.wipe σ3 (own.map (·.2)) = L2.wipe σ (own.map (·.2)) := wipe_off o3 hix
    have v3 : wipeD ρ3 (own.map (·.2)) = wipeD ρ (own.map (·.2)) := wipeD_off r3 hix
    have e4 : Evo W H1 (fun b => W b ∨ b = D) H4 := (e.trans E3).trans E5
    cases b with
    | false =>
      rw [if_neg Bool.false_ne_true] at lc5
      simp only [Bool.false_eq_true, if_false]
      have S6 := S5.wipe (own.map (·.2))
      rw [w3, v3] at S6
      exact ⟨acc, ys, S6, e4, (r.evo E3).evo E5, Nat.le_succ_of_le hl, lc5⟩
    | true =>
      rw [if_pos rfl] at lc5
      simp only [if_true]
      refine ⟨_, _, _, _, S5, lc5, fun y yd H5 S6 E6 ry lc6 => ⟨acc, (S6.hid (D, .lst acc) List.mem_cons_self).2.2, ?_, ?_⟩⟩
      · rw [r.length]
        omega
      · have S7 := S6.wipe (own.map (·.2))
        rw [w3, v3] at S7
        obtain ⟨S8, E8⟩ := S7.grow (ys := .lst (acc ++ [y])) hp
        exact ⟨acc ++ [y], ys ++ [yd], S8, (e4.trans E6).trans E8, ((((r.evo E3).evo E5).evo E6).append (.cons ry .nil)).evo E8, by rw [List.length_append, List.length_singleton]; omega, lc6⟩
  · rw [List.drop_length] at lc
    obtain ⟨S9, E9, hu⟩ := S'.unhide nW hp
    have eW : Evo W H1 W (fun b => if b = D then none else H' b) := e.trans E9
    have z := k D acc ys _ (S1.unwipe S9 eW no) (E1.trans eW) (if_pos rfl) (r.evo E9) lc
    rw [hu] at z
    exact z
theorem qn_lc (hc : X.calm = true) (hN : X.N.Nodup) (hi : QI Rk g X tg iter ti) (ok : BlkOk X.N X.env.scope scope own)
    (hg : ∀ (s : Shared) (H : Hp) (C : Addr) (cl : List (Str × Addr)) (fp : List Addr) (h : List (Addr × HO)), QGr Rk (g.blk h) (X.blk s H scope (compEnvC scope cl C X.env) fp) tg tt ix)
    (ht : ∀ (s : Shared) (H : Hp) (C : Addr) (cl : List (Str × Addr)) (fp : List Addr) (h : List (Addr × HO)), QTs (g.blk h) (X.blk s H scope (compEnvC scope cl C X.env) fp) ifs tc)
    (he : ∀ (s : Shared) (H : Hp) (C : Addr) (cl : List (Str × Addr)) (fp : List Addr) (h : List (Addr × HO)), QE (g.blk h) (X.blk s H scope (compEnvC scope cl C X.env) fp) elt te)
    (hix : ∀ i ∈ ix, i ∈ own.map (·.2) := by decide) (hs : ∀ x, foldedSetIterable iter X.env x = pure x := by intro _; rfl) : QN g X (.ListComp elt [⟨tg, iter, ifs, 0⟩] scope pos) (qLcL (own.map (·.2)) ti tt tc te) :=
  ⟨pe_imp (pe_lc hc hN hi.run ok (fun s H C cl fp => ⟨fun p s' σ H' v u Q I r ⟨h, q⟩ => (hg s H C cl fp h).run.run p s' σ H' v u Q I r q⟩)
    (fun s H C cl fp => ⟨fun p s' σ H' Q I ⟨h, q⟩ => (ht s H C cl fp h).run.run p s' σ H' Q I q⟩) (fun s H C cl fp => ⟨fun p s' σ H' Q I ⟨h, q⟩ => (he s H C cl fp h).run.run p s' σ H' Q I q⟩) hs) fun σ H Q h => lc_go hix h⟩
theorem QN.qe {e : Expr} {tl : TrL} (h : QN g X e tl) : QE g X e (fun ρ R => tl ρ fun ds => R (.list ds)) :=
  ⟨pe_imp h.run fun σ H Q ⟨W, ρ, R, S, q, k⟩ => ⟨W, ρ, _, S, q, fun p xs ds H1 S1 E1 hp r1 q1 => k _ _ _ (St.newT S1 hp).1 (E1.trans (St.newT S1 hp).2) (rep_newL S1.wH hp r1) q1⟩⟩
/-- x = [..] on one line -/
theorem qs_setLc (i : Nat) {y : Str} {py spos : Pos} (hc : X.calm = true) (hN : X.N.Nodup) (hsw : swapsWith (.ListComp elt [⟨tg, iter, ifs, 0⟩] scope pos) (some (.Name y py)) spos.line X.env = pure true) (hi : QI Rk g X tg iter ti) (ok : BlkOk X.N X.env.scope scope own)
    (hg : ∀ (s : Shared) (H : Hp) (C : Addr) (cl : List (Str × Addr)) (fp : List Addr) (h : List (Addr × HO)), QGr Rk (g.blk h) (X.blk s H scope (compEnvC scope cl C X.env) fp) tg tt ix)
    (ht : ∀ (s : Shared) (H : Hp) (C : Addr) (cl : List (Str × Addr)) (fp : List Addr) (h : List (Addr × HO)), QTs (g.blk h) (X.blk s H scope (compEnvC scope cl C X.env) fp) ifs tc)
    (he : ∀ (s : Shared) (H : Hp) (C : Addr) (cl : List (Str × Addr)) (fp : List Addr) (h : List (Addr × HO)), QE (g.blk h) (X.blk s H scope (compEnvC scope cl C X.env) fp) elt te)
    (hy : X.N[i]? = some y := by rfl) (hyl : X.env.scope.names.lookup y = some .local := by rfl) (hix : ∀ i ∈ ix, i ∈ own.map (·.2) := by decide) (hs : ∀ x, foldedSetIterable iter X.env x = pure x := by intro _; rfl) :
    QS g X (.Assign [.Name y py] (.ListComp elt [⟨tg, iter, ifs, 0⟩] scope pos) spos) (qAsg (fun ρ R => qLcL (own.map (·.2)) ti tt tc te ρ fun ds => R (.list ds)) (gNm i)) :=
  ⟨ps_imp (ps_setLc hc hN hy hyl hsw hi.run ok (fun s H C cl fp => ⟨fun p s' σ H' v u Q I r ⟨h, q⟩ => (hg s H C cl fp h).run.run p s' σ H' v u Q I r q⟩)
    (fun s H C cl fp => ⟨fun p s' σ H' Q I ⟨h, q⟩ => (ht s H C cl fp h).run.run p s' σ H' Q I q⟩) (fun s H C cl fp => ⟨fun p s' σ H' Q I ⟨h, q⟩ => (he s H C cl fp h).run.run p s' σ H' Q I q⟩) hs) fun Dn σ H ⟨W, ρ, B, S, q, k⟩ =>
    lc_go hix ⟨W, ρ, _, S, q, fun p xs ds H1 S1 E1 hp r1 q1 => k.nx W _ _ _ ((St.newT S1 hp).1.set i (rep_newL S1.wH hp r1)) (E1.trans (St.newT S1 hp).2) q1⟩⟩
end
end PL
end

section
set_option Elab.async false
set_option linter.all false
set_option maxRecDepth 100000
set_option maxHeartbeats 4000000
namespace PL
open PySem PySem.Spec PyProof.Rows L2
/-! ### own errors: an __init__ that keeps its one argument -/
def spIni (K : Fg) (C : Addr) (f : Str) : Sp := fun vs H Q _ => ∃ (a : Addr) (x : V), vs = [.ref a, x] ∧ OexC K C ∧ PySem.W.findIn K (.ref C) f = some none ∧ H a = some (exo a C none) ∧
  ∀ dx, H dx = none → dx ≠ a → Q .non (upd (upd H dx (exd dx [(f, x)])) a (exo a C (some dx)))
/-- what the text says of such a class, at C; its __init__ stands at fI -/
structure XCls (P : Program) (w : World) (K : Fg) (mg : Str → Option Value) (base : Heap) (x : Str) (C : Addr) (f : Str) : Prop where
  oex : OexC K C
  glo : mg x = some (.ref C)
  noF : PySem.W.findIn K (.ref C) f = some none
  ini : ∃ (fI : Addr) (fd : FuncData) (ps : List Str), PySem.W.findIn K (.ref C) "__init__" = some (some (.ref fI)) ∧ PySem.W.typeIn K (.ref fI) = some (.type "function") ∧ FnOk P w K mg base (L2.CX P w) 1 fI fd ps (spIni K C f) ∧ Binds K fd ps []
  xf : XfC K C
section
variable {g : Gh} {X : Cx} {a : Expr} {te : TrE} {x f : Str} {C : Addr} {p pos pos2 : Pos}
theorem same_exc {H1 : Hp} {b d : Addr} {o o2 o3 u : HO} (hb : H1 b = none) (hd : H1 d = none) : Same H1 (upd (del (upd (upd (upd H1 b o) d o2) b o3) b) d u) := fun c z e => by
  have n1 : c ≠ b := fun v => by rw [v, hb] at e; cases e
  have n2 : c ≠ d := fun v => by rw [v, hd] at e; cases e
  rw [upd_ne n2, del_ne n1, upd_ne n1, upd_ne n2, upd_ne n1]
  exact e
def qRaise (Ew : En → Exc → Prop) (x f : Str) (te : TrE) : TrS := fun _ ρ => te ρ fun d => Ew ρ ⟨x, f, d⟩
theorem qs_raise {Ew : En → Exc → Prop} (hE : g.Ew = Ew) (T : XCls X.prog X.w X.K X.mg X.base x C f) (hc : X.calm = true) (hr : Room 2 X.A) (hmg : g.mg = X.mg) (tk : Takes X (WXg X.K g)) (ha : QE g X a te) (hg : Gl X x)
    (hdb : (x == ("__debug__" : Str)) = false := by decide) (he : starEach [a] X.env = (false, eval a X.env) :: starEach [] X.env := by rfl) (hpl : (backTo pos (starEach [] X.env)).any (·.1) = false := by rfl) :
    QS g X (.Raise (some (.Call (.Name x p) [a] [] pos)) none pos2) (qRaise Ew x f te) := by
  obtain ⟨fI, fd, ps, iC, tI, F, hb⟩ := T.ini
  refine ⟨ps_imp (ps_raise hc tk (pmk_oex (dvs := []) (sp := spIni X.K C f) T.oex iC tI F hr hb .nil (passes_call tk fun _ _ _ _ z => z.elim) hg T.glo (pa_cons ha.run pa_nil he) hdb he hpl)) fun Dn σ H ⟨W, ρ, B, S, q, k⟩ => ?_⟩
  refine ⟨W, ρ, _, S, q, fun v d H1 S1 E1 r1 q1 => ⟨(by show 1 ≤ 1000; decide), fun b hb => ⟨b, v, rfl, T.oex, T.noF, upd_same, fun dx hdx hne => ⟨rfl, dx, [(f, v)], upd_same, ?_, ?_, ?_⟩⟩⟩⟩
  · rw [upd_ne hne, upd_same]
  · rw [upd_ne hne] at hdx
    exact hdx
  · rw [upd_ne hne] at hdx
    obtain ⟨S2, E2⟩ := S1.same_ (same_exc (o := exo b C none) (o2 := exd dx [(f, v)]) (o3 := exo b C (some dx)) (u := .xd [(f, v)]) hb hdx)
    exact ⟨W, ρ, ⟨x, f, d⟩, C, dx, v, rfl, rfl, by rw [hmg]; exact T.glo, S2, S1.fresh hdx, upd_same, r1.evo E2, by rw [hE]; exact q1⟩
end
/-- the __init__ -/
theorem ini_ok {P : Program} {w : World} {K : Fg} {mg : Str → Option Value} {base : Heap} {fI : Addr} {f : Str} {C : Addr} {name qual : Str} {params : Arguments} {q1 q2 q3 q4 : Pos} {scope : Scope} {dV kV doc pm cdv ct oc : Value} {an od : Option Addr} {osl : Array (Option Value)}
    (look : K.lookup fI = some ⟨oc, od, .func (PySem.W.fnOf name qual params [.Assign [.Attribute (.Name "self" q1) f q2] (.Name f q3) q4] scope dV kV doc pm an cdv ct), osl⟩) (code : PySem.W.codeIn K cdv qual = true) (S : FnScope ["self", f] ["self", f] scope)
    (hv1 : Vis scope "self") (hv2 : Vis scope f) (hd : (f == ("__debug__" : Str)) = false) (hcd : (f == ("__classdict__" : Str)) = false) (hsw : ∀ env : Env, swapsWith (.Name f q3) (some (.Attribute (.Name "self" q1) f q2)) q4.line env = pure false) :
    FnOk P w K mg base (L2.CX P w) 1 fI (PySem.W.fnOf name qual params [.Assign [.Attribute (.Name "self" q1) f q2] (.Name f q3) q4] scope dV kV doc pm an cdv ct) ["self", f] (spIni K C f) := by
  refine fn_of look code S (fun vs H Q E ⟨a, x, h, _⟩ => by rw [h]; rfl) fun A outer s H vs Q E hr h => ⟨_, pss_one (ps_ost (pe_var (i := 0) rfl hv1 (by decide) (by decide)) (pe_var (i := 1) rfl hv2 hd hcd) (hsw _)), ?_⟩
  obtain ⟨a, x, hvs, h1, h2, h3, h4⟩ := h
  subst hvs
  exact ⟨x, rfl, .ref a, rfl, a, C, rfl, h1, h2, .inl ⟨h3, fun dx hdx hne => h4 dx hdx hne⟩⟩
end PL
end

section
set_option Elab.async false
set_option linter.all false
set_option maxRecDepth 100000
set_option maxHeartbeats 4000000
namespace PL
open PySem PySem.Spec PyProof.Rows L2
/-! ### try with several clauses, named or not -/
abbrev Clz := Value × Option Nat × (Addr → Value → Option Addr → TS)
def endsIn (Dn : Ends) : Option Nat → Ends
  | none => Dn
  | some i => ⟨fun τ h => Dn.nx (τ.set i none) h, Dn.rt, fun τ h => Dn.bk (τ.set i none) h, fun τ h => Dn.ct (τ.set i none) h⟩
def slotIn (τ : L2.St) (a : Addr) : Option Nat → L2.St
  | none => τ
  | some i => τ.set i (some (.ref a))
def wCls (K : Fg) (out : WX) (Dn : Ends) : List Clz → WX
  | [] => out
  | (c, o, ts) :: more => fun cls d τ h => ∃ b, PySem.W.exmOne K cls c = some b ∧ (b = true → ∀ a, h a = none → ts a cls d (endsIn Dn o) (slotIn τ a o) h) ∧ (b = false → wCls K out Dn more cls d τ h)
inductive ClsOk (X : Cx) : List ExceptHandler → List Clz → Prop
  | nil : ClsOk X [] []
  | cons {x : Str} {c : Value} {o : Option (Nat × Str)} {ts : Addr → Value → Option Addr → TS} {st : Stmt} {sts : List Stmt} {p1 p2 : Pos} {hds : List ExceptHandler} {l : List Clz} (named : Names X x c) (slot : ∀ i n, o = some (i, n) → X.N[i]? = some n ∧ X.env.kindOf n = some .local)
      (suite : ∀ (a : Addr) (oe : Obj) (cls : Value) (d : Option Addr) (pn : List (Addr × Obj)), Zc cls d oe → (∃ vs, oe.data = .fields vs) → PSs (X.suite a ((a, oe) :: pn)) (st :: sts) (ts a cls d)) (more : ClsOk X hds l) :
      ClsOk X (.ExceptHandler (some (.Name x p1)) (o.map (·.2)) (st :: sts) p2 :: hds) ((c, o.map (·.1), ts) :: l)
section
variable {X : Cx} {pins pins' : List (Addr × Obj)} {τ : L2.St} {h : Hp} {s sI : Shared} {a : Addr} {B : Heap} {cls : Value} {d : Option Addr} {out : WX} {Dn : Ends}
/-- a record is no frame -/
theorem noFrame {l : List Env} {base : Heap} {hh : Heap} {o : Obj} {vs : Array Value} (ff : hh.FunFrames base l) (e : hh.get? a = some o) (dd : o.data = .fields vs) : a ∉ frs l := fun hm => by
  obtain ⟨_, o2, e2, no⟩ := ff.mem hm
  rw [e] at e2
  injection e2 with e2
  rw [← e2] at no
  exact no _ dd
/-- the exception stands on the ground, its clauses are asked in turn -/
theorem clauses_go (frame : X.env.frame = some X.env.locals) (stack : X.stack = X.env :: X.outer) (nd : X.N.Nodup) (tk : Takes X out) (J : Inv X pins τ h sI) (nb : ∀ b o, sI.heap.get? b = some o → b ∉ frs X.stack → B.get? b = some o)
    (na : h a = none) (os : s.os = sI.os) (ag : AllBare s.gens) : ∀ {hds : List ExceptHandler} {l : List Clz}, ClsOk X hds l → wCls X.K out Dn l cls d τ h →
      ∀ h3, HandSPX.FlyingZ B (X.env :: X.outer) a (Zc cls d) h3 → sI.heap.UpToSlots h3 → wpAny (model X.prog X.w) X.A (handleBy (.ref a) X.env hds) (SP X pins Dn) X.xe { s with heap := h3 } := by
  intro hds l cs
  have ok := J.ok
  induction cs with
  | nil =>
    intro want h3 fly up
    refine wpAny_handleBy_nil ?_
    obtain ⟨_, _, _, oe, vs, T, _, _, he, _, hd, h1, _⟩ := id fly
    unfold PySem.passOn
    refine wpAny_bind (wpAny_field he hd h1 ?_)
    rw [if_neg (show ¬ ((Value.ref T == Value.none) = true) from by simp)]
    have away : wpAny (model X.prog X.w) X.A (setFlight (.ref a) X.env.frame) (fun _ s4 => wpAny (model X.prog X.w) X.A (throw (.ref a) : Sem Flow) (SP X pins Dn) X.xe s4) X.xe { s with heap := h3 } := by
      rw [frame]
      exact HandSPX.setFlight_upZ fly fun h4 held up4 => wpAny_throw (tk _ _ ⟨a, B, sI, pins, τ, h, cls, d, rfl, J, nb, up.trans up4, Or.inr (Or.inr (by rw [stack]; exact held)), na, os, ag, want⟩)
    first
      | exact wpAny_bind (wpAny_pure (wpAny_bind away))
      | exact wpAny_bind away
  | @cons x c o ts st sts p1 p2 hds2 l2 named slot suite more ih =>
    intro want h3 fly up
    obtain ⟨b, said, yes, no⟩ := want
    have J3 : Inv X pins τ h { s with heap := h3 } := J.landed nb fly.1 up os ag
    obtain ⟨oe3, vs3, he3, hz3, hd3⟩ := fly.there
    have nfr : a ∉ frs (X.env :: X.outer) := noFrame fly.2.2.1 he3 hd3
    have notL : a ≠ X.env.locals := fun z => nfr (List.mem_filterMap.mpr ⟨X.env, List.mem_cons_self, by rw [frame, z]⟩)
    have notF : a ∉ X.fs := fun hm => by
      obtain ⟨e, he, q⟩ := List.mem_filterMap.mp hm
      exact nfr (List.mem_filterMap.mpr ⟨e, List.mem_cons_of_mem _ he, q⟩)
    have S3 := J3.suite he3 hd3 na notL notF
    refine wpAny_handleBy_cons (codeAny_handlers_test ?_) (by intro q; cases q)
    have typ : PySem.W.Looks (model X.prog X.w) h3 (typeOf (.ref a)) cls := fun A Q E s k q => wpAny_typeOf_ref (k _ _ he3) (by rw [hz3.1]; exact q)
    have ask := PySem.W.exm_one (M := model X.prog X.w) J3.kIn typ said
    have test : ∀ {Q : Value → Shared → Prop} {E : Value → Shared → Prop}, Q c { s with heap := h3 } → wpAny (model X.prog X.w) (X.A.mark (some (.ref a))) (eval (.Name x p1) X.env) Q E { s with heap := h3 } := fun {Q E} q => by
      obtain ⟨hg, hdbg, hm | ⟨hm, hv, hnn⟩⟩ := named
      · exact ld_glob (X := X.suite a ((a, oe3) :: (X.pn ++ pins))) S3 hg hm q hdbg
      · exact ld_blt (X := X.suite a ((a, oe3) :: (X.pn ++ pins))) S3 hg hm hv q hnn hdbg
    refine test (ask.here ?_)
    cases b with
    | false => exact ih (no rfl) h3 fly up
    | true =>
      have land : ∀ h4, HandSPX.FlyingZ B (X.env :: X.outer) a (Zc cls d) h4 → h3.UpToSlots h4 → ∃ oe4, Zc cls d oe4 ∧ (∃ vs, oe4.data = .fields vs) ∧ Inv (X.suite a ((a, oe4) :: (X.pn ++ pins))) [] τ h { s with heap := h4 } := fun h4 fly4 up4 => by
        have J4 : Inv X pins τ h { s with heap := h4 } := J.landed nb fly4.1 (up.trans up4) os ag
        obtain ⟨oe4, vs4, he4, hz4, hd4⟩ := fly4.there
        exact ⟨oe4, hz4, ⟨_, hd4⟩, J4.suite he4 hd4 na notL notF⟩
      cases o with
      | none =>
        refine codeAny_handlers_suite (HandSPX.lands_againZ fly fun h4 fly4 up4 => ?_)
        obtain ⟨oe4, hz4, hd4, S4⟩ := land h4 fly4 up4
        refine wpAny_mono ((suite a oe4 cls d (X.pn ++ pins) hz4 hd4).run [] _ τ h Dn S4 (yes rfl a na)) (fun f s6 hsp => ?_) (fun _ _ z => z.elim)
        cases f with
        | ret u =>
          obtain ⟨v6, τ6, k6, S6, r6, q6⟩ := hsp
          exact ⟨v6, τ6, k6, S6.unsuite ok, r6, q6⟩
        | next =>
          obtain ⟨τ6, k6, S6, q6⟩ := hsp
          exact ⟨τ6, k6, S6.unsuite ok, q6⟩
        | brk =>
          obtain ⟨τ6, k6, S6, q6⟩ := hsp
          exact ⟨τ6, k6, S6.unsuite ok, q6⟩
        | cont =>
          obtain ⟨τ6, k6, S6, q6⟩ := hsp
          exact ⟨τ6, k6, S6.unsuite ok, q6⟩
      | some o =>
        obtain ⟨i, n⟩ := o
        obtain ⟨hi, hln⟩ := slot i n rfl
        refine codeAny_handlers_suite_as (HandSPX.lands_againZ fly fun h4 fly4 up4 => ?_)
        obtain ⟨oe4, hz4, hd4, S4⟩ := land h4 fly4 up4
        refine store_ok (X := X.suite a ((a, oe4) :: (X.pn ++ pins))) (v := .ref a) S4 nd hi (Or.inl hln) rfl (fun s5 S5 => ?_) (Or.inr hln)
        refine wpAny_mono ((suite a oe4 cls d (X.pn ++ pins) hz4 hd4).run [] s5 _ h (endsIn Dn (some i)) S5 (yes rfl a na)) (fun f s6 hsp => ?_) (fun _ _ z => z.elim)
        have gone : ∀ {τ6 : L2.St} {k6 : Hp} {Q : Shared → Prop}, Inv (X.suite a ((a, oe4) :: (X.pn ++ pins))) [] τ6 k6 s6 → (∀ s7, Inv X pins (τ6.set i none) k6 s7 → Q s7) →
            wpAny (model X.prog X.w) X.A (do bindName X.env n .none; unbindBehindTheSuite X.env n p2) (fun _ s7 => Q s7) X.xe s6 := fun S6 hq => gone_ok (S6.unsuite ok) nd hi hln hq
        cases f with
        | ret u =>
          obtain ⟨v6, τ6, k6, S6, r6, q6⟩ := hsp
          exact gone S6 fun s7 J7 => ⟨_, _, _, J7, r6, q6⟩
        | next =>
          obtain ⟨τ6, k6, S6, q6⟩ := hsp
          exact gone S6 fun s7 J7 => ⟨_, _, J7, q6⟩
        | brk =>
          obtain ⟨τ6, k6, S6, q6⟩ := hsp
          exact gone S6 fun s7 J7 => ⟨_, _, J7, q6⟩
        | cont =>
          obtain ⟨τ6, k6, S6, q6⟩ := hsp
          exact gone S6 fun s7 J7 => ⟨_, _, J7, q6⟩
theorem ps_tryC {body : List Stmt} {h₀ : ExceptHandler} {hds : List ExceptHandler} {l : List Clz} {pos : Pos} {tb : WX → TS} (stack : X.stack = X.env :: X.outer) (frame : X.env.frame = some X.env.locals) (nd : X.N.Nodup) (tk : Takes X out)
    (walk : ∀ (W : WX) (pn : List (Addr × Obj)) (xe : Value → Shared → Prop), Takes (X.tr pn xe) W → PassesOwn (model X.prog X.w) X.A X.env xe → PSs (X.tr pn xe) body (tb W)) (cs : ClsOk X (h₀ :: hds) l) :
    PS X (.Try body (h₀ :: hds) [] [] pos) (fun Dn τ h => tb (wCls X.K out Dn l) Dn τ h) := by
  refine ⟨fun pins s τ h Dn I want => ?_⟩
  have ok := I.ok
  have fr : X.A.frames = some (X.env :: X.outer) := by rw [ok.frames, stack]
  refine wpAny_Try_except (wpAny_mono ((walk (wCls X.K out Dn l) (X.pn ++ pins) (fun e s₁ => wpAny (model X.prog X.w) X.A (noteFrame e X.env) (fun _ s₂ => wpAny (model X.prog X.w) X.A (setFlight e none) (fun _ s₃ =>
    wpAny (model X.prog X.w) X.A (handleBy e X.env (h₀ :: hds)) (SP X pins Dn) X.xe s₃) X.xe s₂) X.xe s₁) (fun u s' air => ?_) PassesOwn.looking).run [] s τ h Dn (I.toTry _) want) (fun f s1 hsp => ?_) (fun e s1 he => he))
  · obtain ⟨a, B, sI, pins', τ', h', cls, d, rfl, J', nb, up, sky, na, os, ag, w⟩ := air
    have J : Inv X pins τ' h' sI := J'.ofTry ok
    have sky' : Sky B (X.env :: X.outer) a (Zc cls d) X.env.locals s'.heap := by rw [← stack]; exact sky
    exact Sky.land Zc.steady fr frame sky' fun h3 fly up3 => clauses_go frame stack nd tk J nb na os ag cs w h3 fly (up.trans up3)
  · cases f with
    | ret u =>
      obtain ⟨v, τ', h', J', r, q⟩ := hsp
      exact ⟨v, τ', h', J'.ofTry ok, r, q⟩
    | next =>
      obtain ⟨τ', h', J', q⟩ := hsp
      exact wpAny_execs_nil ⟨τ', h', J'.ofTry ok, q⟩
    | brk =>
      obtain ⟨τ', h', J', q⟩ := hsp
      exact ⟨τ', h', J'.ofTry ok, q⟩
    | cont =>
      obtain ⟨τ', h', J', q⟩ := hsp
      exact ⟨τ', h', J'.ofTry ok, q⟩
end
end PL
end

section
set_option Elab.async false
set_option linter.all false
set_option maxRecDepth 100000
set_option maxHeartbeats 4000000
namespace PL
open PySem PySem.Spec PyProof.Rows L2
/-! ### try, by data -/
def Gh.tr (g : Gh) (W : AP) (H : Hp) (E : En → Exc → Prop) : Gh := { g with Wb := W, Hb := H, Ew := E }
def Gh.su (g : Gh) (a : Addr) (cls : Value) (d : Option Addr) : Gh := { g with sui := some (a, cls, d), Ew := E0 }
structure QCl where
  m : Str → Option Bool
  o : Option Nat
  ts : TrS
def enIn (B : EnB) : Option Nat → EnB
  | none => B
  | some i => ⟨fun ρ => B.nx (ρ.set i .no), B.rt, fun ρ => B.bk (ρ.set i .no), fun ρ => B.ct (ρ.set i .no)⟩
def exIn (ρ : En) (e : Exc) : Option Nat → En
  | none => ρ
  | some i => ρ.set i (.exc e.cls e.fld e.arg)
/-- what the clauses make of an error of the body -/
def hdE (Ew : En → Exc → Prop) (B : EnB) : List QCl → En → Exc → Prop
  | [] => Ew
  | c :: r => fun ρ e => ∃ b, c.m e.cls = some b ∧ (b = true → c.ts (enIn B c.o) (exIn ρ e c.o)) ∧ (b = false → hdE Ew B r ρ e)
section
variable {K : Fg} {g : Gh} {W : AP} {H : Hp} {σ : L2.St} {ρ : En}
theorem sl_conv {g g' : Gh} {o : Option (Option V)} {s : Sl} (h : SlotOk K g W H o s) (h1 : g'.F = g.F) (h2 : g'.pa = g.pa) (h3 : (∃ C f x, s = .exc C f x) → g'.sui = g.sui ∧ g'.mg = g.mg) : SlotOk K g' W H o s := by
  cases s with
  | exc C f x =>
    obtain ⟨a, dd, v, Ca, q1, q⟩ := h
    obtain ⟨e1, e2⟩ := h3 ⟨C, f, x, rfl⟩
    exact ⟨a, dd, v, Ca, by rw [e1]; exact q1, by rw [e2]; exact q⟩
  | own ds =>
    obtain ⟨a, xs, q1, q2, q3, q4⟩ := h
    exact ⟨a, xs, q1, q2, by rw [h1]; exact q3, q4⟩
  | prs =>
    obtain ⟨a, q1, q2⟩ := h
    exact ⟨a, by rw [h2]; exact q1, q2⟩
  | no => trivial
  | val d => exact h
theorem St.toTr (S : St K g W H σ ρ) (E : En → Exc → Prop) : St K (g.tr W H E) W H σ ρ :=
  ⟨S.same, S.wF, S.wN, S.wH, S.pF, S.prs, S.len, fun i s h => sl_conv (S.sl i s h) rfl rfl fun _ => ⟨rfl, rfl⟩, S.ap, S.hid, S.hidA, Evo.refl _ _⟩
theorem St.ofTr {W' : AP} {H' : Hp} {σ' : L2.St} {ρ' : En} {E : En → Exc → Prop} (S : St K g W H σ ρ) (T : St K (g.tr W H E) W' H' σ' ρ') : St K g W' H' σ' ρ' ∧ Evo W H W' H' :=
  ⟨⟨T.same, T.wF, T.wN, T.wH, T.pF, T.prs, T.len, fun i s h => sl_conv (T.sl i s h) rfl rfl fun _ => ⟨rfl, rfl⟩, T.ap, T.hid, T.hidA, S.eb.trans T.eb⟩, T.eb⟩
/-- no slot holds an error -/
def noExc (ρ : En) : Prop := ∀ (i : Nat) (C f : Str) (x : D), ρ[i]? ≠ some (.exc C f x)
theorem St.toSu (S : St K g W H σ ρ) (a : Addr) (cls : Value) (d : Option Addr) (n : noExc ρ) : St K (g.su a cls d) W H σ ρ :=
  ⟨S.same, S.wF, S.wN, S.wH, S.pF, S.prs, S.len, fun i s h => sl_conv (S.sl i s h) rfl rfl fun ⟨C, f, x, e⟩ => absurd (by rw [← e]; exact h) (n i C f x), S.ap, S.hid, S.hidA, S.eb⟩
theorem St.ofSu {a : Addr} {cls : Value} {d : Option Addr} (S : St K (g.su a cls d) W H σ ρ) (n : noExc ρ) : St K g W H σ ρ :=
  ⟨S.same, S.wF, S.wN, S.wH, S.pF, S.prs, S.len, fun i s h => sl_conv (S.sl i s h) rfl rfl fun ⟨C, f, x, e⟩ => absurd (by rw [← e]; exact h) (n i C f x), S.ap, S.hid, S.hidA, S.eb⟩
theorem St.setExc {a dd Ca : Addr} {v : V} {C f : Str} {x : D} (S : St K (g.su a (.ref Ca) (some dd)) W H σ ρ) (i : Nat) (hm : g.mg C = some (.ref Ca)) (nd : ¬ W dd) (hd : H dd = some (.xd [(f, v)])) (r : Rep K W H v x) :
    St K (g.su a (.ref Ca) (some dd)) W H (σ.set i (some (.ref a))) (ρ.set i (.exc C f x)) := by
  have own : ∀ (j : Nat) (ds : List D), (ρ.set i (.exc C f x))[j]? = some (.own ds) → j ≠ i ∧ ρ[j]? = some (.own ds) := fun j ds h => by
    rcases get_set_some h with ⟨_, _, z⟩ | z
    · cases z
    · exact z
  refine ⟨S.same, S.wF, S.wN, S.wH, S.pF, S.prs, by rw [List.length_set, List.length_set]; exact S.len, fun j s h => ?_, fun j j' c ds es ne h1 h2 h3 => ?_, S.hid, fun p hp j ds h => ?_, S.eb⟩
  · rcases get_set_some h with ⟨rfl, hl, z⟩ | ⟨ne, z⟩
    · subst z
      rw [S.len] at hl
      exact ⟨a, dd, v, Ca, rfl, by rw [List.getElem?_set]; simp [hl], hm, nd, hd, r⟩
    · rw [List.getElem?_set_ne (Ne.symm ne)]
      exact S.sl j s z
  · obtain ⟨n1, q1⟩ := own j ds h1
    obtain ⟨n2, q2⟩ := own j' es h2
    rw [List.getElem?_set_ne (Ne.symm n1)] at h3
    rw [List.getElem?_set_ne (Ne.symm n2)]
    exact S.ap j j' c ds es ne q1 q2 h3
  · obtain ⟨n1, q1⟩ := own j ds h
    rw [List.getElem?_set_ne (Ne.symm n1)]
    exact S.hidA p hp j ds q1
end
theorem noExc.set {ρ : En} (n : noExc ρ) (i : Nat) : noExc (ρ.set i .no) := fun j C f x h => by
  rcases get_set_some h with ⟨_, _, z⟩ | ⟨_, z⟩
  · cases z
  · exact n j C f x z
/-- the ends of a suite: its slots but the error's hold no error -/
def suB (B : EnB) : Option Nat → EnB
  | none => ⟨fun ρ => noExc ρ ∧ B.nx ρ, B.rt, fun ρ => noExc ρ ∧ B.bk ρ, fun ρ => noExc ρ ∧ B.ct ρ⟩
  | some i => ⟨fun ρ => noExc (ρ.set i .no) ∧ B.nx (ρ.set i .no), B.rt, fun ρ => noExc (ρ.set i .no) ∧ B.bk (ρ.set i .no), fun ρ => noExc (ρ.set i .no) ∧ B.ct (ρ.set i .no)⟩
def hdX (Ew : En → Exc → Prop) (B : EnB) : List QCl → En → Exc → Prop
  | [] => Ew
  | c :: r => fun ρ e => ∃ b, c.m e.cls = some b ∧ (b = true → noExc ρ ∧ c.ts (suB B c.o) (exIn ρ e c.o)) ∧ (b = false → hdX Ew B r ρ e)
inductive QClsOk (g : Gh) (X : Cx) : List ExceptHandler → List QCl → Prop
  | nil : QClsOk g X [] []
  | cons {x : Str} {c : Value} {m : Str → Option Bool} {o : Option (Nat × Str)} {ts : TrS} {st : Stmt} {sts : List Stmt} {p1 p2 : Pos} {hds : List ExceptHandler} {l : List QCl} (named : Names X x c)
      (hm : ∀ C b Ca, m C = some b → X.mg C = some (.ref Ca) → PySem.W.exmOne X.K (.ref Ca) c = some b) (slot : ∀ i n, o = some (i, n) → X.N[i]? = some n ∧ X.env.kindOf n = some .local)
      (suite : ∀ (a : Addr) (oe : Obj) (cls : Value) (d : Option Addr) (pn : List (Addr × Obj)), Zc cls d oe → (∃ vs, oe.data = .fields vs) → QSs (g.su a cls d) (X.suite a ((a, oe) :: pn)) (st :: sts) ts) (more : QClsOk g X hds l) :
      QClsOk g X (.ExceptHandler (some (.Name x p1)) (o.map (·.2)) (st :: sts) p2 :: hds) (⟨m, o.map (·.1), ts⟩ :: l)
section
variable {g : Gh} {X : Cx}
abbrev rdSu (K : Fg) (g : Gh) (t : TrS) : Addr → Value → Option Addr → TS := fun a cls d => rdS K (g.su a cls d) t
theorem clauses_conv {Ew : En → Exc → Prop} {out : WX} {W0 : AP} {H0 : Hp} {B : EnB} {Dn : Ends} (hmg : g.mg = X.mg) (k : EndsOk X.K g W0 H0 B Dn) : ∀ {hds : List ExceptHandler} {l : List QCl}, QClsOk g X hds l → (∀ cls d τ h, (∃ W ρ e Ca dd v, cls = .ref Ca ∧ d = some dd ∧ g.mg e.cls = some (.ref Ca) ∧ St X.K g W h τ ρ ∧ Evo W0 H0 W h ∧ ¬ W dd ∧ h dd = some (.xd [(e.fld, v)]) ∧ Rep X.K W h v e.arg ∧ Ew ρ e) → out cls d τ h) →
    ∃ cl : List Clz, ClsOk X hds cl ∧ ∀ cls d τ h, (∃ W ρ e Ca dd v, cls = .ref Ca ∧ d = some dd ∧ g.mg e.cls = some (.ref Ca) ∧ St X.K g W h τ ρ ∧ Evo W0 H0 W h ∧ ¬ W dd ∧ h dd = some (.xd [(e.fld, v)]) ∧ Rep X.K W h v e.arg ∧ hdX Ew B l ρ e) → wCls X.K out Dn cl cls d τ h := by
  intro hds l ok hout
  induction ok with
  | nil => exact ⟨[], .nil, hout⟩
  | @cons x c m o ts st sts p1 p2 hds l named hm slot suite more ih =>
    obtain ⟨cl, h1, h2⟩ := ih
    refine ⟨(c, o.map (·.1), rdSu X.K g ts) :: cl, .cons named slot (fun a oe cls d pn hz hf => (suite a oe cls d pn hz hf).run) h1, fun cls d τ h ⟨W, ρ, e, Ca, dd, v, e1, e2, e3, S, E, nd, hd, r, b, hb, yes, no⟩ => ?_⟩
    subst e1; subst e2
    refine ⟨b, hm _ b Ca hb (by rw [← hmg]; exact e3), fun hb a na => ?_, fun hb => h2 _ _ _ _ ⟨W, ρ, e, Ca, dd, v, rfl, rfl, e3, S, E, nd, hd, r, no hb⟩⟩
    obtain ⟨nx, q⟩ := yes hb
    have S1 := S.toSu a (.ref Ca) (some dd) nx
    have kE := k.later E
    cases o with
    | none => exact ⟨W, ρ, _, S1, q, fun W' σ' ρ' H' S' E' z => kE.nx W' σ' ρ' H' (S'.ofSu z.1) E' z.2, fun W' σ' ρ' H' S' E' z => kE.bk W' σ' ρ' H' (S'.ofSu z.1) E' z.2, fun W' σ' ρ' H' S' E' z => kE.ct W' σ' ρ' H' (S'.ofSu z.1) E' z.2, k.rt⟩
    | some o =>
      obtain ⟨i, n⟩ := o
      refine ⟨W, _, _, S1.setExc i e3 nd hd r, q, ?_⟩
      exact ⟨fun W' σ' ρ' H' S' E' z => kE.nx W' _ _ H' ((S'.setNo i).ofSu z.1) E' z.2, fun W' σ' ρ' H' S' E' z => kE.bk W' _ _ H' ((S'.setNo i).ofSu z.1) E' z.2, fun W' σ' ρ' H' S' E' z => kE.ct W' _ _ H' ((S'.setNo i).ofSu z.1) E' z.2, k.rt⟩
theorem qs_try {Ew : En → Exc → Prop} {body : List Stmt} {h₀ : ExceptHandler} {hds : List ExceptHandler} {l : List QCl} {pos : Pos} {tb : (En → Exc → Prop) → TrS} (hE : g.Ew = Ew) (hmg : g.mg = X.mg) (stack : X.stack = X.env :: X.outer) (frame : X.env.frame = some X.env.locals) (nd : X.N.Nodup) (tk : Takes X (WXg X.K g))
    (walk : ∀ (W0 : AP) (H0 : Hp) (E : En → Exc → Prop) (pn : List (Addr × Obj)) (xe : Value → Shared → Prop), Takes (X.tr pn xe) (WXg X.K (g.tr W0 H0 E)) → PassesOwn (model X.prog X.w) X.A X.env xe → QSs (g.tr W0 H0 E) (X.tr pn xe) body (tb E)) (cs : QClsOk g X (h₀ :: hds) l) :
    QS g X (.Try body (h₀ :: hds) [] [] pos) (fun B ρ => tb (hdX Ew B l) B ρ) := by
  refine ⟨⟨fun pins s σ H Dn I ⟨W, ρ, B, S, q, k⟩ => ?_⟩⟩
  obtain ⟨cl, h1, h2⟩ := clauses_conv (Ew := Ew) (out := WXg X.K g) hmg k cs fun cls d τ h ⟨W, ρ, e, Ca, dd, v, e1, e2, e3, S, _, nd, hd, r, q⟩ => ⟨W, ρ, e, Ca, dd, v, e1, e2, e3, S, nd, hd, r, by rw [hE]; exact q⟩
  refine (ps_tryC stack frame nd tk (tb := fun Wx Dn τ h => ∃ W0 H0 E, (∀ cls d τ h, WXg X.K (g.tr W0 H0 E) cls d τ h → Wx cls d τ h) ∧ rdS X.K (g.tr W0 H0 E) (tb E) Dn τ h)
    (fun Wx pn xe tk' hp => ⟨fun pins s τ h Dn I ⟨W0, H0, E, imp, q⟩ => (walk W0 H0 E pn xe (fun u s' ⟨a, B, sI, pins, τ, h, cls, d, e, J, nb, up, sky, na, os, ag, w⟩ => tk' u s' ⟨a, B, sI, pins, τ, h, cls, d, e, J, nb, up, sky, na, os, ag, imp _ _ _ _ w⟩) hp).run.run pins s τ h Dn I q⟩) h1).run pins s σ H Dn I
    ⟨W, H, hdX Ew B l, fun cls d τ h ⟨W', ρ', e, Ca, dd, v, e1, e2, e3, T, nd, hd, r, z⟩ => h2 _ _ _ _ ⟨W', ρ', e, Ca, dd, v, e1, e2, e3, (S.ofTr T).1, (S.ofTr T).2, nd, hd, r, z⟩, W, ρ, B, S.toTr _, q, ?_⟩
  exact ⟨fun W' σ' ρ' H' T E z => k.nx W' σ' ρ' H' (S.ofTr T).1 E z, fun W' σ' ρ' H' T E z => k.bk W' σ' ρ' H' (S.ofTr T).1 E z, fun W' σ' ρ' H' T E z => k.ct W' σ' ρ' H' (S.ofTr T).1 E z, k.rt⟩
/-- e.f in a suite -/
def qXf (i : Nat) (f : Str) (ok : Str → Prop) : TrE := fun ρ R => ∃ C x, ρ[i]? = some (.exc C f x) ∧ ok C ∧ R x
theorem qe_xf {a : Addr} {oe : Obj} {cls : Value} {d : Option Addr} {pn : List (Addr × Obj)} {x n : Str} {p1 pos : Pos} {okC : Str → Prop} (i : Nat) (hmg : g.mg = X.mg) (hz : Zc cls d oe) (hf : ∃ vs, oe.data = .fields vs)
    (hX : ∀ C Ca, okC C → X.mg C = some (.ref Ca) → XfC X.K Ca ∧ PySem.W.findIn X.K (.ref Ca) n = some none) (hN : X.N[i]? = some x := by rfl) (hv : Vis X.env.scope x := by first | exact Or.inl rfl | exact Or.inr (Or.inl rfl) | exact Or.inr (Or.inr rfl)) (hd : (x == ("__debug__" : Str)) = false := by decide)
    (hcd : (x == ("__classdict__" : Str)) = false := by decide) (hb : attributeBase (.Name x p1) n X.env (eval (.Name x p1) X.env) = eval (.Name x p1) X.env := by rfl) :
    QE (g.su a cls d) (X.suite a ((a, oe) :: pn)) (.Attribute (.Name x p1) n pos) (qXf i n okC) := by
  refine ⟨⟨fun pins s σ H Q I ⟨W, ρ, R, S, ⟨C, y, h1, h2, h3⟩, k⟩ => ?_⟩⟩
  obtain ⟨a', dd, v, Ca, q1, q2, q3, q4, q5, q6⟩ := S.sl i _ h1
  injection q1 with q1
  obtain ⟨rfl, rfl, rfl⟩ : a = a' ∧ cls = .ref Ca ∧ d = some dd := by
    injection q1 with z1 z2
    injection z2 with z2 z3
    exact ⟨z1, z2, z3⟩
  obtain ⟨T, no⟩ := hX C Ca h2 (by rw [← hmg]; exact q3)
  have l : List.lookup n [(n, v)] = some v := by simp [List.lookup]
  exact (pe_xf (te := tVar i) T no hz hf (pe_var (X := X.suite a ((a, oe) :: pn)) (i := i) hN hv hd hcd) hb).run pins s σ H Q I ⟨.ref a, q2, rfl, rfl, dd, _, v, rfl, q5, l, k v y H S (Evo.refl _ _) q6 h3⟩
end
end PL
end

section
set_option Elab.async false
set_option linter.all false
set_option maxRecDepth 100000
set_option maxHeartbeats 4000000
namespace PL
open PySem PySem.Spec PyProof.Rows L2
/-! ### a def by its body -/
def startD (N : List Str) (as : List Sl) : En := as ++ List.replicate (N.length - as.length) .no
abbrev fnE (R : D → Prop) : EnB := ⟨fun _ => R .none, R, fun _ => False, fun _ => False⟩
theorem args_get {K : Fg} {pa : Option Addr} {W : AP} {H : Hp} : ∀ {vs : List V} {as : List Sl}, ArgsOk K pa W H vs as → ∀ {i : Nat} {s : Sl}, as[i]? = some s → ∃ v, vs[i]? = some v ∧ ArgOk K pa W H v s
  | _, _, .nil, i, s, h => by simp at h
  | _, _, .cons a r, 0, s, h => by simp at h; subst h; exact ⟨_, rfl, a⟩
  | _, _, .cons a r, i + 1, s, h => by simpa using args_get r (i := i) (s := s) (by simpa using h)
theorem St.begin {K : Fg} {mg : Str → Option Value} {H : Hp} {F : AP} {pa : Option Addr} {Pj : Prs} {Ex : Exc → Prop} {N : List Str} {vs : List V} {as : List Sl} (h1 : ∀ b, F b → ∃ o, H b = some o) (h2 : ∀ a, pa = some a → F a) (h3 : ∀ a, pa = some a → Pj.ok K F H a)
    (ha : ArgsOk K pa F H vs as) : St K ⟨mg, H, F, pa, Pj, fun _ => Ex, none, [], F, H⟩ F H (L2.start N vs) (startD N as) := by
  have l := ha.length
  have sl : ∀ (i : Nat) (s : Sl), (startD N as)[i]? = some s → s = .no ∨ ∃ v, (L2.start N vs)[i]? = some (some v) ∧ ArgOk K pa F H v s := fun i s h => by
    unfold startD at h
    by_cases hi : i < as.length
    · rw [List.getElem?_append_left hi] at h
      obtain ⟨v, q1, q2⟩ := args_get ha h
      refine .inr ⟨v, ?_, q2⟩
      unfold L2.start
      rw [List.getElem?_append_left (by rw [List.length_map]; omega), List.getElem?_map, q1]
      rfl
    · rw [List.getElem?_append_right (by omega), List.getElem?_replicate] at h
      split at h
      · exact .inl (Option.some.inj h).symm
      · cases h
  refine ⟨fun b o _ h => h, fun b h => h, fun b h => .inl h, h1, h2, h3, ?_, fun i s h => ?_, fun i j a ds es _ q _ _ => ?_, fun p hp => (nomatch hp), fun p hp => (nomatch hp), Evo.refl _ _⟩
  · unfold startD L2.start
    rw [List.length_append, List.length_append, List.length_map, List.length_replicate, List.length_replicate, l]
  · rcases sl i s h with rfl | ⟨v, q1, q2⟩
    · trivial
    · cases s with
      | val d => exact ⟨v, q1, q2⟩
      | prs =>
        obtain ⟨a, z1, rfl⟩ := q2
        exact ⟨a, z1, q1⟩
      | _ => exact q2.elim
  · rcases sl i _ q with z | ⟨v, q1, q2⟩
    · cases z
    · exact q2.elim
theorem fnC_of {c : Option Addr → Prop} {P : Program} {w : World} {K : Fg} {mg : Str → Option Value} {base : Heap} {Pj : Prs} {k : Nat} {f : Addr} {fd : FuncData} {x qual : Str} {params : Arguments} {body : List Stmt} {scope : Scope} {N ps : List Str} {Φ : FS}
    (F : FunD K x qual params body scope [] [] f fd) (S : FnScope N ps scope)
    (walk : ∀ (cdv : Value) (A : Around) (outer : List Env) (s : Shared) (H : Hp) (E : XK) (g : Gh) (Ex : Exc → Prop), Room k (A.deeper (envOfC qual scope s.heap.objs.size f cdv)) → A.guards = some [] → g.mg = mg → g.P = Pj → g.Ew = (fun _ => Ex) → c g.pa →
      Takes (cxG P w K mg base N qual scope f cdv A outer s H E) (WXg K g) →
      ∃ ts, QSs g (cxG P w K mg base N qual scope f cdv A outer s H E) body ts ∧ ∀ as R, as.length = ps.length → Φ as R Ex → ts (fnE R) (startD N as)) :
    FnC c P w K mg base Pj (k + 1) f fd ps Φ := by
  obtain ⟨oc, od, dV, kV, doc, pm, an, cdv, ct, osl, rfl, lk, hcd, _, _⟩ := F.ex
  refine fnG_of lk hcd S (fun vs H Q E ⟨_, _, as, _, _, _, h, _, _, _, ha, _⟩ => ha.length.trans h) fun A outer s H vs Q E hr hg ⟨Fo, pa, as, R, Ex, hc, hn, h1, h2, h3, ha, hΦ, hres, hexc⟩ => ?_
  have tk : Takes (cxG P w K mg base N qual scope f cdv A outer s H E) (WXg K ⟨mg, H, Fo, pa, Pj, fun _ => Ex, none, [], Fo, H⟩) := by
    have t0 := takes_of (X := cxG P w K mg base N qual scope f cdv A outer s H E) (E := E) rfl rfl rfl rfl
    intro u s' ⟨a, B, sI, pins, τ, h, cls, d, e, J, nb, up, sky, na, os, ag, ⟨W, ρ, ex, Ca, dd, v, e1, e2, e3, S', nd, hd, r, z⟩⟩
    refine t0 u s' ⟨a, B, sI, pins, τ, h, cls, d, e, J, nb, up, sky, na, os, ag, ?_⟩
    subst e1; subst e2
    exact hexc ex Ca dd v h S'.aftEnd e3 (fun q => nd (S'.wF dd q)) hd (r.evo S'.dropW) z
  obtain ⟨ts, hq, hs⟩ := walk cdv A outer s H E ⟨mg, H, Fo, pa, Pj, fun _ => Ex, none, [], Fo, H⟩ Ex hr hg rfl rfl rfl hc tk
  refine ⟨_, hq.run, Fo, startD N as, fnE R, St.begin h1 h2 h3 ha, hs as R hn hΦ, fun W' σ' ρ' H' S' _ q => ?_, fun _ _ _ _ _ _ q => q.elim, fun _ _ _ _ _ _ q => q.elim, fun v d H' a r f q => hres v d H' a r f q⟩
  exact hres .non .none H' S'.aftEnd .non (freshD_of trivial) q

theorem fnD_of {P : Program} {w : World} {K : Fg} {mg : Str → Option Value} {base : Heap} {Pj : Prs} {k : Nat} {f : Addr} {fd : FuncData} {x qual : Str} {params : Arguments} {body : List Stmt} {scope : Scope} {N ps : List Str} {Φ : FS}
    (F : FunD K x qual params body scope [] [] f fd) (S : FnScope N ps scope)
    (walk : ∀ (cdv : Value) (A : Around) (outer : List Env) (s : Shared) (H : Hp) (E : XK) (g : Gh) (Ex : Exc → Prop), Room k (A.deeper (envOfC qual scope s.heap.objs.size f cdv)) → A.guards = some [] → g.mg = mg → g.P = Pj → g.Ew = (fun _ => Ex) →
      Takes (cxG P w K mg base N qual scope f cdv A outer s H E) (WXg K g) →
      ∃ ts, QSs g (cxG P w K mg base N qual scope f cdv A outer s H E) body ts ∧ ∀ as R, as.length = ps.length → Φ as R Ex → ts (fnE R) (startD N as)) :
    FnD P w K mg base Pj (k + 1) f fd ps Φ := fnC_of F S fun cdv A outer s H E g Ex h1 h2 h3 h4 h5 _ h6 => walk cdv A outer s H E g Ex h1 h2 h3 h4 h5 h6

/-! ### the law's call -/
theorem law_callG {P : Program} {w : World} {K : Fg} {mg mb : Str → Option Value} {Pj : Prs} {k : Nat} {fa a : Addr} {fd : FuncData} {x : Str} {Φ : FS} {s₁ : Shared} {vs : List Value} {ns : List Int}
    (inK : K.In s₁.heap) (globals : s₁.heap.Ns mainGlobals mg) (blt : s₁.heap.Ns builtinsNs mb) (bltIs : ∀ y : Str, y ≠ "__name__" → mb y = bootBuiltins y) (nolim : s₁.heap.NoLimit) (nogen : s₁.gens = #[])
    (obj : s₁.heap.get? a = some { cls := .type "list", data := .seq vs.toArray }) (areInts : IntsAre vs ns) (len : ns.length ≤ sizeLine) (hr : Room k callerA)
    (F : ∀ base : Heap, K.In base → base.Ns mainGlobals mg → FnC (fun pa => pa = none) P w K mg base Pj k fa fd [x] Φ) (bind : ∀ (s : Shared) (u : Value), BindsTo s fd ⟨[u], []⟩ [(x, u)])
    (hΦ : ∀ R : D → Prop, R (.bool true) → Φ [.val (.list (ns.map .int))] R (fun _ => False)) :
    codeAny (model P w) callerA (.call (.ref fa) ⟨[.ref a], []⟩) (fun r s' => r = .ok (.ret (.bool true)) ∧ OldK s₁.heap s'.heap ∧ s'.os = s₁.os ∧ AllBare s'.gens) s₁ := by
  have rv := vals_ints areInts
  have lv := areInts.length
  have reps : ∀ (H : Hp), Reps K (fun _ => False) H (ns.map V.int) (ns.map PyData.int) := fun H => by
    clear areInts rv lv len hΦ
    induction ns with
    | nil => exact .nil
    | cons n r ih => exact .cons (.int n) ih
  have core : ∀ H : Hp, Only H → WL K (fun _ => False) H a (ns.map V.int) → HOk P w H s₁.heap → (∀ b, H b ≠ none → b = a) → (H a ≠ none → K.lookup a = none) →
      codeAny (model P w) callerA (.call (.ref fa) ⟨[.ref a], []⟩) (fun r s' => r = .ok (.ret (.bool true)) ∧ OldK s₁.heap s'.heap ∧ s'.os = s₁.os ∧ AllBare s'.gens) s₁ := by
    intro H only wl hok isA notK
    have inB : ∀ {b : Addr} {o : Obj}, s₁.heap.get? b = some o → H b = none → (hidT s₁.heap H).get? b = some o := fun e n => hidT_get e n
    have noDict : ∀ {b : Addr} {o : Obj} {es : Array DictEntry} {ep : Nat}, s₁.heap.get? b = some o → o.data = .dict es ep → H b = none := fun {b o es ep} e d => by
      cases q : H b with
      | none => rfl
      | some u =>
        obtain rfl : b = a := isA b (by rw [q]; simp)
        rw [obj] at e
        cases e
        have d' : Data.seq vs.toArray _ = Data.dict es ep := d
        cases d'
    have ns_ : ∀ {b : Addr} {m : Str → Option Value}, s₁.heap.Ns b m → (hidT s₁.heap H).Ns b m := fun {b m} ⟨o, es, ep, e, d, r⟩ => ⟨o, es, ep, inB e (noDict e d), d, r⟩
    have kb : K.In (hidT s₁.heap H) := fun b o e => inB (inK b o e) (by
      cases q : H b with
      | none => rfl
      | some u =>
        obtain rfl : b = a := isA b (by rw [q]; simp)
        rw [notK (by rw [q]; simp)] at e
        cases e)
    have mod : Mod K mg (hidT s₁.heap H) := ⟨kb, ns_ globals, ⟨mb, ns_ blt, bltIs⟩, let ⟨mc, h1, h2⟩ := nolim; ⟨mc, ns_ h1, h2⟩⟩
    have e0 : Env0 P w K mg (hidT s₁.heap H) callerA [] s₁ H := ⟨rfl, mod, fun b o e => of_hidT e, Nat.le_of_eq (hidT_size _ _), trivial, fun b hb => absurd (show b ∈ ([] : List Addr) from hb) (by simp), hok, .of_eq nogen⟩
    refine codeAny_mono ((F _ kb (ns_ globals)).run callerA [] s₁ H ⟨[.ref a], []⟩ [.ref a] [.ref a] (fun v _ => v = .bl true) (fun _ _ _ => False) hr rfl e0 (bind s₁ (.ref a)) (.cons rfl .nil)
      ⟨fun _ => False, none, [.val (.list (ns.map .int))], fun d => d = .bool true, fun _ => False, rfl, rfl, fun _ z => z.elim, fun _ z => (nomatch z), fun _ z => (nomatch z), .cons (s := .val (.list (ns.map .int))) (.lst wl (reps H)) .nil, hΦ _ rfl, fun v d H' _ r _ e => ?_, fun _ _ _ _ _ _ _ _ _ _ z => z⟩) fun r s' h => ?_
    · subst e
      cases r
      rfl
    · cases r with
      | error e =>
        obtain ⟨_, _, _, _, _, _, _, _, _, _, _, _, z⟩ := h
        exact z.elim
      | ok fl =>
        cases fl with
        | next => exact False.elim h
        | brk => exact False.elim h
        | cont => exact False.elim h
        | ret u =>
          obtain ⟨v, H', os, bare, un, hok', r', q⟩ := h
          obtain rfl : v = .bl true := q
          obtain rfl : u = Value.bool true := r'
          refine ⟨rfl, OldK.of_keep fun b o e => ?_, os, bare⟩
          cases q : H b with
          | none => exact un.keep b o e q (by intro z; exact absurd (show b ∈ ([] : List Addr) from z) (by simp)) (by simp)
          | some u =>
            rcases only b with z | ⟨ob, xs, z⟩
            · rw [q] at z; cases z
            · obtain ⟨e1, _⟩ := hok b _ z
              obtain ⟨e2, _⟩ := hok' b _ (un.frzs b ob _ z)
              rw [e] at e1
              cases e1
              exact e2
  cases hk : K.lookup a with
  | some o =>
    have e := inK a o hk
    rw [obj] at e
    cases e
    exact core (fun _ => none) (fun _ => .inl rfl) (.inr ⟨vs, _, hk, by rw [← lv] at len; omega, rv⟩) (fun b u z => by have z' : (none : Option HO) = some u := z; cases z') (fun b z => absurd rfl z) fun z => absurd rfl z
  | none =>
    refine core (fun b => if b = a then some (.frz { cls := .type "list", data := .seq vs.toArray } (.lst (ns.map V.int))) else none) (fun b => ?_) (.inl ⟨fun z => z, .inr ⟨{ cls := .type "list", data := .seq vs.toArray }, if_pos rfl⟩⟩) (fun b u z => ?_) (fun b z => ?_) fun _ => hk
    · by_cases hb : b = a
      · exact .inr ⟨_, _, if_pos hb⟩
      · exact .inl (if_neg hb)
    · by_cases hb : b = a
      · subst hb
        have z' : (if b = b then some (HO.frz { cls := .type "list", data := .seq vs.toArray } (.lst (ns.map V.int))) else none) = some u := z
        rw [if_pos rfl] at z'
        cases z'
        exact ⟨obj, by rw [List.length_map]; exact len, vs, 0, rv, obj⟩
      · have z' : (if b = a then some (HO.frz { cls := .type "list", data := .seq vs.toArray } (.lst (ns.map V.int))) else none) = some u := z
        rw [if_neg hb] at z'
        cases z'
    · by_cases hb : b = a
      · exact hb
      · exact absurd (if_neg hb) z
theorem walkG_of {l : PySem.W.OpenLaw} {n k : Nat} {q : Program} {loose : List Str} {XP : (Str → Option Value) → Heap → Prop} {YP : World → Heap → Prop} {d : DefRec} {x : Str}
    (hn : l.most = some n) (hn2 : n ≤ sizeLine) (hdf : d.params.defaults = []) (hr : Room k callerA)
    (F : ∀ (w : World) (mg : Str → Option Value) (fa : Addr) (h : Heap), YP w h → h.Ns mainGlobals mg → mg d.name = some (.ref fa) →
      ∃ (K : Fg) (fd : FuncData) (Pj : Prs) (Φ : FS), K.In h ∧ (∀ (s : Shared) (u : Value), BindsTo s fd ⟨[u], []⟩ [(x, u)]) ∧
        (∀ (ns : List Int) (R : D → Prop), ns.length ≤ n → R (.bool true) → Φ [.val (.list (ns.map .int))] R (fun _ => False)) ∧
        ∀ base : Heap, K.In base → base.Ns mainGlobals mg → FnC (fun pa => pa = none) l.prog w K mg base Pj k fa fd [x] Φ) :
    PySem.W.WalkO q loose XP YP l.row.toRowW d [] (fun f vs => PySem.call f vs) :=
  Att.attach_call hn hdf fun w s₀ s₁ mg mb fa o pm cd doc a vs ns G Y ho hd hcd hmg hobj hints hlen hg => by
    obtain ⟨K, fd, Pj, Φ, inK, bind, hΦ, hF⟩ := F w mg fa _ Y G.T.g hmg
    exact law_callG inK G.T.g G.T.b G.T.builtins G.T.nolimit hg hobj hints (Nat.le_trans hlen hn2) hr hF bind fun R hR => hΦ ns R hlen hR
end PL
end

section
set_option Elab.async false
set_option linter.all false
set_option maxRecDepth 100000
set_option maxHeartbeats 4000000
namespace PL
open PySem PySem.Spec PyProof.Rows L2
section
variable {g : Gh} {X : Cx} {e ie value : Expr} {es : List Expr} {te ti : TrE} {t : TrGs} {pos p1 p2 : Pos} {ix : List Nat}
/-- a, b = a list -/
def gLs (n : Nat) (t : TrGs) : TrG := fun d ρ P => ∃ ds, d = .list ds ∧ ds.length = n ∧ t ds ρ P
theorem qg_lst {kk : Nat} {n : Nat} (hc : X.calm = true) (h : QGs g X es t ix) (hn : (assignEach es X.env).length = n := by rfl) (hst : (assignEach es X.env).findIdx? (·.1) = none := by rfl) : QG g X (.Tuple es kk pos) (gLs n t) ix :=
  ⟨pg_imp (pg_lst hc h.run hn hst) fun v σ H Q ⟨W, ρ, d, P, S, r, ⟨ds, e, hl, q⟩, k⟩ => by
    subst e
    cases r with
    | lst h1 h2 => exact ⟨_, _, rfl, h1.sq, h2.length.trans hl, W, ρ, ds, P, S, h2, q, k⟩⟩
/-- x[i] = e, x an own list -/
def qSetIx (i : Nat) (te ti : TrE) : TrS := fun B ρ => ∃ ds, ρ[i]? = some (.own ds) ∧ te ρ fun d => ti ρ fun iv => ∃ k j, iv = .int k ∧ ixN ds.length k = some j ∧ B.nx (ρ.set i (.own (ds.set j d)))
theorem qs_setIx (i : Nat) {x : Str} (he : QE g X value te) (hi : QE g X ie ti) (hN : X.N[i]? = some x := by rfl) (hv : Vis X.env.scope x := by first | exact Or.inl rfl | exact Or.inr (Or.inl rfl) | exact Or.inr (Or.inr rfl)) (hd : (x == ("__debug__" : Str)) = false := by decide)
    (hcd : (x == ("__classdict__" : Str)) = false := by decide)
    (ha : ∀ v, assign (.Subscript (.Name x p1) ie p2) X.env v = (do
      let ov ← holding [v] (eval (.Name x p1) X.env)
      let iv ← holding [v, ov] (eval ie X.env)
      standAt p2
      holding [v, ov, iv] (setItem ov iv v)
      release [v, ov, iv] []) := by intro _; rfl) (hs : swapsWithSole [.Subscript (.Name x p1) ie p2] value pos.line X.env = pure false := by rfl) (hw : swappedStores [.Subscript (.Name x p1) ie p2] value X.env = pure none := by rfl)
    (h1 : (assignEach [.Subscript (.Name x p1) ie p2] X.env).map (·.2) = [assign (.Subscript (.Name x p1) ie p2) X.env] := by rfl) :
    QS g X (.Assign [.Subscript (.Name x p1) ie p2] value pos) (qSetIx i te ti) :=
  ⟨ps_imp (ps_asg he.run (pg_sub (pe_var (i := i) hN hv hd hcd) hi.run set_list ha) hs hw h1) fun Dn σ H ⟨W, ρ, B, S, ⟨ds, hds, q⟩, k⟩ => ⟨W, ρ, _, S, q, fun v d H1 S1 E1 r1 q1 => by
    obtain ⟨a, xs, w1, w2, w3, w4⟩ := ty_own S1 hds
    refine ⟨.ref a, w1, W, ρ, _, S1, q1, fun u iv H2 S2 E2 r2 ⟨n, j, h2, h3, h4⟩ => ?_⟩
    subst h2
    cases r2
    obtain ⟨a', ys, z1, z2, z3, z4⟩ := ty_own S2 hds
    rw [w1] at z1
    cases z1
    obtain ⟨S3, E3⟩ := S2.mutOwn i hds w1 (z3.set (r1.evo E2) j)
    exact ⟨a, ys, n, j, rfl, rfl, z2, by rw [z3.length]; exact h3, k.nx W σ _ _ S3 ((E1.trans E2).trans E3) h4⟩⟩⟩
end
/-! ### the law's press: a dict of an int and a list of two ints -/
abbrev kOwn : Key := .inr "own"
abbrev kWh : Key := .inr "wheels"
def pressOk (K : Fg) (W : AP) (H : Hp) (a : Addr) : Prop := ∃ (n : Int) (v : V) (i j : Int), H a = some (.dK [(kOwn, .int n), (kWh, v)]) ∧ 0 ≤ n ∧ Rep K W H v (.list [.int i, .int j])
def PJ : Prs where
  ok := pressOk
  evo := fun {K W W' H H' a} ⟨n, v, i, j, h1, h2, h3⟩ hW hH => ⟨n, v, i, j, hH _ _ (.inr rfl) h1, h2, h3.evo ⟨hW, fun b o nb hb => hH b o (.inl nb) hb⟩⟩
  there := fun ⟨n, v, i, j, h1, _⟩ => ⟨_, h1⟩
section
variable {g : Gh} {X : Cx} {e : Expr} {te : TrE} {pos p1 p2 p3 : Pos} {x : Str}
theorem prs_at {K : Fg} {W : AP} {H : Hp} {σ : L2.St} {ρ : En} {i : Nat} (hP : g.P = PJ) (S : St K g W H σ ρ) (h : ρ[i]? = some .prs) : ∃ a, g.pa = some a ∧ σ[i]? = some (some (.ref a)) ∧ pressOk K W H a := by
  obtain ⟨a, h1, h2⟩ := S.sl i _ h
  have q := S.prs a h1
  rw [hP] at q
  exact ⟨a, h1, h2, q⟩
theorem noSl_str {s : Str} {j} : NoSl (.Constant (.str s) j p2) := fun _ _ => rfl
theorem val_own (n : Int) (v : V) : valV [(kOwn, V.int n), (kWh, v)] kOwn = some (.int n) := rfl
theorem val_wh (n : Int) (v : V) : valV [(kOwn, V.int n), (kWh, v)] kWh = some v := rfl
theorem put_own (n m : Int) (v : V) : putK [(kOwn, V.int n), (kWh, v)] kOwn (.int m) = [(kOwn, .int m), (kWh, v)] := rfl
theorem put_wh (n : Int) (v u : V) : putK [(kOwn, V.int n), (kWh, v)] kWh u = [(kOwn, .int n), (kWh, u)] := rfl
/-- press['own'] -/
def qPOwn (i : Nat) : TrE := fun ρ R => ρ[i]? = some .prs ∧ ∀ n : Int, 0 ≤ n → R (.int n)
theorem qe_pown (i : Nat) {j} (hP : g.P = PJ) (hu : Un X) (hN : X.N[i]? = some x := by rfl) (hv : Vis X.env.scope x := by first | exact Or.inl rfl | exact Or.inr (Or.inl rfl) | exact Or.inr (Or.inr rfl)) (hd : (x == ("__debug__" : Str)) = false := by decide)
    (hcd : (x == ("__classdict__" : Str)) = false := by decide) : QE g X (.Subscript (.Name x p1) (.Constant (.str "own") j p2) pos) (qPOwn i) := by
  unfold Un at hu
  exact ⟨pe_imp (pe_dget (by omega) (pe_var (i := i) hN hv hd hcd) pe_str noSl_str) fun σ H Q ⟨W, ρ, R, S, ⟨q1, q2⟩, k⟩ => by
    obtain ⟨a, h1, h2, n, v, i, j, h3, h4, h5⟩ := prs_at hP S q1
    exact ⟨.ref a, h2, a, .int n, rfl, .inl ⟨_, kOwn, .inl h3, rfl, (val_own n v).symm⟩, k _ _ H S (Evo.refl _ _) (.int n) (q2 n h4)⟩⟩
/-- press['wheels'] -/
def qPWh (i : Nat) : TrE := fun ρ R => ρ[i]? = some .prs ∧ ∀ a b : Int, R (.list [.int a, .int b])
theorem qe_pwh (i : Nat) {j} (hP : g.P = PJ) (hu : Un X) (hN : X.N[i]? = some x := by rfl) (hv : Vis X.env.scope x := by first | exact Or.inl rfl | exact Or.inr (Or.inl rfl) | exact Or.inr (Or.inr rfl)) (hd : (x == ("__debug__" : Str)) = false := by decide)
    (hcd : (x == ("__classdict__" : Str)) = false := by decide) : QE g X (.Subscript (.Name x p1) (.Constant (.str "wheels") j p2) pos) (qPWh i) := by
  unfold Un at hu
  exact ⟨pe_imp (pe_dget (by omega) (pe_var (i := i) hN hv hd hcd) pe_str noSl_str) fun σ H Q ⟨W, ρ, R, S, ⟨q1, q2⟩, k⟩ => by
    obtain ⟨a, h1, h2, n, v, i, j, h3, h4, h5⟩ := prs_at hP S q1
    exact ⟨.ref a, h2, a, v, rfl, .inl ⟨_, kWh, .inl h3, rfl, (val_wh n v).symm⟩, k _ _ H S (Evo.refl _ _) h5 (q2 i j)⟩⟩
theorem St.press {K : Fg} {W : AP} {H : Hp} {σ : L2.St} {ρ : En} {a : Addr} {n : Int} {v : V} {i j : Int} (hP : g.P = PJ) (S : St K g W H σ ρ) (ha : g.pa = some a) (hn : 0 ≤ n) (r : Rep K W H v (.list [.int i, .int j])) :
    St K g W (upd H a (.dK [(kOwn, .int n), (kWh, v)])) σ ρ ∧ Evo W H W (upd H a (.dK [(kOwn, .int n), (kWh, v)])) := by
  have w : W a := S.wF a (S.pF a ha)
  have e : Evo W H W (upd H a (.dK [(kOwn, .int n), (kWh, v)])) := ⟨fun b z => .inl z, fun b o nb hb => by rw [upd_ne (fun z => nb (by rw [z]; exact w))]; exact hb⟩
  refine S.keep (fun b o h1 h2 => by rw [upd_ne (fun z => h1 (by rw [z]; exact ha))]; exact h2) fun c hc => ?_
  rw [ha] at hc
  cases hc
  rw [hP]
  exact ⟨n, v, i, j, upd_same, hn, r.evo e⟩
/-- press['own'] = e -/
def qSetOwn (i : Nat) (te : TrE) : TrS := fun B ρ => te ρ fun d => ρ[i]? = some .prs ∧ ∃ n : Int, d = .int n ∧ 0 ≤ n ∧ B.nx ρ
theorem qs_pown (i : Nat) {j} (hP : g.P = PJ) (hu : Un X) (he : QE g X e te) (hs : swapsWith e (some (.Subscript (.Name x p1) (.Constant (.str "own") j p2) p3)) pos.line X.env = pure false := by rfl) (hN : X.N[i]? = some x := by rfl)
    (hv : Vis X.env.scope x := by first | exact Or.inl rfl | exact Or.inr (Or.inl rfl) | exact Or.inr (Or.inr rfl)) (hd : (x == ("__debug__" : Str)) = false := by decide) (hcd : (x == ("__classdict__" : Str)) = false := by decide) :
    QS g X (.Assign [.Subscript (.Name x p1) (.Constant (.str "own") j p2) p3] e pos) (qSetOwn i te) := by
  unfold Un at hu
  exact ⟨ps_imp (ps_dput (by omega) (pe_var (i := i) hN hv hd hcd) pe_str he.run hs) fun Dn σ H ⟨W, ρ, B, S, q, k⟩ => ⟨W, ρ, _, S, q, fun v d H1 S1 E1 r1 ⟨q1, m, hm, q2, q3⟩ => by
    subst hm
    cases r1
    obtain ⟨a, h1, h2, n, v, i, j, h3, h4, h5⟩ := prs_at hP S1 q1
    obtain ⟨S2, E2⟩ := St.press hP S1 h1 q2 h5
    refine ⟨.ref a, h2, a, _, rfl, .inl ⟨_, kOwn, h3, rfl, by show 2 < sizeLine; decide, rfl⟩, ?_⟩
    rw [put_own]
    exact k.nx W σ ρ _ S2 (E1.trans E2) q3⟩⟩
/-- press['wheels'] = e -/
def qSetWh (i : Nat) (te : TrE) : TrS := fun B ρ => te ρ fun d => ρ[i]? = some .prs ∧ ∃ a b : Int, d = .list [.int a, .int b] ∧ B.nx ρ
theorem qs_pwh (i : Nat) {j} (hP : g.P = PJ) (hu : Un X) (he : QE g X e te) (hs : swapsWith e (some (.Subscript (.Name x p1) (.Constant (.str "wheels") j p2) p3)) pos.line X.env = pure false := by rfl) (hN : X.N[i]? = some x := by rfl)
    (hv : Vis X.env.scope x := by first | exact Or.inl rfl | exact Or.inr (Or.inl rfl) | exact Or.inr (Or.inr rfl)) (hd : (x == ("__debug__" : Str)) = false := by decide) (hcd : (x == ("__classdict__" : Str)) = false := by decide) :
    QS g X (.Assign [.Subscript (.Name x p1) (.Constant (.str "wheels") j p2) p3] e pos) (qSetWh i te) := by
  unfold Un at hu
  exact ⟨ps_imp (ps_dput (by omega) (pe_var (i := i) hN hv hd hcd) pe_str he.run hs) fun Dn σ H ⟨W, ρ, B, S, q, k⟩ => ⟨W, ρ, _, S, q, fun u d H1 S1 E1 r1 ⟨q1, c, c', hm, q3⟩ => by
    subst hm
    obtain ⟨a, h1, h2, n, v, i, j, h3, h4, h5⟩ := prs_at hP S1 q1
    obtain ⟨S2, E2⟩ := St.press hP S1 h1 h4 r1
    refine ⟨.ref a, h2, a, _, rfl, .inl ⟨_, kWh, h3, rfl, by show 2 < sizeLine; decide, rfl⟩, ?_⟩
    rw [put_wh]
    exact k.nx W σ ρ _ S2 (E1.trans E2) q3⟩⟩
end
section
variable {K : Fg} {g : Gh} {W : AP} {H : Hp} {σ : L2.St} {ρ : En}
/-- what was hidden is let go and may be met -/
theorem St.release {p : Addr} {u : HO} (S : St K (g.blk ((p, u) :: g.hid)) (fun b => W b ∨ b = p) H σ ρ) (nW : ¬ W p) (hp : ∀ q ∈ g.hid, q.1 ≠ p) : St K g W H σ ρ ∧ Evo (fun b => W b ∨ b = p) H W H := by
  obtain ⟨w, nF, hl⟩ := S.hid (p, u) List.mem_cons_self
  have e : Evo (fun b => W b ∨ b = p) H W H := ⟨fun b z => .inl (.inl z), fun b o n z => z⟩
  refine ⟨⟨S.same, fun b z => ?_, fun b z => S.wN b (.inl z), fun b z => S.wH b (.inl z), S.pF, fun c z => g.P.evo (S.prs c z) e.own fun b o _ q => q, S.len, fun j s q => ?_, S.ap, fun q hq => ?_, fun q hq j ds hj => S.hidA _ (List.mem_cons_of_mem _ hq) j ds hj, S.eb.trans e⟩, e⟩
  · rcases S.wF b z with v | v
    · exact v
    · exact absurd (by rw [← v]; exact z) nF
  · have q' : SlotOk K (g.blk ((p, u) :: g.hid)) W H σ[j]? s := (S.sl j s q).evo e fun ds' c e1 e2 v nf => by
      have nc : c ≠ p := fun u => by
        subst e1; subst u
        exact S.hidA _ List.mem_cons_self j _ q e2
      exact ⟨v.resolve_right nc, rfl⟩
    cases s <;> exact q'
  · obtain ⟨h1, h2, h3⟩ := S.hid q (List.mem_cons_of_mem _ hq)
    exact ⟨h1.resolve_right (hp q hq), h2, h3⟩
end
/-! ### dict displays with texts as keys: new dicts -/
/-- a value that is a new dict -/
structure QF (g : Gh) (X : Cx) (e : Expr) (t : TrE) : Prop where
  run : PE X e (fun σ H Q => ∃ W ρ R, St X.K g W H σ ρ ∧ t ρ R ∧ ∀ p d Hc H', St X.K g W Hc σ ρ → Evo W H W Hc → Hc p = none → St X.K g W H' σ ρ → Evo W Hc W H' → Rep X.K W H' (.ref p) d → R d → Q (.ref p) H')
abbrev TrP := En → (List (Str × D) → Prop) → Prop
inductive RepsP (K : Fg) (W : AP) (H : Hp) : List (V × V) → List (Str × D) → Prop
  | nil : RepsP K W H [] []
  | cons {k : Str} {v : V} {d : D} {ps : List (V × V)} {ds : List (Str × D)} : Rep K W H v d → RepsP K W H ps ds → RepsP K W H ((.str k, v) :: ps) ((k, d) :: ds)
theorem RepsP.evo {K : Fg} {W W' : AP} {H H' : Hp} (e : Evo W H W' H') : ∀ {ps : List (V × V)} {ds : List (Str × D)}, RepsP K W H ps ds → RepsP K W' H' ps ds
  | _, _, .nil => .nil
  | _, _, .cons a r => .cons (a.evo e) (RepsP.evo e r)
structure QP (g : Gh) (X : Cx) (pos : Pos) (keys : List (Option Expr)) (values : List Expr) (t : TrP) : Prop where
  run : ∃ trs, PPs X pos keys values trs ∧ ∀ (hd : List (Addr × HO)) (σ : L2.St) (H : Hp) (Q : List (V × V) → Hp → Prop), (∃ W ρ R, St X.K (g.blk hd) W H σ ρ ∧ t ρ R ∧ ∀ ps ds H', St X.K (g.blk hd) W H' σ ρ → Evo W H W H' → RepsP X.K W H' ps ds → R ds → Q ps H') → tPairs trs σ H Q
section
variable {g : Gh} {X : Cx} {e : Expr} {te : TrE} {pos p2 : Pos} {keys : List (Option Expr)} {values : List Expr} {t : TrP} {k : Str}
def qPn : TrP := fun _ R => R []
def qPc (k : Str) (te : TrE) (t : TrP) : TrP := fun ρ R => te ρ fun d => t ρ fun ds => R ((k, d) :: ds)
theorem qp_nil : QP g X pos [] [] qPn := ⟨[], pps_nil, fun _ σ H Q ⟨W, ρ, R, S, q, k⟩ => k [] [] H S (Evo.refl _ _) .nil q⟩
theorem qp_cons {j} (he : ∀ hd, QE (g.blk hd) X e te) (h : QP g X pos keys values t) : QP g X pos (some (.Constant (.str k) j p2) :: keys) (e :: values) (qPc k te t) := by
  obtain ⟨trs, h1, h2⟩ := h.run
  have hE : PE X e (anyE X.K g te) := ⟨fun p s σ H Q I ⟨hd, q⟩ => (he hd).run.run p s σ H Q I q⟩
  exact ⟨_, pps_cons pe_str hE h1, fun hd σ H Q ⟨W, ρ, R, S, q, kk⟩ => ⟨hd, W, ρ, _, S, q, fun v d H1 S1 E1 r1 q1 => h2 hd σ H1 _ ⟨W, ρ, _, S1, q1, fun ps ds H2 S2 E2 r2 q2 => kk _ _ H2 S2 (E1.trans E2) (.cons (r1.evo E2) r2) q2⟩⟩⟩
theorem merge_nodup : ∀ (more kvs : List (Key × V)), (kvs ++ more).Pairwise (fun p q => p.1 ≠ q.1) → mergeK kvs more = kvs ++ more
  | [], kvs, _ => by simp [mergeK]
  | p :: r, kvs, h => by
    have e : putK kvs p.1 p.2 = kvs ++ [p] := by
      unfold putK
      rw [if_neg]
      intro z
      obtain ⟨q, hq, hp⟩ := List.any_eq_true.mp z
      exact (List.pairwise_append.mp h).2.2 q hq p List.mem_cons_self (of_decide_eq_true hp)
    have ih := merge_nodup r (kvs ++ [p]) (by rw [List.append_assoc]; exact h)
    show mergeK (putK kvs p.1 p.2) r = _
    rw [e, ih, List.append_assoc]
    rfl
theorem repsP_kv {K : Fg} {W : AP} {H : Hp} : ∀ {ps : List (V × V)} {ds : List (Str × D)}, RepsP K W H ps ds → ∃ kvs : List (Key × V), ps = kvs.map (fun kv => (kV kv.1, kv.2)) ∧ RepKv K W H kvs (ds.map fun p => (.str p.1, p.2)) ∧ kvs.map (·.1) = ds.map (fun p => (Sum.inr p.1 : Key))
  | _, _, .nil => ⟨[], rfl, .nil, rfl⟩
  | _, _, .cons (k := k) (v := v) a r => by
    obtain ⟨kvs, h1, h2, h3⟩ := repsP_kv r
    exact ⟨(.inr k, v) :: kvs, by rw [h1]; rfl, .cons (.str k) a h2, by simp [h3]⟩
def dctD (ds : List (Str × D)) : D := .dict (ds.map fun p => (.str p.1, p.2))
theorem qf_dict (h : QP g X pos keys values t) (hall : keys.all (·.isSome) = true := by rfl) (hl : keys.length = values.length := by rfl) (h0 : keys ≠ [] := by simp) (h15 : keys.length ≤ 15 := by decide) :
    QF g X (.Dict keys values pos) (fun ρ R => t ρ fun ds => ds.length ≤ 15 ∧ (ds.map (·.1)).Pairwise (· ≠ ·) ∧ R (dctD ds)) := by
  obtain ⟨trs, h1, h2⟩ := h.run
  refine ⟨pe_imp (pe_disp h1 hall hl h0 h15) fun σ H Q ⟨W, ρ, R, S, q, k⟩ p hp => ?_⟩
  have np : ¬ W p := S.fresh hp
  have hdp : ∀ q ∈ g.hid, q.1 ≠ p := fun q hq z => by
    obtain ⟨_, _, h3⟩ := S.hid q hq
    rw [z, hp] at h3; cases h3
  obtain ⟨S0, E0⟩ := S.hide (.dK []) hp
  refine h2 _ σ _ _ ⟨_, ρ, _, S0, q, fun ps ds H1 S1 E1 r1 ⟨q1, q2, q3⟩ => ?_⟩
  have there : H1 p = some (.dK []) := (S1.hid (p, .dK []) List.mem_cons_self).2.2
  obtain ⟨kvs, e1, e2, e3⟩ := repsP_kv r1
  have hlen : kvs.length = ds.length := by have := congrArg List.length e3; simpa using this
  have nd : kvs.Pairwise (fun p q => p.1 ≠ q.1) := by
    have z : (kvs.map (·.1)).Pairwise (· ≠ ·) := by
      rw [e3, List.pairwise_map]
      rw [List.pairwise_map] at q2
      exact q2.imp fun h z => h (by injection z)
    exact List.pairwise_map.mp z
  have em : mergeK [] kvs = kvs := by
    have z := merge_nodup kvs [] (by simpa using nd)
    simpa using z
  refine ⟨there, kvs, e1, by omega, ?_⟩
  rw [em]
  obtain ⟨S2, E2⟩ := S1.grow (ys := .dK kvs) hdp
  obtain ⟨S3, E3⟩ := S2.release np hdp
  exact k p _ H _ S (Evo.refl _ _) hp S3 (((E0.trans E1).trans E2).trans E3) (.dct np upd_same (RepKv.evo E3 _ _ (RepKv.evo E2 _ _ e2))) q3
end
end PL
end

section
set_option Elab.async false
set_option linter.all false
set_option maxRecDepth 100000
set_option maxHeartbeats 4000000
namespace PL
open PySem PySem.Spec PyProof.Rows L2
section
variable {g : Gh} {X : Cx} {k : Nat} {f : Addr} {fd : FuncData} {ps : List Str} {Φ : FS} {x y : Str} {p pos : Pos} {e : Expr} {es : List Expr} {t : TrA} {te : TrE}
/-- a call that gives a new dict -/
theorem qf_call {Ew : En → Exc → Prop} {Pj : Prs} (hE : g.Ew = Ew) (hP : g.P = Pj) (F : FnD X.prog X.w X.K X.mg X.base Pj k f fd ps Φ) (hr : Room k X.A) (hgd : X.A.guards = some []) (hmg : g.mg = X.mg) (tk : Takes X (WXg X.K g)) (hg : Gl X x) (hm : X.mg x = some (.ref f)) (hk : PySem.W.keepIn X.K (.ref f) = true) (hb : Binds X.K fd ps [])
    (ha : QA g X (e :: es) t) (hdb : (x == ("__debug__" : Str)) = false := by decide) (he : starEach (e :: es) X.env = (false, eval e X.env) :: starEach es X.env := by rfl) (hpl : (backTo pos (starEach es X.env)).any (·.1) = false := by rfl) :
    QF g X (.Call (.Name x p) (e :: es) [] pos) (qCall Ew (fun as R Ex => as.length = ps.length ∧ Φ as (fun d => (∃ kvs, d = .dict kvs) ∧ R d) Ex) t) := by
  subst hP
  exact ⟨pe_imp (pe_callG F hr hgd hg hm hk hb (fun σ => passAt tk σ) ha.run hdb he hpl) fun σ H Q ⟨W, ρ, R, S, q, k⟩ => ⟨W, ρ, _, S, q, fun vs as H1 S1 E1 r1 q1 => spD_go hmg S1 r1 q1.1 (by rw [hE]; exact q1.2) fun v d H' S' E' r' fr z => by
    obtain ⟨⟨kvs, hd⟩, z⟩ := z
    obtain ⟨a, hv, hn⟩ := fr kvs hd
    subst hv
    exact k a d H1 H' S1 E1 hn S' E' r' z⟩⟩
theorem St.h0 {K : Fg} {W : AP} {H : Hp} {σ : L2.St} {ρ : En} {a : Addr} (S : St K g W H σ ρ) (h : H a = none) : g.H0 a = none := by
  cases z : g.H0 a with
  | none => rfl
  | some o =>
    by_cases w : g.pa = some a
    · obtain ⟨o, q⟩ := g.P.there (S.prs a w)
      rw [h] at q; cases q
    · have q := S.same a o w z
      rw [h] at q; cases q
/-- return {..} -/
theorem qs_retF (he : QF g X e te) : QS g X (.Return (some e) pos) (fun B ρ => te ρ B.rt) :=
  ⟨ps_imp (ps_ret he.run) fun Dn σ H ⟨W, ρ, B, S, q, k⟩ => ⟨W, ρ, _, S, q, fun a d Hc H' S0 E0 hn S' E' r' q' => k.rt _ d H' S'.aftEnd (r'.evo S'.dropW) (fun _ _ => ⟨a, rfl, S0.h0 hn⟩) q'⟩⟩
def noOwns (ρ : En) : Prop := ∀ (i : Nat) (ds : List D), ρ[i]? ≠ some (.own ds)
/-- behind a call that was handed p -/
theorem St.handed {K : Fg} {W : AP} {Hc H1 H2 : Hp} {σ : L2.St} {ρ : En} {a : Addr} (S0 : St K g W Hc σ ρ) (S1 : St K g W H1 σ ρ) (E : Evo W Hc W H1) (hn : Hc a = none) (no : noOwns ρ) (hpa : g.pa = none) (k : ∀ b o, b ≠ a → H1 b = some o → H2 b = some o) :
    St K g W H2 σ ρ ∧ Evo W Hc W H2 := by
  have ne : ∀ {b o}, Hc b = some o → b ≠ a := fun h z => by rw [z, hn] at h; cases h
  have e : Evo W Hc W H2 := ⟨fun b z => .inl z, fun b o nb hb => k b o (ne hb) (E.kp b o nb hb)⟩
  refine ⟨⟨fun b o n h => ?_, S0.wF, S0.wN, fun b h => ?_, S0.pF, fun c h => ?_, S0.len, fun i s h => (S0.sl i s h).evo e fun ds c e1 _ _ _ => absurd (by rw [← e1]; exact h) (no i ds), S0.ap, fun q hq => ?_, S0.hidA, S0.eb.trans e⟩, e⟩
  · refine k b o (fun z => ?_) (S1.same b o n h)
    have q := S0.h0 hn
    rw [z, q] at h; cases h
  · obtain ⟨o, ho⟩ := S1.wH b h
    obtain ⟨o', ho'⟩ := S0.wH b h
    exact ⟨o, k b o (ne ho') ho⟩
  · rw [hpa] at h; cases h
  · obtain ⟨h1, h2, h3⟩ := S1.hid q hq
    exact ⟨h1, h2, k _ _ (ne (S0.hid q hq).2.2) h3⟩
def isPress (d : D) : Prop := ∃ n i j : Int, d = .dict [(.str "own", .int n), (.str "wheels", .list [.int i, .int j])] ∧ 0 ≤ n
theorem press_of {K : Fg} {W : AP} {H : Hp} {a : Addr} {d : D} (r : Rep K W H (.ref a) d) (h : isPress d) : pressOk K (fun b => W b ∨ b = a) H a ∧ ∃ o, H a = some o := by
  obtain ⟨n, i, j, rfl, hn⟩ := h
  cases r with
  | dct nw hH hr =>
    cases hr with
    | cons k1 v1 hr =>
      cases hr with
      | cons k2 v2 hr =>
        cases hr
        rename_i ka va kb vb
        have e1 : ka = kOwn := by
          cases ka with
          | inl z => cases k1
          | inr z => cases k1; rfl
        have e2 : kb = kWh := by
          cases kb with
          | inl z => cases k2
          | inr z => cases k2; rfl
        subst e1; subst e2
        cases v1
        refine ⟨⟨n, vb, i, j, hH, hn, ?_⟩, _, hH⟩
        cases v2 with
        | lst h1 h2 =>
          rename_i a2 xs2
          refine .lst (xs := xs2) ?_ ?_
          · rcases h1 with ⟨q1, q2⟩ | q
            · refine .inl ⟨fun z => ?_, q2⟩
              rcases z with z | z
              · exact q1 z
              · subst z
                rcases q2 with q2 | ⟨o, q2⟩
                · rw [hH] at q2; cases q2
                · rw [hH] at q2; cases q2
            · exact .inr q
          · cases h2 with
            | cons z1 h2 => cases h2 with
              | cons z2 h2 =>
                cases h2
                cases z1
                cases z2
                exact .cons (.int _) (.cons (.int _) .nil)
def qCallP (Ew : En → Exc → Prop) (Φ : FS) (te : TrE) : TrE := fun ρ R => noOwns ρ ∧ te ρ fun d => isPress d ∧ Φ [.prs] R (Ew ρ)
theorem qe_callP {Ew : En → Exc → Prop} (hE : g.Ew = Ew) (hpa : g.pa = none) (F : FnD X.prog X.w X.K X.mg X.base PJ k f fd [y] Φ) (hr : Room k X.A) (hgd : X.A.guards = some []) (hmg : g.mg = X.mg) (tk : Takes X (WXg X.K g)) (hg : Gl X x) (hm : X.mg x = some (.ref f)) (hk : PySem.W.keepIn X.K (.ref f) = true) (hb : Binds X.K fd [y] [])
    (ha : QF g X e te) (hdb : (x == ("__debug__" : Str)) = false := by decide) (he : starEach [e] X.env = (false, eval e X.env) :: starEach [] X.env := by rfl) (hpl : (backTo pos (starEach [] X.env)).any (·.1) = false := by rfl) :
    QE g X (.Call (.Name x p) [e] [] pos) (qCallP Ew Φ te) :=
  ⟨pe_imp (pe_callG F hr hgd hg hm hk hb (fun σ => passAt tk σ) (pa_cons ha.run pa_nil he) hdb he hpl) fun σ H Q ⟨W, ρ, R, S, ⟨no, q⟩, k⟩ => ⟨W, ρ, _, S, q, fun a d Hc H1 S0 E0 hn S1 E1 r1 ⟨hd, q1⟩ => by
    obtain ⟨pr, o, ho⟩ := press_of r1 hd
    have far : ∀ {H2 : Hp}, Aft PJ X.K (fun b => W b ∨ b = a) (some a) H1 H2 → St X.K g W H2 σ ρ ∧ Evo W Hc W H2 := fun z => S0.handed S1 E1 hn no hpa fun b o nb hb => z.1 b o (fun v => nb (by cases v; rfl)) hb
    have drop : ∀ {H2 : Hp} {v : V} {d : D}, Rep X.K (fun b => W b ∨ b = a) H2 v d → Rep X.K W H2 v d := fun r => r.evo ⟨fun b z => .inl (.inl z), fun b o _ z => z⟩
    refine ⟨fun b => W b ∨ b = a, some a, [.prs], R, Ew ρ, trivial, rfl, fun b z => ?_, fun b z => ?_, fun b z => ?_, .cons (s := .prs) ⟨a, rfl, rfl⟩ .nil, q1, fun v d' H2 af r _ z => ?_, fun ex Ca dd v H2 af e1 e2 e3 e4 e5 => ?_⟩
    · rcases z with z | z
      · exact S1.wH b z
      · rw [z]; exact ⟨o, ho⟩
    · cases z; exact .inr rfl
    · cases z; exact pr
    · obtain ⟨S2, E2⟩ := far af
      exact k v d' H2 S2 (E0.trans E2) (drop r) z
    · obtain ⟨S2, E2⟩ := far af
      exact ⟨W, ρ, ex, Ca, dd, v, rfl, rfl, by rw [hmg]; exact e1, S2, fun z => e2 (.inl z), e3, drop e4, by rw [hE]; exact e5⟩⟩⟩
end
end PL
end

section
set_option Elab.async false
set_option linter.all false
set_option maxRecDepth 100000
set_option maxHeartbeats 4000000
namespace PL
open PySem PySem.Spec PyProof.Rows L2
/-! ### a def of the text, by its name -/
def HasD (P : Program) (w : World) (K : Fg) (mg : Str → Option Value) (base : Heap) (Pj : Prs) (x : Str) (pa : Arguments) (k : Nat) (ps : List Str) (Φ : FS) : Prop :=
  ∃ (f : Addr) (fd : FuncData) (body : List Stmt) (scope : Scope), mg x = some (.ref f) ∧ FunD K x x pa body scope [] [] f fd ∧ FnD P w K mg base Pj k f fd ps Φ
abbrev BindH (x : Str) (pa : Arguments) (ps : List Str) : Prop := ∀ (body : List Stmt) (scope : Scope) (kV doc pm : Value) (an : Option Addr) (cdv ct : Value) (us : List Value), us.length = ps.length → bindArgs (PySem.W.fnOf x x pa body scope .none kV doc pm an cdv ct) ⟨us, []⟩ = pure (ps.zip us)
abbrev BindK (x : Str) (pa : Arguments) (ps ks : List Str) (nu nk : Nat) (pm : List Nat) : Prop := ∀ (body : List Stmt) (scope : Scope) (kV doc p : Value) (an : Option Addr) (cdv ct : Value) (us ws : List Value), us.length = nu → ws.length = nk →
  bindArgs (PySem.W.fnOf x x pa body scope .none kV doc p an cdv ct) ⟨us, ks.zip ws⟩ = pure (ps.zip (pm.filterMap fun i => (us ++ ws)[i]?))
theorem noDfl {K : Fg} {x : Str} {pa : Arguments} {body : List Stmt} {scope : Scope} {f : Addr} {fd : FuncData} (F : FunD K x x pa body scope [] [] f fd) : ∃ kV doc pm an cdv ct, fd = PySem.W.fnOf x x pa body scope .none kV doc pm an cdv ct := by
  obtain ⟨oc, od, dV, kV, doc, pm, an, cdv, ct, osl, rfl, lk, hcd, hD, hK⟩ := F.ex
  rcases hD with ⟨_, rfl⟩ | ⟨e, _⟩
  · exact ⟨_, _, _, _, _, _, rfl⟩
  · exact absurd rfl e
section
variable {g : Gh} {X : Cx} {k : Nat} {ps ks : List Str} {Φ : FS} {x y : Str} {pa : Arguments} {p pos : Pos} {e : Expr} {es : List Expr} {kws : List Keyword} {t u : TrA} {te : TrE} {Ew : En → Exc → Prop} {Pj : Prs}
def cal (n : Nat) (Φ : FS) : FS := fun as R Ex => as.length = n ∧ Φ as R Ex
theorem qe_callH (hE : g.Ew = Ew) (hP : g.P = Pj) (C : HasD X.prog X.w X.K X.mg X.base Pj x pa k ps Φ) (hb : BindH x pa ps) (hr : Room k X.A) (hgd : X.A.guards = some []) (hmg : g.mg = X.mg) (tk : Takes X (WXg X.K g)) (hg : Gl X x)
    (ha : QA g X (e :: es) t) (hn : (e :: es).length = ps.length := by rfl) (hdb : (x == ("__debug__" : Str)) = false := by decide) (he : starEach (e :: es) X.env = (false, eval e X.env) :: starEach es X.env := by rfl) (hpl : (backTo pos (starEach es X.env)).any (·.1) = false := by rfl) :
    QE g X (.Call (.Name x p) (e :: es) [] pos) (qCall Ew (cal ps.length Φ) t) := by
  obtain ⟨f, fd, body, scope, hm, FD, F⟩ := C
  exact qe_call hE hP F hr hgd hmg tk hg hm FD.kp (FD.bindsN fun _ _ _ _ _ _ us hl => hb body scope _ _ _ _ _ _ us hl) ha hn hdb he hpl
theorem qf_callH (hE : g.Ew = Ew) (hP : g.P = Pj) (C : HasD X.prog X.w X.K X.mg X.base Pj x pa k ps Φ) (hb : BindH x pa ps) (hr : Room k X.A) (hgd : X.A.guards = some []) (hmg : g.mg = X.mg) (tk : Takes X (WXg X.K g)) (hg : Gl X x)
    (ha : QA g X (e :: es) t) (hdb : (x == ("__debug__" : Str)) = false := by decide) (he : starEach (e :: es) X.env = (false, eval e X.env) :: starEach es X.env := by rfl) (hpl : (backTo pos (starEach es X.env)).any (·.1) = false := by rfl) :
    QF g X (.Call (.Name x p) (e :: es) [] pos) (qCall Ew (fun as R Ex => as.length = ps.length ∧ Φ as (fun d => (∃ kvs, d = .dict kvs) ∧ R d) Ex) t) := by
  obtain ⟨f, fd, body, scope, hm, FD, F⟩ := C
  exact qf_call hE hP F hr hgd hmg tk hg hm FD.kp (FD.bindsN fun _ _ _ _ _ _ us hl => hb body scope _ _ _ _ _ _ us hl) ha hdb he hpl
theorem qe_callPH (hE : g.Ew = Ew) (hpa : g.pa = none) (C : HasD X.prog X.w X.K X.mg X.base PJ x pa k [y] Φ) (hb : BindH x pa [y]) (hr : Room k X.A) (hgd : X.A.guards = some []) (hmg : g.mg = X.mg) (tk : Takes X (WXg X.K g)) (hg : Gl X x)
    (ha : QF g X e te) (hdb : (x == ("__debug__" : Str)) = false := by decide) (he : starEach [e] X.env = (false, eval e X.env) :: starEach [] X.env := by rfl) (hpl : (backTo pos (starEach [] X.env)).any (·.1) = false := by rfl) :
    QE g X (.Call (.Name x p) [e] [] pos) (qCallP Ew Φ te) := by
  obtain ⟨f, fd, body, scope, hm, FD, F⟩ := C
  exact qe_callP hE hpa F hr hgd hmg tk hg hm FD.kp (FD.bindsN fun _ _ _ _ _ _ us hl => hb body scope _ _ _ _ _ _ us hl) ha hdb he hpl
theorem qe_callKH {nu nk : Nat} {pm : List Nat} (hE : g.Ew = Ew) (hP : g.P = Pj) (C : HasD X.prog X.w X.K X.mg X.base Pj x pa k ps Φ) (h0 : 0 < ps.length) (hb : BindK x pa ps ks nu nk pm) (hr : Room k X.A) (hgd : X.A.guards = some []) (hmg : g.mg = X.mg) (tk : Takes X (WXg X.K g)) (hg : Gl X x)
    (ha : QA g X (e :: es) t) (hkw : QK g X kws u) (hall : (backToKw pos (keywordEach kws X.env)).all (·.1.isSome) = true := by rfl) (hks : (backToKw pos (keywordEach kws X.env)).filterMap (·.1) = ks := by rfl)
    (hdb : (x == ("__debug__" : Str)) = false := by decide) (he : starEach (e :: es) X.env = (false, eval e X.env) :: starEach es X.env := by rfl)
    (hpl : ((backTo pos (starEach (e :: es) X.env)).any (·.1) || (backToKw pos (keywordEach kws X.env)).any (·.1.isNone)) = false := by rfl) :
    QE g X (.Call (.Name x p) (e :: es) kws pos) (qCallK Ew (cal ps.length Φ) nu nk pm t u) := by
  obtain ⟨f, fd, body, scope, hm, FD, F⟩ := C
  obtain ⟨kV, doc, p, an, cdv, ct, rfl⟩ := noDfl FD
  exact qe_callK hE hP F hr hgd hmg tk hg hm FD.kp (kb_of h0 fun us ws l1 l2 => hb body scope _ _ _ _ _ _ us ws l1 l2) ha hkw hall hks hdb he hpl
theorem qe_callKH0 {nk : Nat} {pm : List Nat} (hE : g.Ew = Ew) (hP : g.P = Pj) (C : HasD X.prog X.w X.K X.mg X.base Pj x pa k ps Φ) (h0 : 0 < ps.length) (hb : BindK x pa ps ks 0 nk pm) (hr : Room k X.A) (hgd : X.A.guards = some []) (hmg : g.mg = X.mg) (tk : Takes X (WXg X.K g)) (hg : Gl X x)
    (hkw : QK g X kws u) (hall : (backToKw pos (keywordEach kws X.env)).all (·.1.isSome) = true := by rfl) (hks : (backToKw pos (keywordEach kws X.env)).filterMap (·.1) = ks := by rfl)
    (hdb : (x == ("__debug__" : Str)) = false := by decide) (hpl : ((backTo pos (starEach [] X.env)).any (·.1) || (backToKw pos (keywordEach kws X.env)).any (·.1.isNone)) = false := by rfl) :
    QE g X (.Call (.Name x p) [] kws pos) (qCallK Ew (cal ps.length Φ) 0 nk pm qANil u) := by
  obtain ⟨f, fd, body, scope, hm, FD, F⟩ := C
  obtain ⟨kV, doc, p, an, cdv, ct, rfl⟩ := noDfl FD
  exact qe_callK0 hE hP F hr hgd hmg tk hg hm FD.kp (kb_of h0 fun us ws l1 l2 => hb body scope _ _ _ _ _ _ us ws l1 l2) hkw hall hks hdb hpl
/-- what a module's name stands for -/
def GlD (K : Fg) (mg : Str → Option Value) (x : Str) (d : D) : Prop := ∃ (u : Value) (v : V), mg x = some u ∧ RelV v u ∧ ∀ W H, Rep K W H v d
theorem qe_glo {d : D} (C : GlD X.K X.mg x d) (hg : Gl X x) (hdb : (x == ("__debug__" : Str)) = false := by decide) : QE g X (.Name x pos) (qC d) := by
  obtain ⟨u, v, h1, h2, h3⟩ := C
  exact qe_glob hg h1 h2 h3 hdb
theorem qs_raiseH {a : Expr} {f : Str} {pos2 : Pos} (hE : g.Ew = Ew) (T : ∃ C, XCls X.prog X.w X.K X.mg X.base x C f) (hc : X.calm = true) (hr : Room 2 X.A) (hmg : g.mg = X.mg) (tk : Takes X (WXg X.K g)) (ha : QE g X a te) (hg : Gl X x)
    (hdb : (x == ("__debug__" : Str)) = false := by decide) (he : starEach [a] X.env = (false, eval a X.env) :: starEach [] X.env := by rfl) (hpl : (backTo pos (starEach [] X.env)).any (·.1) = false := by rfl) :
    QS g X (.Raise (some (.Call (.Name x p) [a] [] pos)) none pos2) (qRaise Ew x f te) := by
  obtain ⟨C, T⟩ := T
  exact qs_raise hE T hc hr hmg tk ha hg hdb he hpl
end
/-! ### facts of the text -/
mutual
/-- a value of the module is this data -/
def datB (K : Fg) (u : Value) : D → Bool
  | .none => match u with
    | .none => true
    | _ => false
  | .bool b => match u with
    | .bool c => b == c
    | _ => false
  | .int i => match u with
    | .int j _ => decide (i = j)
    | _ => false
  | .str x => match u with
    | .str y _ => decide (x = y)
    | _ => false
  | .tuple ds => match u with
    | .ref a => match K.lookup a with
      | some ⟨.type c, none, .seq its _, _⟩ => decide (c = "tuple") && (decide (its.size ≤ sizeLine) && datsB K its.toList ds)
      | _ => false
    | _ => false
  | _ => false
def datsB (K : Fg) : List Value → List D → Bool
  | [], [] => true
  | u :: us, d :: ds => datB K u d && datsB K us ds
  | _, _ => false
end
mutual
theorem datB_ok {K : Fg} : ∀ (d : D) (u : Value), datB K u d = true → ∃ v, RelV v u ∧ ∀ W H, Rep K W H v d
  | .none, u, h => by
    cases u <;> first | exact ⟨.non, rfl, fun _ _ => .non⟩ | (simp [datB] at h)
  | .bool b, u, h => by
    cases u <;> first | (simp [datB] at h; subst h; exact ⟨.bl _, rfl, fun _ _ => .bl _⟩) | (simp [datB] at h)
  | .int i, u, h => by
    cases u <;> first | (simp [datB] at h; subst h; exact ⟨.int _, ⟨_, rfl⟩, fun _ _ => .int _⟩) | (simp [datB] at h)
  | .str x, u, h => by
    cases u <;> first | (simp [datB] at h; subst h; exact ⟨.str _, ⟨_, rfl⟩, fun _ _ => .str _⟩) | (simp [datB] at h)
  | .tuple ds, u, h => by
    cases u with
    | ref a =>
      unfold datB at h
      have h' : (match K.lookup a with
        | some ⟨.type c, none, .seq its _, _⟩ => decide (c = "tuple") && (decide (its.size ≤ sizeLine) && datsB K its.toList ds)
        | _ => false) = true := h
      split at h'
      · rename_i c its n sl lk
        simp only [Bool.and_eq_true, decide_eq_true_eq] at h'
        obtain ⟨h1, h2, h3⟩ := h'
        obtain ⟨vs, r, hr⟩ := datsB_ok ds its.toList h3
        exact ⟨.ref a, rfl, fun W H => .tup (.inr ⟨_, its, n, lk, rfl, congrArg Value.type h1, rfl, h2, r⟩) (hr W H)⟩
      · cases h'
    | _ => simp [datB] at h
  | .list ds, u, h => by simp [datB] at h
  | .dict ds, u, h => by simp [datB] at h
theorem datsB_ok {K : Fg} : ∀ (ds : List D) (us : List Value), datsB K us ds = true → ∃ vs, Vals vs us ∧ ∀ W H, Reps K W H vs ds
  | [], [], _ => ⟨[], .nil, fun _ _ => .nil⟩
  | d :: ds, u :: us, h => by
    unfold datsB at h
    obtain ⟨h1, h2⟩ := Bool.and_eq_true_iff.mp h
    obtain ⟨v, r1, q1⟩ := datB_ok d u h1
    obtain ⟨vs, r2, q2⟩ := datsB_ok ds us h2
    exact ⟨v :: vs, .cons r1 r2, fun W H => .cons (q1 W H) (q2 W H)⟩
  | [], u :: us, h => by simp [datsB] at h
  | d :: ds, [], h => by simp [datsB] at h
end
def gloB (K : Fg) (x : Str) (d : D) : Bool := match PySem.W.nsIn K mainGlobals x with
  | some (some u) => datB K u d
  | _ => false
theorem gloB_ok {K : Fg} {h : Heap} {mg : Str → Option Value} (X : K.In h) (G : h.Ns mainGlobals mg) {x : Str} {d : D} (c : gloB K x d = true) : GlD K mg x d := by
  unfold gloB at c
  split at c
  · rename_i u e
    obtain ⟨v, r, q⟩ := datB_ok d u c
    exact ⟨u, v, PySem.W.mg_of X G e, r, q⟩
  · cases c
/-- an own error class, its one field -/
def oexB (K : Fg) (C : Addr) : Bool := (match K.lookup C with
  | some ⟨.type "type", _, .cls cd, sl⟩ => (match cd.mro, sl.toList with
    | .ref C' :: bm, [_, _, _, _, some (.builtin n), _] => C' == C && (n == "ValueError.__new__" && (!cd.hasDel && (cd.hasDict && PySem.HandSPX.refsVE bm)))
    | _, _ => false)
  | _ => false) && (decide (PySem.W.findIn K (.ref C) "__setattr__" = some (some (.builtin "object.__setattr__"))) && (decide (PySem.W.subIn K (.ref C) (.type "BaseException") = some true) && (decide (PySem.W.typeIn K (.ref C) = some (.type "type")) && PySem.W.keepIn K (.ref C))))
theorem oexB_ok {K : Fg} {C : Addr} (h : oexB K C = true) : OexC K C := by
  unfold oexB at h
  simp only [Bool.and_eq_true, decide_eq_true_eq] at h
  obtain ⟨q, h1, h2, h3, h4⟩ := h
  refine ⟨?_, h1, h2, h3, h4⟩
  split at q
  · rename_i dd cd sl lk
    split at q
    · rename_i C' bm k0 k1 k2 k3 n k5 hm hs
      simp only [Bool.and_eq_true, beq_iff_eq, Bool.not_eq_true'] at q
      obtain ⟨rfl, rfl, hdel, hdct, ht⟩ := q
      obtain ⟨nm, bs, mro, ns, qn, hd, sn, sub, ab, col, del⟩ := cd
      dsimp only at hm hdel hdct
      subst hm hdel hdct
      have e : sl = #[k0, k1, k2, k3, some (.builtin "ValueError.__new__"), k5] := by
        obtain ⟨l⟩ := sl
        simp only at hs
        rw [hs]
      subst e
      exact ⟨nm, qn, ns, bs, bm, sn, sub, ab, col, dd, k0, k1, k2, k3, k5, lk, ht⟩
    · cases q
  · cases q
/-- .. its __init__ is the def at (x, __init__) -/
def xclB (K : Fg) (x f : Str) : Bool := oexB K (He.ga K x) && (decide (PySem.W.findIn K (.ref (He.ga K x)) f = some none) && (decide (PySem.W.findIn K (.ref (He.ga K x)) "__init__" = some (some (.ref (He.ma K (He.ga K x) "__init__")))) &&
  (decide (PySem.W.typeIn K (.ref (He.ma K (He.ga K x) "__init__")) = some (.type "function")) && xfB K (He.ga K x))))
theorem xcl_ok {P : Program} {w : World} {K : Fg} {h : Heap} {mg : Str → Option Value} {base : Heap} (X : K.In h) (G : h.Ns mainGlobals mg) {x f nm qual : Str} {params : Arguments} {scope : Scope} {q1 q2 q3 q4 : Pos} {fd : FuncData}
    (hx : (He.Fa.glo x).ok K = true) (c : xclB K x f = true) (F : FunD K nm qual params [.Assign [.Attribute (.Name "self" q1) f q2] (.Name f q3) q4] scope [] [] (He.fAd K (x, some "__init__")) fd) (S : FnScope ["self", f] ["self", f] scope)
    (hv1 : Vis scope "self") (hv2 : Vis scope f) (hd : (f == ("__debug__" : Str)) = false) (hcd : (f == ("__classdict__" : Str)) = false) (hsw : ∀ env : Env, swapsWith (.Name f q3) (some (.Attribute (.Name "self" q1) f q2)) q4.line env = pure false)
    (hb : ∀ (kV doc pm : Value) (an : Option Addr) (cdv ct : Value) (us : List Value), us.length = 2 → bindArgs (PySem.W.fnOf nm qual params [.Assign [.Attribute (.Name "self" q1) f q2] (.Name f q3) q4] scope .none kV doc pm an cdv ct) ⟨us, []⟩ = pure ((["self", f] : List Str).zip us)) :
    XCls P w K mg base x (He.ga K x) f := by
  unfold xclB at c
  simp only [Bool.and_eq_true, decide_eq_true_eq] at c
  obtain ⟨c1, c2, c3, c4, c5⟩ := c
  obtain ⟨oc, od, dV, kV, doc, pm, an, cdv, ct, osl, e, lk, hcd', _, _⟩ := id F.ex
  subst e
  exact ⟨oexB_ok c1, He.glo_ok X G hx, c2, ⟨_, _, _, c3, c4, ini_ok lk hcd' S hv1 hv2 hd hcd hsw, F.bindsN fun kV doc pm an cdv ct us hl => hb kV doc pm an cdv ct us hl⟩, xfB_ok c5⟩
end PL
end

section
set_option Elab.async false
set_option linter.all false
set_option maxRecDepth 100000
set_option maxHeartbeats 4000000
namespace PL
open PySem PySem.Spec PyProof.Rows L2
/-! ### names of readings -/
def qIsi (f : D → Bool) (ta : TrE) : TrE := fun ρ R => ta ρ fun d => R (.bool (f d))
def qLenE (te : TrE) : TrE := fun ρ R => te ρ fun d => lenOk d → R d
def qLenL (tl : TrL) : TrL := fun ρ R => tl ρ fun ds => (∀ d ∈ ds, lenOk d) → R ds
def qLcE (tl : TrL) : TrE := fun ρ R => tl ρ fun ds => R (.list ds)
def qLstN (u : TrL) : TrL := fun ρ R => u ρ fun ds => ds.length ≤ sizeLine ∧ R ds
def qListN (tl : TrL) : TrL := fun ρ R => tl ρ fun ds => ∃ d xs, ds = [d] ∧ itemsD d = some xs ∧ R xs
def qRetF (te : TrE) : TrS := fun B ρ => te ρ B.rt
def qDct (t : TrP) : TrE := fun ρ R => t ρ fun ds => ds.length ≤ 15 ∧ (ds.map (·.1)).Pairwise (· ≠ ·) ∧ R (dctD ds)
def qCallF (Ew : En → Exc → Prop) (n : Nat) (Φ : FS) (t : TrA) : TrE := qCall Ew (fun as R Ex => as.length = n ∧ Φ as (fun d => (∃ kvs, d = .dict kvs) ∧ R d) Ex) t
def qTry (Ew : En → Exc → Prop) (tb : (En → Exc → Prop) → TrS) (l : List QCl) : TrS := fun B ρ => tb (hdX Ew B l) B ρ
theorem qs_tryQ {g : Gh} {X : Cx} {Ew : En → Exc → Prop} {body : List Stmt} {h₀ : ExceptHandler} {hds : List ExceptHandler} {l : List QCl} {pos : Pos} {tb : (En → Exc → Prop) → TrS} (hE : g.Ew = Ew) (hmg : g.mg = X.mg) (stack : X.stack = X.env :: X.outer) (frame : X.env.frame = some X.env.locals) (nd : X.N.Nodup) (tk : Takes X (WXg X.K g))
    (walk : ∀ (W0 : AP) (H0 : Hp) (E : En → Exc → Prop) (pn : List (Addr × Obj)) (xe : Value → Shared → Prop), Takes (X.tr pn xe) (WXg X.K (g.tr W0 H0 E)) → PassesOwn (model X.prog X.w) X.A X.env xe → QSs (g.tr W0 H0 E) (X.tr pn xe) body (tb E)) (cs : QClsOk g X (h₀ :: hds) l) :
    QS g X (.Try body (h₀ :: hds) [] [] pos) (qTry Ew tb l) := qs_try hE hmg stack frame nd tk walk cs
def oNeg : D → (D → Prop) → Prop := fun d R => ∃ i, d = .int i ∧ R (.int (-i))
end PL
end

section
set_option Elab.async false
set_option linter.all false
set_option maxRecDepth 100000
set_option maxHeartbeats 4000000
namespace PL
open PySem PySem.Spec PyProof.Rows L2
/-! ### methods of texts -/
section
variable {X : Cx}
theorem reps_strs {K : Fg} {W : AP} {H : Hp} : ∀ ys : List Str, Reps K W H (ys.map V.str) (ys.map PyData.str)
  | [] => .nil
  | y :: ys => .cons (.str y) (reps_strs ys)
theorem strs_reps {K : Fg} {W : AP} {H : Hp} : ∀ {xs : List V} {ys : List Str}, Reps K W H xs (ys.map PyData.str) → xs = ys.map V.str
  | _, [], r => by cases r; rfl
  | _, y :: ys, r => by
    cases r with
    | cons a b => cases a; rw [strs_reps b]; rfl
theorem same_new {H : Hp} {p : Addr} {o : HO} (h : H p = none) : Same H (upd H p o) := fun b x q => by rw [upd_ne (ne_of_none q h)]; exact q
def m_split : MeT := fun d ds R => ∃ a b, d = .str a ∧ ds = [.str b] ∧ (b.length == 0) = false ∧ a.length + 2 ≤ sizeLine ∧ R (.list ((Txt.split a b).map .str))
theorem mtd_split : MtD X "str.split" m_split := by
  intro pins s σ H v vs u us Q I rv rvs ⟨W, d, ds, R, w, a, rs, ⟨x, y, hd, hds, h1, h2, q⟩, k⟩
  subst hd; subst hds
  obtain ⟨v1, rfl, b⟩ := repsC1 rs
  have e1 := a.str; have e2 := b.str
  subst e1; subst e2
  exact mt_split pins s σ H _ _ _ _ Q I rv rvs ⟨x, y, rfl, rfl, h1, h2, fun p hp => k _ _ _ (same_new hp) (rep_newL w hp (reps_strs _)) q⟩
def m_partition : MeT := fun d ds R => ∃ a b, d = .str a ∧ ds = [.str b] ∧ (b.length == 0) = false ∧ a.length ≤ sizeLine ∧ R (.tuple [.str (Txt.partition a b).1, .str (Txt.partition a b).2.1, .str (Txt.partition a b).2.2])
def m_join : MeT := fun d ds R => ∃ a e, ∃ ys : List Str, d = .str a ∧ ds = [e] ∧ itemsD e = some (ys.map .str) ∧ (ys.map (·.length)).sum + ys.length * a.length ≤ 16777216 ∧ R (.str (Txt.join a ys))
theorem mtd_join : MtD X "str.join" m_join := by
  intro pins s σ H v vs u us Q I rv rvs ⟨W, d, ds, R, w, a, rs, ⟨x, e, ys, hd, hds, h1, h2, q⟩, k⟩
  subst hd; subst hds
  obtain ⟨v1, rfl, b⟩ := repsC1 rs
  have e1 := a.str
  subst e1
  have key : ∃ p, v1 = .ref p ∧ (SqL X.K H p (ys.map V.str) ∨ SqT X.K H p (ys.map V.str)) := by
    cases e with
    | list xs =>
      obtain rfl : xs = ys.map .str := by simpa [itemsD] using h1
      obtain ⟨p, zs, rfl, g1, g2⟩ := b.list
      rw [strs_reps g2] at g1
      exact ⟨p, rfl, .inl g1⟩
    | tuple xs =>
      obtain rfl : xs = ys.map .str := by simpa [itemsD] using h1
      obtain ⟨p, zs, rfl, g1, g2⟩ := b.tuple
      rw [strs_reps g2] at g1
      exact ⟨p, rfl, .inr g1.sq⟩
    | _ => simp [itemsD] at h1
  obtain ⟨p, rfl, hp⟩ := key
  exact mt_join pins s σ H _ _ _ _ Q I rv rvs ⟨x, p, ys, rfl, rfl, hp, h2, k _ _ H (Same.refl H) (.str _) q⟩
def mStr0 (C : Str → Prop) (g : Str → D) : MeT := fun d ds R => ∃ a, d = .str a ∧ ds = [] ∧ C a ∧ R (g a)
def m_upper : MeT := fun d ds R => ∃ a, d = .str a ∧ ds = [] ∧ a.length ≤ 5592405 ∧ R (.str (Txt.upper a))
def m_isdigit : MeT := fun d ds R => ∃ a, d = .str a ∧ ds = [] ∧ R (.bool (Txt.isdigit a))
theorem repsC0 {K : Fg} {W : AP} {H : Hp} {vs : List V} (h : RepsC K W H vs []) : vs = [] := by cases h; rfl
theorem mtd_upper : MtD X "str.upper" m_upper := by
  intro pins s σ H v vs u us Q I rv rvs ⟨W, d, ds, R, w, a, rs, ⟨x, hd, hds, h1, q⟩, k⟩
  subst hd; subst hds
  obtain rfl := repsC0 rs
  have e1 := a.str
  subst e1
  exact mt_upper pins s σ H _ _ _ _ Q I rv rvs ⟨x, rfl, rfl, h1, k _ _ H (Same.refl H) (.str _) q⟩
theorem mtd_isdigit : MtD X "str.isdigit" m_isdigit := by
  intro pins s σ H v vs u us Q I rv rvs ⟨W, d, ds, R, w, a, rs, ⟨x, hd, hds, q⟩, k⟩
  subst hd; subst hds
  obtain rfl := repsC0 rs
  have e1 := a.str
  subst e1
  exact mt_isdigit pins s σ H _ _ _ _ Q I rv rvs ⟨x, rfl, rfl, trivial, k _ _ H (Same.refl H) (.bl _) q⟩
theorem mtd_partition : MtD X "str.partition" m_partition := by
  intro pins s σ H v vs u us Q I rv rvs ⟨W, d, ds, R, w, a, rs, ⟨x, y, hd, hds, h1, h2, q⟩, k⟩
  subst hd; subst hds
  obtain ⟨v1, rfl, b⟩ := repsC1 rs
  have e1 := a.str; have e2 := b.str
  subst e1; subst e2
  obtain ⟨t, rfl⟩ := rv
  obtain ⟨u2, rfl, rb⟩ := vals1 rvs
  obtain ⟨t2, rfl⟩ := rb
  refine call_meets F.slot_str_partition (typeIs_str _ _ _) F.entry_str_partition (F.args_str_partition_2 _ _) (meets_str_partition x y t t2 h1 h2) ?_
  have go : ∀ (a b c : Str) (t1 t2 t3 : Tok) (kk : Nat), R (.tuple [.str a, .str b, .str c]) → EP X pins σ Q (.ref s.heap.objs.size) { s with toks := kk, heap := s.heap.push { cls := .type "tuple", data := .seq [Value.str a t1, .str b t2, .str c t3].toArray } } := fun a b c t1 t2 t3 kk q => by
    obtain ⟨o, ho, I2, hf⟩ := laidT (t' := kk) I (xs := [.str a, .str b, .str c]) (us := [.str a t1, .str b t2, .str c t3]) (.cons ⟨_, rfl⟩ (.cons ⟨_, rfl⟩ (.cons ⟨_, rfl⟩ .nil))) (by show 3 ≤ sizeLine; decide)
    exact ⟨.ref s.heap.objs.size, _, I2, rfl, k _ _ _ (same_new hf) (rep_newT w hf ho (.cons (.str _) (.cons (.str _) (.cons (.str _) .nil)))) q⟩
  unfold Txt.partition at q
  revert q
  cases Builtin.Str.occurrences x y 0 x.length 1 with
  | nil => intro q; exact go _ _ _ _ _ _ _ q
  | cons i r => intro q; exact go _ _ _ _ _ _ _ q
def m_find : MeT := fun d ds R => ∃ a b, d = .str a ∧ ((ds = [.str b] ∧ R (.int (Txt.find a b))) ∨ ∃ i : Int, ds = [.str b, .int i] ∧ R (.int (Txt.find3 a b i)))
theorem mtd_find : MtD X "str.find" m_find := by
  intro pins s σ H v vs u us Q I rv rvs ⟨W, d, ds, R, w, a, rs, ⟨x, y, hd, q⟩, k⟩
  subst hd
  have e1 := a.str
  subst e1
  rcases q with ⟨hds, q⟩ | ⟨i, hds, q⟩
  · subst hds
    obtain ⟨v1, rfl, b⟩ := repsC1 rs
    have e2 := b.str
    subst e2
    exact mt_find pins s σ H _ _ _ _ Q I rv rvs ⟨x, y, rfl, rfl, k _ _ H (Same.refl H) (.int _) q⟩
  · subst hds
    obtain ⟨v1, v2, rfl, b, c⟩ := repsC2 rs
    have e2 := b.str
    have e3 := c.int
    subst e2; subst e3
    exact mt_find3 pins s σ H _ _ _ _ Q I rv rvs ⟨x, y, i, rfl, rfl, k _ _ H (Same.refl H) (.int _) q⟩
end
/-! ### f-strings of texts and ints -/
section
variable {g : Gh} {X : Cx} {e : Expr} {es : List Expr} {te : TrE} {pos : Pos}
def qFmt (te : TrE) : TrE := fun ρ R => te ρ fun d => (∃ y, d = .str y ∧ y.length ≤ sizeLine ∧ R (.str y)) ∨ ∃ i : Int, d = .int i ∧ i.natAbs.log2 < 1920 ∧ R (.str (toString i))
theorem qe_fmt (h : QE g X e te) : QE g X (.FormattedValue e (-1) none pos) (qFmt te) :=
  ⟨pe_imp (pe_fmt h.run) fun σ H Q ⟨W, ρ, R, S, q, k⟩ => ⟨W, ρ, _, S, q, fun v d H1 S1 E1 r1 q1 => by
    rcases q1 with ⟨y, hd, hz, q1⟩ | ⟨i, hd, hz, q1⟩
    · subst hd; cases r1
      exact .inl ⟨y, rfl, hz, k _ _ H1 S1 E1 (.str y) q1⟩
    · subst hd; cases r1
      exact .inr ⟨i, rfl, hz, k _ _ H1 S1 E1 (.str _) q1⟩⟩⟩
def teO (K : Fg) (g : Gh) (t : TrE) : TE := fun σ H Q => ∃ W ρ R, St K g W H σ ρ ∧ t ρ R ∧ ∀ v d H', St K g W H' σ ρ → Evo W H W H' → Rep K W H' v d → R d → Q v H'
inductive QJ (g : Gh) (X : Cx) : List Expr → List TrE → Prop
  | nil : QJ g X [] []
  | cons {e : Expr} {t : TrE} {es : List Expr} {ts : List TrE} : QE g X e t → QJ g X es ts → QJ g X (e :: es) (t :: ts)
def qJn : List TrE → Str → TrE
  | [], acc => fun _ R => R (.str acc)
  | t :: ts, acc => fun ρ R => t ρ fun d => ∃ y, d = .str y ∧ (acc ++ y).length ≤ sizeLine ∧ qJn ts (acc ++ y) ρ R
theorem qj_pj {es : List Expr} {ts : List TrE} (h : QJ g X es ts) : L2.PJ X es (ts.map (teO X.K g)) := by
  induction h with
  | nil => exact .nil
  | cons h _ ih => exact .cons h.run ih
theorem qj_tj {σ : L2.St} {W : AP} {ρ : En} {R : D → Prop} {Q : VK} : ∀ (ts : List TrE) (acc : Str) (H : Hp), St X.K g W H σ ρ → qJn ts acc ρ R → (∀ v d H', St X.K g W H' σ ρ → Evo W H W H' → Rep X.K W H' v d → R d → Q v H') →
    tJs (ts.map (teO X.K g)) acc σ H (fun out H1 => Q (.str out) H1)
  | [], acc, H, S, q, k => k _ _ H S (Evo.refl W H) (.str acc) q
  | t :: ts, acc, H, S, q, k => ⟨W, ρ, _, S, q, fun v d H1 S1 E1 r1 ⟨y, hd, hz, q1⟩ => by
    subst hd
    cases r1
    exact ⟨y, rfl, hz, qj_tj ts _ H1 S1 q1 fun v d H' S' E' r' q' => k v d H' S' (E1.trans E') r' q'⟩⟩
theorem qe_joined {v1 v2 : Expr} {rest : List Expr} {ts : List TrE} (h : QJ g X (v1 :: v2 :: rest) ts) : QE g X (.JoinedStr (v1 :: v2 :: rest) pos) (qJn ts Str.empty) :=
  ⟨pe_imp (pe_joined (qj_pj h)) fun σ H Q ⟨W, ρ, R, S, q, k⟩ => qj_tj ts _ H S q k⟩
theorem qe_joined1 (h : QE g X e te) : QE g X (.JoinedStr [e] pos) te := ⟨pe_joined1 h.run⟩
end
end PL
end

section
set_option Elab.async false
set_option linter.all false
set_option maxRecDepth 100000
set_option maxHeartbeats 4000000
namespace PL
open PySem PySem.Spec PyProof.Rows L2
section
variable {X : Cx}
/-- the signs of a text as a list -/
def cLstS : CaT := fun ds R => ∃ x, ds = [.str x] ∧ x.length ≤ sizeLine ∧ R (.list (x.cps.toList.map fun c => .str ⟨#[c]⟩))
theorem cad_listS (hc : X.calm = true) : CaD X (.type "list") cLstS := by
  intro pins s σ H vs us Q I rv ⟨W, ds, R, w, r, ⟨x, hd, hx, q⟩, k⟩
  subst hd
  obtain ⟨v, rfl, a⟩ := repsC1 r
  have e1 := a.str
  subst e1
  obtain ⟨u, rfl, rx⟩ := vals1 rv
  obtain ⟨t, rfl⟩ := rx
  refine call_list_str (I.ok.hd hc) x t (fun h' tk acc' c' kp e hacc => ?_) hx
  have hp := I.hok.fresh (Nat.le_refl _)
  have rl : Vals (x.cps.toList.map fun c => V.str ⟨#[c]⟩) acc'.toList := by
    refine vals_of_at (by simp [hacc.1]) fun j y z h1 h2 => ?_
    obtain ⟨c, u, hc1, hc2⟩ := hacc.2 j z (by rw [← Array.getElem?_toList]; exact h2)
    rw [List.getElem?_map] at h1
    have : x.cps.toList[j]? = some c := by rw [Array.getElem?_toList]; exact hc1
    rw [this] at h1
    simp at h1
    subst h1
    exact ⟨u, hc2⟩
  refine ⟨.ref s.heap.objs.size, upd H s.heap.objs.size (.lst (x.cps.toList.map fun c => V.str ⟨#[c]⟩)), I.laid kp (Nat.le_refl _) (show ObjOk X.prog X.w _ h' _ (.lst _) from ⟨?_, acc'.toList, c', rl, e⟩), rfl, ?_⟩
  · rw [List.length_map]; exact hx
  · refine k _ _ _ (same_new hp) (rep_newL w hp ?_) q
    have : ∀ l : List Nat, Reps X.K W H (l.map fun c => V.str ⟨#[c]⟩) (l.map fun c => PyData.str ⟨#[c]⟩) := fun l => by
      induction l with
      | nil => exact .nil
      | cons c l ih => exact .cons (.str _) ih
    exact this _
end
/-! ### a written list, so many times -/
section
variable {g : Gh} {X : Cx} {b : Expr} {es : List Expr} {tb : TrE} {pos p2 : Pos}
def qRepL (u : TrL) (tb : TrE) : TrE := fun ρ R => u ρ fun ds => ds.length ≤ sizeLine ∧ tb ρ fun e => ∃ k, e = .int k ∧ -1000 ≤ k ∧ k ≤ 1000 ∧ ds.length ≤ 1000 ∧ R (.list (List.replicate k.toNat ds).flatten)
theorem qe_repL {u : TrL} (hl : QL g X es u) (hb : QB g X b tb) : QE g X (.BinOp (.List es p2) .Mult b pos) (qRepL u tb) :=
  ⟨pe_imp (pe_op op_rep (pe_lst hl.run) hb.run) fun σ H Q ⟨W, ρ, R, S, q, k⟩ => ⟨W, ρ, _, S, q, fun vs ds H1 S1 E1 r1 q1 => ⟨by rw [r1.length]; exact q1.1, fun p hp => ⟨W, ρ, _, (St.newT S1 hp).1, q1.2, fun v e H2 S2 E2 r2 ⟨k', he, h1, h2, h3, q2⟩ => by
    subst he
    have hlen := r1.length
    have nw : ¬ W p := S1.fresh hp
    have hz : vs.length * k'.toNat ≤ sizeLine := by
      have : vs.length * k'.toNat ≤ 1000 * 1000 := Nat.mul_le_mul (by omega) (by omega)
      have hS : 1000000 ≤ sizeLine := by rw [sizeLine_eq]; decide
      omega
    have E3 : Evo W H1 W H2 := (St.newT (o := .lst vs) S1 hp).2.trans E2
    exact ⟨p, k', vs, rfl, (r2.c S2).int, E2.kp p _ nw upd_same, by omega, by omega, hz, fun p2 hp2 => k _ _ _ (St.newT S2 hp2).1 ((E1.trans E3).trans (St.newT S2 hp2).2) (rep_newL S2.wH hp2 (reps_rep (r1.evo E3) _)) q2⟩⟩⟩⟩⟩
end
end PL
end

section
set_option Elab.async false
set_option linter.all false
set_option maxRecDepth 100000
set_option maxHeartbeats 4000000
namespace PL
open PySem PySem.Spec PyProof.Rows L2 PySem.SeqAt
/-! ### the same data twice, empty dicts among them -/
mutual
def okZ : D → Bool
  | .dict ds => ds.isEmpty
  | .list ds => okZs ds
  | .tuple ds => okZs ds
  | _ => true
def okZs : List D → Bool
  | [] => true
  | d :: ds => okZ d && okZs ds
end
section
variable {X : Cx} {pins : List (Addr × Obj)} {σ : L2.St} {H : Hp} {s : Shared} {W : AP}
theorem all_true (n : Nat) : ((List.range n).all fun _ => true) = true := by simp
abbrev EqX (X : Cx) (A : Around) (s : Shared) (u u' : Value) : Prop := SeqAt.EqP X.prog X.w A s u u' true
abbrev RcX (X : Cx) (A : Around) (s : Shared) (u u' : Value) : Prop := ∀ (E Q : Value → Shared → Prop), Q (.bool true) s → wpAny (model X.prog X.w) A (richCompare .Eq u u') Q E s
theorem dict0_at {A : Around} {a b : Addr} (I : Inv X pins σ H s) (ha : H a = some (.dK [])) (hb : H b = some (.dK [])) (hu : A.units < cLine) : RcX X A s (.ref a) (.ref b) := fun E Q h => by
  obtain ⟨_, n1, vs, k1, d1⟩ := I.hok _ _ ha
  obtain ⟨_, n2, ws, k2, d2⟩ := I.hok _ _ hb
  cases k1
  cases k2
  exact PySem.W.rcP_dicts (r := true) n1 n2 d1 d2 hu (fun _ => .nil) E Q h
theorem rcX_list {A : Around} {l b : Addr} {its its' : List Value} (hl : s.heap.IsList l its.toArray) (hb : s.heap.IsList b its'.toArray) (hsz : its.length = its'.length) (hu : A.units < cLine)
    (he : ∀ j (h1 : j < its.length) (h2 : j < its'.length), EqX X A.in1 s its[j] its'[j]) : RcX X A s (.ref l) (.ref b) := fun E Q h => by
  have z := SeqAt.rcP_lists (prog := X.prog) (w := X.w) (e := fun _ => true) hl hb (by simpa using hsz) hu fun j h1 h2 => by
    have := he j (by simpa using h1) (by simpa using h2)
    simpa using this
  rw [all_true] at z
  exact z E Q h
theorem rcX_tup {A : Around} {l b : Addr} {its its' : List Value} (hl : s.heap.IsTuple l its.toArray) (hb : s.heap.IsTuple b its'.toArray) (hsz : its.length = its'.length) (hu : A.units < cLine)
    (he : ∀ j (h1 : j < its.length) (h2 : j < its'.length), EqX X A.in1 s its[j] its'[j]) : RcX X A s (.ref l) (.ref b) := fun E Q h => by
  refine GQ.rc_tupG (s := s) (by simpa using hsz) hu (fun _ s' => s' = s) hl hb (fun i h1 h2 s' e => ?_) (fun s' e => by subst e; exact h) rfl
  subst e
  have := he i (by simpa using h1) (by simpa using h2)
  simpa using this _ (fun r s' => r = true ∧ s' = _) ⟨rfl, rfl⟩
mutual
theorem repEq (I : Inv X pins σ H s) : ∀ (d : D) (A : Around) (v v' : V) (u u' : Value), okZ d = true → A.units + d.depth < cLine → Rep X.K W H v d → Rep X.K W H v' d → RelV v u → RelV v' u' → EqX X A s u u'
  | .none, A, _, _, _, _, _, _, h, h', r, r' => by
    cases h; cases h'; cases r; cases r'; exact (EqAt.same _).eqP
  | .bool b, A, _, _, _, _, _, _, h, h', r, r' => by
    cases h; cases h'; cases r; cases r'; exact (EqAt.same _).eqP
  | .int i, A, _, _, _, _, _, _, h, h', r, r' => by
    cases h; cases h'
    obtain ⟨t, rfl⟩ := r
    obtain ⟨t', rfl⟩ := r'
    have := EqAt.int_int (A := A) (s := s) i t i t'
    rw [beq_self_eq_true] at this
    exact this.eqP
  | .str x, A, _, _, _, _, _, _, h, h', r, r' => by
    cases h; cases h'
    obtain ⟨t, rfl⟩ := r
    obtain ⟨t', rfl⟩ := r'
    have := EqAt.str_str (A := A) (s := s) x t x t'
    rw [beq_self_eq_true] at this
    exact this.eqP
  | .list ds, A, _, _, _, _, hz, hu, h, h', r, r' => by
    cases h with
    | lst hs ha =>
      cases h' with
      | lst hs' ha' =>
        cases r; cases r'
        rename_i a xs a' xs'
        by_cases e : a = a'
        · subst e; exact (EqAt.same _).eqP
        · obtain ⟨its, rv, pl, _⟩ := I.list hs.sq
          obtain ⟨its', rv', pl', _⟩ := I.list hs'.sq
          have l1 : its.length = ds.length := by rw [← rv.length, ha.length]
          have l2 : its'.length = ds.length := by rw [← rv'.length, ha'.length]
          have hu' : A.units < cLine := by simp only [PyData.depth] at hu; omega
          exact SeqAt.eqP_refs e (rcX_list pl.isList pl'.isList (by rw [l1, l2]) hu' fun j h1 h2 => repsEq I ds A.in1 xs xs' its its' hz (by simp only [PyData.depth] at hu; show A.units + 1 + _ < cLine; omega) ha ha' rv rv' j h1 h2)
  | .tuple ds, A, _, _, _, _, hz, hu, h, h', r, r' => by
    cases h with
    | tup hs ha =>
      cases h' with
      | tup hs' ha' =>
        cases r; cases r'
        rename_i a xs a' xs'
        by_cases e : a = a'
        · subst e; exact (EqAt.same _).eqP
        · obtain ⟨its, rv, pl, _⟩ := I.tuple hs.sq
          obtain ⟨its', rv', pl', _⟩ := I.tuple hs'.sq
          have l1 : its.length = ds.length := by rw [← rv.length, ha.length]
          have l2 : its'.length = ds.length := by rw [← rv'.length, ha'.length]
          have hu' : A.units < cLine := by simp only [PyData.depth] at hu; omega
          exact SeqAt.eqP_refs e (rcX_tup pl pl' (by rw [l1, l2]) hu' fun j h1 h2 => repsEq I ds A.in1 xs xs' its its' hz (by simp only [PyData.depth] at hu; show A.units + 1 + _ < cLine; omega) ha ha' rv rv' j h1 h2)
  | .dict ds, A, _, _, _, _, hz, hu, h, h', r, r' => by
    have e0 : ds = [] := by simpa [okZ] using hz
    subst e0
    cases h with
    | dct n1 h1 h2 =>
      cases h2
      cases h' with
      | dct n1' h1' h2' =>
        cases h2'
        cases r; cases r'
        rename_i a a'
        by_cases e : a = a'
        · subst e; exact (EqAt.same _).eqP
        · exact SeqAt.eqP_refs e (dict0_at I h1 h1' (by omega))
theorem repsEq (I : Inv X pins σ H s) : ∀ (ds : List D) (A : Around) (vs vs' : List V) (us us' : List Value), okZs ds = true → A.units + PyData.depthAll ds < cLine → Reps X.K W H vs ds → Reps X.K W H vs' ds → Vals vs us → Vals vs' us' → ∀ j (h1 : j < us.length) (h2 : j < us'.length), EqX X A s us[j] us'[j]
  | [], A, _, _, _, _, _, _, h, h', r, r', j, h1, _ => by
    cases h; cases r; exact absurd h1 (Nat.not_lt_zero _)
  | d :: ds, A, _, _, _, _, hz, hu, h, h', r, r', j, h1, h2 => by
    simp only [okZs, Bool.and_eq_true] at hz
    simp only [PyData.depthAll] at hu
    cases h with
    | cons a b =>
      cases h' with
      | cons a' b' =>
        cases r with
        | cons c e =>
          cases r' with
          | cons c' e' =>
            cases j with
            | zero => exact repEq I d A _ _ _ _ hz.1 (by omega) a a' c c'
            | succ j => exact repsEq I ds A _ _ _ _ hz.2 (by omega) b b' e e' j (Nat.lt_of_succ_lt_succ h1) (Nat.lt_of_succ_lt_succ h2)
end
end
section
variable {X : Cx}
def oEqZ : OpT := fun d e R => oEq d e R ∨ (d = e ∧ okZ d = true ∧ d.depth ≤ 60 ∧ (d.isTuple = true ∨ d.isList = true) ∧ R (.bool true))
theorem opd_eqZ (hu : Un X) : OpD X (compareOp .Eq) oEqZ := by
  intro pins s σ H x y v u Q I rx ry ⟨W, d, e, R, w, a, b, q, k⟩
  rcases q with q | ⟨hde, hz, hd, ht, q⟩
  · exact opd_eq hu pins s σ H x y v u Q I rx ry ⟨W, d, e, R, w, a, b, q, k⟩
  · subst hde
    unfold Un at hu
    have fin := k (.bl true) (.bool true) H (Same.refl H) (.bl true) q
    have go : RcX X X.A s v u := by
      cases d with
      | list ds =>
        obtain ⟨p, xs, rfl, g1, g2⟩ := a.list
        obtain ⟨p', xs', rfl, g1', g2'⟩ := b.list
        cases rx; cases ry
        obtain ⟨its, rv, pl, _⟩ := I.list g1
        obtain ⟨its', rv', pl', _⟩ := I.list g1'
        have l1 : its.length = ds.length := by rw [← rv.length, g2.length]
        have l2 : its'.length = ds.length := by rw [← rv'.length, g2'.length]
        exact rcX_list pl.isList pl'.isList (by rw [l1, l2]) (by omega) fun j h1 h2 => repsEq I ds X.A.in1 xs xs' its its' hz (by simp only [PyData.depth] at hd; show X.A.units + 1 + _ < cLine; omega) g2 g2' rv rv' j h1 h2
      | tuple ds =>
        obtain ⟨p, xs, rfl, g1, g2⟩ := a.tuple
        obtain ⟨p', xs', rfl, g1', g2'⟩ := b.tuple
        cases rx; cases ry
        obtain ⟨its, rv, pl, _⟩ := I.tuple g1.sq
        obtain ⟨its', rv', pl', _⟩ := I.tuple g1'.sq
        have l1 : its.length = ds.length := by rw [← rv.length, g2.length]
        have l2 : its'.length = ds.length := by rw [← rv'.length, g2'.length]
        exact rcX_tup pl pl' (by rw [l1, l2]) (by omega) fun j h1 h2 => repsEq I ds X.A.in1 xs xs' its its' hz (by simp only [PyData.depth] at hd; show X.A.units + 1 + _ < cLine; omega) g2 g2' rv rv' j h1 h2
      | _ => rcases ht with ht | ht <;> cases ht
    exact go _ _ ⟨.bl true, H, I, rfl, fin⟩
/-! ### repr, empty dicts among it -/
section
variable {pins : List (Addr × Obj)} {σ : L2.St} {H : Hp} {s : Shared} {W : AP}
mutual
theorem shK (I : Inv X pins σ H s) : ∀ (d : D) (v : V) (u : Value), okZ d = true → Rep X.K W H v d → RelV v u → d.showable = true → d.shown.length ≤ sizeLine →
    ∃ bs, ReadAtMost s.heap d.depth bs ∧ ReprK X.prog X.w bs s.heap d.depth u d.shown
  | .none, _, _, _, h, r, _, _ => by
    cases h; cases r
    exact ⟨[], (fun _ z => nomatch z), by simp only [PyData.shown]; exact .of_is ReprIs.none _ _ _⟩
  | .bool b, _, _, _, h, r, _, _ => by
    cases h; cases r
    exact ⟨[], (fun _ z => nomatch z), by simp only [PyData.shown]; exact .of_is (ReprIs.bool b) _ _ _⟩
  | .int i, _, _, _, h, r, hs, _ => by
    cases h; obtain ⟨t, rfl⟩ := r
    exact ⟨[], (fun _ z => nomatch z), by simp only [PyData.shown]; exact .of_is (ReprIs.int t (by simpa [PyData.showable] using hs)) _ _ _⟩
  | .str x, _, _, _, h, r, _, hz => by
    cases h; obtain ⟨t, rfl⟩ := r
    exact ⟨[], (fun _ z => nomatch z), by simp only [PyData.shown]; exact .of_is (ReprIs.str x t (by simpa only [PyData.shown] using hz)) _ _ _⟩
  | .list ds, v, u, ok, h, r, hs, hz => by
    obtain ⟨as, rd, _⟩ := Rep.reads I _ _ _ h r
    cases h with
    | lst hw ha =>
      cases r
      obtain ⟨its, rv, ⟨o, n, ho, hc, _, hd⟩, _⟩ := I.list hw.sq
      have hz' : (listText (PyData.shownAll ds)).length ≤ sizeLine := by simpa only [PyData.shown] using hz
      obtain ⟨bs, hb, hk⟩ := shAll I ds _ its ok ha rv (by simpa [PyData.showable] using hs) fun t ht => Nat.le_trans (listText_mem_le ht) hz'
      have hna := not_mem_of_deeper rd (by simp only [PyData.depth]; omega) hb
      refine ⟨_ :: bs, ReadAtMost.cons rd (by simp only [PyData.depth]; omega) hb, ?_⟩
      simp only [PyData.depth, PyData.shown]
      cases its with
      | nil =>
        cases rv; cases ha
        simp only [PyData.shownAll, listText_nil]
        exact ReprK.listEmpty ho hc hd
      | cons y l => exact ReprK.list ho hc hd hna (by simpa using hk.length_eq) (fun i y e => hk.item i y (by simpa using e))
  | .tuple ds, v, u, ok, h, r, hs, hz => by
    obtain ⟨as, rd, _⟩ := Rep.reads I _ _ _ h r
    cases h with
    | tup hw ha =>
      cases r
      obtain ⟨its, rv, ⟨o, ho, hc, n, hd⟩, _⟩ := I.tuple hw.sq
      have hz' : (tupleText (PyData.shownAll ds)).length ≤ sizeLine := by simpa only [PyData.shown] using hz
      obtain ⟨bs, hb, hk⟩ := shAll I ds _ its ok ha rv (by simpa [PyData.showable] using hs) fun t ht => Nat.le_trans (tupleText_mem_le ht) hz'
      have hna := not_mem_of_deeper rd (by simp only [PyData.depth]; omega) hb
      refine ⟨_ :: bs, ReadAtMost.cons rd (by simp only [PyData.depth]; omega) hb, ?_⟩
      simp only [PyData.depth, PyData.shown]
      exact ReprK.tuple ho hc hd hna hk
  | .dict ds, v, u, ok, h, r, hs, hz => by
    have e0 : ds = [] := by simpa [okZ] using ok
    subst e0
    obtain ⟨as, rd, _⟩ := Rep.reads I _ _ _ h r
    cases h with
    | dct n1 hh ha =>
      cases ha
      cases r
      obtain ⟨_, hne, vs, rk, o, es, ep, ho, hx, hd, _, hp, _⟩ := I.hok _ _ hh
      cases rk
      have he : es.toList = [] := by
        cases e : es.toList with
        | nil => rfl
        | cons y l => rw [e] at hp; cases hp
      refine ⟨_ :: [], ReadAtMost.cons (n := 0) rd (Nat.zero_le _) (fun _ z => nomatch z), ?_⟩
      simp only [PyData.depth, PyData.depthKv, PyData.shown, PyData.shownKv]
      exact ReprK.dict ho hx.1 hd hne (fun z => nomatch z) (by rw [he]; exact .nil)
theorem shAll (I : Inv X pins σ H s) : ∀ (ds : List D) (vs : List V) (us : List Value), okZs ds = true → Reps X.K W H vs ds → Vals vs us → PyData.showableAll ds = true → (∀ t ∈ PyData.shownAll ds, t.length ≤ sizeLine) →
    ∃ bs, ReadAtMost s.heap (PyData.depthAll ds) bs ∧ ReprAllK X.prog X.w bs s.heap (PyData.depthAll ds) us (PyData.shownAll ds)
  | [], _, _, _, h, r, _, _ => by
    cases h; cases r
    exact ⟨[], (fun _ z => nomatch z), by simp only [PyData.shownAll]; exact .nil⟩
  | d :: ds, _, _, ok, h, r, hs, hz => by
    cases h with
    | cons h1 h2 =>
      cases r with
      | cons r1 r2 =>
        have ok' : okZ d = true ∧ okZs ds = true := by simpa [okZs] using ok
        have hs' : d.showable = true ∧ PyData.showableAll ds = true := by simpa [PyData.showableAll] using hs
        simp only [PyData.shownAll] at hz
        obtain ⟨b1, hb1, k1⟩ := shK I d _ _ ok'.1 h1 r1 hs'.1 (hz _ List.mem_cons_self)
        obtain ⟨b2, hb2, k2⟩ := shAll I ds _ _ ok'.2 h2 r2 hs'.2 fun t ht => hz t (List.mem_cons_of_mem _ ht)
        refine ⟨b1 ++ b2, ?_, ?_⟩
        · exact (hb1.mono (by simp only [PyData.depthAll]; omega)).append (hb2.mono (by simp only [PyData.depthAll]; omega))
        · simp only [PyData.depthAll, PyData.shownAll]
          exact .cons ((k1.more fun b hb => List.mem_append_left _ hb).level_le (Nat.le_max_left _ _)) (k2.more_le (fun b hb => List.mem_append_right _ hb) (Nat.le_max_right _ _))
end
end
def cReprZ : CaT := fun ds R => cRepr ds R ∨ ∃ d, ds = [d] ∧ okZ d = true ∧ (d.isTuple = true ∨ d.isList = true) ∧ d.showable = true ∧ d.depth ≤ 60 ∧ d.shown.length ≤ sizeLine ∧ R (.str d.shown)
theorem cad_reprZ (hu : Un X) (hg : X.A.guards = some []) : CaD X (.builtin "repr") cReprZ := by
  intro pins s σ H vs us Q I rv ⟨W, ds, R, w, r, q, k⟩
  rcases q with q | ⟨d, hd, hok, ht, h1, h2, h3, q⟩
  · exact cad_repr hu hg pins s σ H vs us Q I rv ⟨W, ds, R, w, r, q, k⟩
  · unfold Un at hu
    subst hd
    obtain ⟨v, rfl, a⟩ := repsC1 r
    obtain ⟨u, rfl, ru⟩ := vals1 rv
    obtain ⟨as, rd, _⟩ := a.reads I ru
    cases d with
    | tuple ts =>
      obtain ⟨p, xs, rfl, g1, g2⟩ := a.tuple
      cases ru
      obtain ⟨its, rv', ⟨o, ho, hc, n, hd⟩, _⟩ := I.tuple g1.sq
      have hz' : (tupleText (PyData.shownAll ts)).length ≤ sizeLine := by simpa only [PyData.shown] using h3
      obtain ⟨bs, hb, hk⟩ := shAll I ts _ its hok g2 rv' (by simpa [PyData.showable] using h1) fun t ht => Nat.le_trans (tupleText_mem_le ht) hz'
      have hna := not_mem_of_deeper rd (by simp only [PyData.depth]; omega) hb
      simp only [PyData.depth] at h2
      simp only [PyData.shown] at q
      refine call_repr_slot (by omega) ⟨o, ho, hc⟩ F.slot_tuple_repr (call_tuple_reprK ho hc hd hna hk hg (fun b _ => Clear.nil b) (by show X.A.units + 1 + _ < cLine; omega) (fun _ _ e => e) (fun h' u tk kp => ⟨_, _, rfl, ⟨.str _, H, I.kept kp, ⟨_, rfl⟩, k _ _ H (Same.refl H) (.str _) q⟩⟩) hz')
    | list ts =>
      obtain ⟨p, xs, rfl, g1, g2⟩ := a.list
      cases ru
      obtain ⟨its, rv', ⟨o, n, ho, hc, _, hd⟩, _⟩ := I.list g1
      have hz' : (listText (PyData.shownAll ts)).length ≤ sizeLine := by simpa only [PyData.shown] using h3
      obtain ⟨bs, hb, hk⟩ := shAll I ts _ its hok g2 rv' (by simpa [PyData.showable] using h1) fun t ht => Nat.le_trans (listText_mem_le ht) hz'
      have hna := not_mem_of_deeper rd (by simp only [PyData.depth]; omega) hb
      simp only [PyData.depth] at h2
      simp only [PyData.shown] at q
      cases its with
      | nil =>
        cases rv'; cases g2
        simp only [PyData.shownAll, listText_nil] at q
        exact call_repr_slot (by omega) ⟨o, ho, hc⟩ F.slot_list_repr.toG (call_list_repr_empty ⟨o, ho, hc⟩ ho hd ⟨_, _, rfl, ⟨.str _, H, I.tok _, ⟨_, rfl⟩, k _ _ H (Same.refl H) (.str _) q⟩⟩)
      | cons y l =>
        exact call_repr_slot (by omega) ⟨o, ho, hc⟩ F.slot_list_repr.toG (call_list_reprK ho hc hd hna (by simpa using hk.length_eq) (fun i y e => hk.item i y (by simpa using e)) hg (fun b _ => Clear.nil b) (by show X.A.units + 1 + _ < cLine; omega) (fun _ _ e => e) (fun h' u tk kp => ⟨_, _, rfl, ⟨.str _, H, I.kept kp, ⟨_, rfl⟩, k _ _ H (Same.refl H) (.str _) q⟩⟩) hz')
    | _ => rcases ht with ht | ht <;> cases ht
end
/-- {} -/
theorem qe_dict0 {g : Gh} {X : Cx} {pos : Pos} : QE g X (.Dict [] [] pos) (qC (.dict [])) :=
  ⟨pe_imp pe_dnewK fun σ H Q ⟨W, ρ, R, S, q, k⟩ p hp => k _ _ _ (St.newT S hp).1 (St.newT S hp).2 (.dct (S.fresh hp) upd_same .nil) q⟩
end PL
end

section
set_option Elab.async false
set_option linter.all false
set_option maxRecDepth 100000
set_option maxHeartbeats 4000000
namespace HT
open PySem PyProof.Rows PySem.SeqAt PySem.MeetsSeq PySem.MeetsSeq2 PySem.MeetsSeq3
section
variable {prog : Program} {w : World} {A : Around} {E : Value → Shared → Prop} {s : Shared}
theorem sliceApplied_rev {sl : Addr} {vl vu vk : Value} {n : Nat} {Q : Int × Int × Nat → Shared → Prop} (hs : s.heap.IsSliceOf sl vl vu vk) (pl : IsPart vl none) (pu : IsPart vu none) (pk : IsPart vk (some (-1)))
    (h : Q ((n : Int) - 1, -1, n) s) : wpAny (model prog w) A (Builtin.Slice.sliceApplied (.ref sl) (pure (n : Int))) Q E s := by
  obtain ⟨os, hos, hcs, hds⟩ := id hs
  unfold Builtin.Slice.sliceApplied Builtin.Slice.sliceFields
  refine wpAny_bind (wpAny_bind (wpAny_field hos hds (x := vl) rfl (wpAny_bind (wpAny_field hos hds (x := vu) rfl (wpAny_bind (wpAny_field hos hds (x := vk) rfl (wpAny_pure ?_)))))))
  refine wpAny_bind (slicePart_ pk ?_)
  show wpAny _ _ (if ((-1 : Int) == 0) = true then _ else _) _ _ s
  rw [if_neg (by decide)]
  refine wpAny_bind (slicePart_ pl (wpAny_bind (slicePart_ pu (wpAny_bind (wpAny_pure ?_)))))
  show wpAny _ _ (match Builtin.Slice.sliceAdjust none none (-1) (n : Int) with | (lo, hi) => pure (lo, (-1 : Int), Builtin.Slice.slicePlaces lo hi (-1))) _ _ s
  have e1 : Builtin.Slice.sliceAdjust none none (-1) (n : Int) = ((n : Int) - 1, -1) := by
    unfold Builtin.Slice.sliceAdjust
    simp
  have e2 : Builtin.Slice.slicePlaces ((n : Int) - 1) (-1) (-1) = n := by
    unfold Builtin.Slice.slicePlaces
    rw [if_neg (by decide)]
    by_cases h : n = 0
    · subst h; rfl
    · rw [if_pos (by omega)]
      have : ((n : Int) - 1 - -1 - 1) / (- -1) + 1 = n := by simp
      rw [this, Int.toNat_natCast]
  rw [e1]
  show wpAny _ _ (pure ((n : Int) - 1, (-1 : Int), Builtin.Slice.slicePlaces ((n : Int) - 1) (-1) (-1))) _ _ s
  rw [e2]
  exact wpAny_pure h
theorem pick_rev (xs : Array Value) : ((List.range xs.size).filterMap fun (m : Nat) => xs[(((xs.size : Int) - 1) + (m : Int) * (-1)).toNat]?).toArray = xs.toList.reverse.toArray := by
  have e : ∀ m ∈ List.range xs.size, xs[(((xs.size : Int) - 1) + (m : Int) * (-1)).toNat]? = xs.toList.reverse[m]? := fun m hm => by
    have hm' := List.mem_range.mp hm
    rw [List.getElem?_reverse (by simpa using hm')]
    have : (((xs.size : Int) - 1) + (m : Int) * (-1)).toNat = xs.toList.length - 1 - m := by rw [Array.length_toList]; omega
    rw [this, Array.getElem?_toList]
  have e2 : ∀ l : List Value, (List.range l.length).filterMap (fun m => l[m]?) = l := fun l => by
    have := StrLaws.picks l l.length 0 (by omega)
    simpa using this
  have cg : ∀ (l : List Nat) (f g : Nat → Option Value), (∀ m ∈ l, f m = g m) → l.filterMap f = l.filterMap g := fun l f g h => by
    induction l with
    | nil => rfl
    | cons a l ih => rw [List.filterMap_cons, List.filterMap_cons, h a List.mem_cons_self, ih fun m hm => h m (List.mem_cons_of_mem _ hm)]
  rw [cg _ _ _ e]
  have := e2 xs.toList.reverse
  rw [List.length_reverse, Array.length_toList] at this
  rw [this]
theorem getItem_tuple_rev {t sl : Addr} {items : Array Value} {vl vu vk : Value} {Q : Value → Shared → Prop} (ht : IsTup s.heap t items) (hs : s.heap.IsSliceOf sl vl vu vk) (pl : IsPart vl none) (pu : IsPart vu none) (pk : IsPart vk (some (-1)))
    (h : Q (.ref s.heap.objs.size) { s with heap := s.heap.push { cls := .type "tuple", data := .seq items.toList.reverse.toArray } })
    (hsz : items.size ≤ sizeLine) : wpAny (model prog w) A (getItem (.ref t) (.ref sl)) Q E s := by
  have htake : sizeOk (.seq items.toList.reverse.toArray) := by
    show items.toList.reverse.toArray.size ≤ sizeLine
    rw [List.size_toArray, List.length_reverse, Array.length_toList]
    exact hsz
  obtain ⟨os, hos, hcs, hds⟩ := id hs
  have hTs : s.TypeIs (.ref sl) "slice" := ⟨os, hos, hcs⟩
  unfold getItem
  try with_reducible refine wpAny_holding ?_
  first | refine wpAny_bind (wpAny_pure ?_) | skip
  refine wpAny_bind (wpAny_sequenceKey ht.typeIs (by decide) ?_)
  refine wpAny_bind (wpAny_callSpecial?_slot (name := Str.ofString "__getitem__") ht.typeIs PyProof.Rows.slot_tuple_getitem
    (wpAny_call_entry PyProof.Rows.slot_tuple_getitem ht.typeIs entry_tuple_getitem ?_ (args_tuple_getitem _ _)))
  show wpAny _ _ (Builtin.Tuple.tupleItemsOf (.ref t) >>= _) _ _ s
  refine wpAny_bind (tupleItemsOf_ ht ?_)
  refine wpAny_bind (wpAny_typeOf hTs ?_)
  rw [if_pos (by decide)]
  refine wpAny_bind (sliceApplied_rev hs pl pu pk ?_)
  have hno : ¬ ((((items.size : Int) - 1) == 0 && (-1 : Int) == 1 && items.size == items.size) = true) := by simp
  show wpAny _ _ (if (((items.size : Int) - 1) == 0 && (-1 : Int) == 1 && items.size == items.size) = true then _ else _) _ _ s
  rw [if_neg hno, pick_rev]
  first
    | exact wpAny_bind (m := Builtin.Tuple.tupleExact _) (wpAny_newObj_type (wpAny_pure ⟨_, rfl, wpAny_pure h⟩) htake)
    | exact wpAny_bind (m := Builtin.Tuple.tupleExact _) (wpAny_newObj_type (wpAny_bind (wpAny_pure (wpAny_pure ⟨_, rfl, wpAny_pure h⟩))) htake)
    | exact wpAny_bind (wpAny_bind (m := Builtin.Tuple.tupleExact _) (wpAny_newObj_type (wpAny_pure (wpAny_pure ⟨_, rfl, wpAny_pure h⟩)) htake))
    | exact wpAny_bind (wpAny_bind (m := Builtin.Tuple.tupleExact _) (wpAny_newObj_type (wpAny_pure ⟨_, rfl, wpAny_pure h⟩) htake))
end
end HT
namespace PL
open PySem PySem.Spec PyProof.Rows L2
section
variable {g : Gh} {X : Cx} {a k : Expr} {ta tk : TrE} {pos p2 : Pos}
theorem Reps.reverse {K : Fg} {W : AP} {H : Hp} : ∀ {xs : List V} {ds : List D}, Reps K W H xs ds → Reps K W H xs.reverse ds.reverse
  | _, _, .nil => .nil
  | _, _, .cons h r => by
    rw [List.reverse_cons, List.reverse_cons]
    exact r.reverse.append (.cons h .nil)
theorem vals_reverse : ∀ {xs : List V} {us : List Value}, Vals xs us → Vals xs.reverse us.reverse
  | _, _, .nil => .nil
  | _, _, .cons h r => by
    rw [List.reverse_cons, List.reverse_cons]
    exact (vals_reverse r).append (.cons h .nil)
/-- t[::-1] of a tuple -/
theorem pe_rev {te : TE} {th : TO} (he : PE X a te) (hk : PO X (some k) th) : PE X (.Subscript a (.Slice none none (some k) p2) pos) (fun σ H Q => te σ H fun x H1 => th σ H1 fun o H2 => o = some (-1) ∧ ∃ a xs, x = .ref a ∧ SqT X.K H2 a xs ∧ ∀ p o, H2 p = none → FzT o xs.reverse → Q (.ref p) (upd H2 p o)) := by
  refine ⟨fun pins s σ H Q I h => ?_⟩
  refine Subscript_ (thn (he.run pins s σ H _ I h) fun v s1 ⟨x, H1, I1, r1, q1⟩ => ?_)
  refine wpAny_Slice ?_
  rw [evalPart_none]
  refine wpAny_pure ?_
  refine wpAny_pure ?_
  refine thn (hk.run pins s1 σ H1 _ I1 q1) fun vk s2 ⟨o, H2, I2, pk, ho, a', xs, hx, hq, q2⟩ => ?_
  subst ho; subst hx
  cases r1
  have I4 : Inv X pins σ H2 { s2 with heap := s2.heap.push { cls := .type "slice", data := .fields #[.none, .none, vk] } } := I2.kept (t' := s2.toks) fun b ob q => Heap.get?_push_of_some _ q
  obtain ⟨its, r, ht, hz⟩ := I4.tuple hq
  have hlen : its.toArray.size = xs.length := by rw [List.size_toArray]; exact r.length.symm
  show wpAny (model X.prog X.w) X.A (subscriptTail a (.Slice none none (some k) p2) (.ref a') (.ref s2.heap.objs.size)) (EP X pins σ Q) X.xe { s2 with heap := s2.heap.push { cls := .type "slice", data := .fields #[.none, .none, vk] } }
  refine tail_any (ops := [.ref a', .ref s2.heap.objs.size]) ht.typeIs PyProof.Rows.slot_tuple_getitem.lookup (HT.getItem_tuple_rev ht (Heap.IsSliceOf.new ..) .none .none pk ?_ (by rw [hlen]; exact hz)) (by with_unfolding_all rfl)
  obtain ⟨o, ho, I5, hf⟩ := laidT (t' := s2.toks) (us := its.reverse) (xs := xs.reverse) I4 (vals_reverse r) (by rw [List.length_reverse]; exact hz)
  exact ⟨.ref _, _, I5, rfl, q2 _ _ hf ho⟩
def qRev (ta tk : TrE) : TrE := fun ρ R => ta ρ fun d => tk ρ fun e => e = .int (-1) ∧ ∃ xs, d = .tuple xs ∧ R (.tuple xs.reverse)
theorem qe_rev (ha : QB g X a ta) (hk : QB g X k tk) : QE g X (.Subscript a (.Slice none none (some k) p2) pos) (qRev ta tk) :=
  ⟨pe_imp (pe_rev ha.run (po_some hk.run)) fun σ H Q ⟨W, ρ, R, S, q, kk⟩ => ⟨W, ρ, _, S, q, fun v d H1 S1 E1 r1 q1 => ⟨W, ρ, _, S1, q1, fun u e H2 S2 E2 r2 ⟨he, xs, hd, q2⟩ => by
    subst he; subst hd
    obtain ⟨p, ys, rfl, g1, g2⟩ := ((r1.evo E2).c S2).tuple
    exact ⟨-1, (r2.c S2).int, rfl, p, ys, rfl, g1.sq, fun p2 o hp hf => kk _ _ _ (St.newT S2 hp).1 ((E1.trans E2).trans (St.newT S2 hp).2) (rep_newT S2.wH hp hf g2.reverse) q2⟩⟩⟩⟩
end
end PL
end

section
set_option Elab.async false
set_option linter.all false
set_option maxRecDepth 100000
set_option maxHeartbeats 4000000
namespace PL
open PySem PySem.Spec PyProof.Rows L2
/-! ### good data: no dicts, texts not too long, not too deep -/
mutual
def good : D → Bool
  | .str x => decide (x.length ≤ 100000)
  | .list ds => goods ds
  | .tuple ds => goods ds
  | .dict _ => false
  | _ => true
def goods : List D → Bool
  | [] => true
  | d :: ds => good d && goods ds
end
theorem goods_iff {ds : List D} : goods ds = true ↔ ∀ d ∈ ds, good d = true := by
  induction ds with
  | nil => simp [goods]
  | cons d ds ih => simp [goods, ih]
def Gd (d : D) : Prop := good d = true ∧ d.depth ≤ 40
mutual
theorem good_plain : ∀ d : D, good d = true → d.plain = true
  | .none, _ => rfl
  | .bool _, _ => rfl
  | .int _, _ => rfl
  | .str _, _ => rfl
  | .list ds, h => by simp only [PyData.plain]; exact goods_plain ds (by simpa [good] using h)
  | .tuple ds, h => by simp only [PyData.plain]; exact goods_plain ds (by simpa [good] using h)
  | .dict _, h => by simp [good] at h
theorem goods_plain : ∀ ds : List D, goods ds = true → PyData.plainAll ds = true
  | [], _ => rfl
  | d :: ds, h => by
    simp only [goods, Bool.and_eq_true] at h
    simp only [PyData.plainAll, Bool.and_eq_true]
    exact ⟨good_plain d h.1, goods_plain ds h.2⟩
end
theorem depth_mem {ds : List D} {d : D} (h : d ∈ ds) : d.depth ≤ PyData.depthAll ds := by
  induction ds with
  | nil => cases h
  | cons e ds ih =>
    simp only [PyData.depthAll]
    rcases List.mem_cons.mp h with rfl | h
    · omega
    · have := ih h
      omega
theorem Gd.mem {ds : List D} {d : D} (h : Gd (.tuple ds) ∨ Gd (.list ds)) (hd : d ∈ ds) : Gd d := by
  have h' : goods ds = true ∧ PyData.depthAll ds + 1 ≤ 40 := by
    rcases h with ⟨h1, h2⟩ | ⟨h1, h2⟩
    · exact ⟨by simpa [good] using h1, by simpa [PyData.depth] using h2⟩
    · exact ⟨by simpa [good] using h1, by simpa [PyData.depth] using h2⟩
  exact ⟨goods_iff.mp h'.1 d hd, by have := depth_mem hd; omega⟩
theorem Gd.plain {d : D} (h : Gd d) : d.plain = true := good_plain d h.1
mutual
theorem eqv_self : ∀ d : D, d.plain = true → PyData.eqv d d = true
  | .none, _ => rfl
  | .bool b, _ => by simp [PyData.eqv]
  | .int i, _ => by simp [PyData.eqv]
  | .str x, _ => by simp [PyData.eqv]
  | .list ds, h => by simp only [PyData.eqv]; exact eqvAll_self ds (by simpa [PyData.plain] using h)
  | .tuple ds, h => by simp only [PyData.eqv]; exact eqvAll_self ds (by simpa [PyData.plain] using h)
  | .dict _, h => by simp [PyData.plain] at h
theorem eqvAll_self : ∀ ds : List D, PyData.plainAll ds = true → PyData.eqvAll ds ds = true
  | [], _ => rfl
  | d :: ds, h => by
    simp only [PyData.plainAll, Bool.and_eq_true] at h
    simp only [PyData.eqvAll, Bool.and_eq_true]
    exact ⟨eqv_self d h.1, eqvAll_self ds h.2⟩
end

/-! ### texts of one sign -/
abbrev sg (c : Nat) : D := .str ⟨#[c]⟩
theorem in_sg (a : List Nat) (c : Nat) : inStr ⟨#[c]⟩ ⟨a.toArray⟩ = decide (c ∈ a) := StrLaws.found_one ⟨a.toArray⟩ c
theorem one_sg {x : Str} (h : x.length = 1) : ∃ c, x = ⟨#[c]⟩ := by
  obtain ⟨⟨l⟩⟩ := x
  match l, h with
  | [c], _ => exact ⟨c, rfl⟩
theorem kinds_list : ("abcxyz" : Str) = ⟨[97, 98, 99, 120, 121, 122].toArray⟩ := by decide +kernel
theorem aging_list : ("abc" : Str) = ⟨[97, 98, 99].toArray⟩ := by decide +kernel
theorem signs_list : ("xyz" : Str) = ⟨[120, 121, 122].toArray⟩ := by decide +kernel
theorem in_kinds (c : Nat) : inStr ⟨#[c]⟩ "abcxyz" = decide (c ∈ [97, 98, 99, 120, 121, 122]) := by rw [kinds_list]; exact in_sg _ _
theorem in_aging (c : Nat) : inStr ⟨#[c]⟩ "abc" = decide (c ∈ [97, 98, 99]) := by rw [aging_list]; exact in_sg _ _
theorem in_signs (c : Nat) : inStr ⟨#[c]⟩ "xyz" = decide (c ∈ [120, 121, 122]) := by rw [signs_list]; exact in_sg _ _

/-! ### things: a kind's sign, an age -/
abbrev Th := Nat × Nat
def thD (t : Th) : D := .tuple [sg t.1, .int t.2]
def ltT (a b : Th) : Bool := decide (a.1 < b.1 ∨ (a.1 = b.1 ∧ a.2 < b.2))
def leT (a b : Th) : Bool := !ltT b a
theorem eqv_sg (a b : Nat) : PyData.eqv (sg a) (sg b) = decide (a = b) := by
  simp only [PyData.eqv]
  by_cases h : a = b
  · subst h; simp
  · simp [h]
theorem eqv_th (a b : Th) : PyData.eqv (thD a) (thD b) = decide (a = b) := by
  unfold thD
  simp only [PyData.eqv, PyData.eqvAll, Bool.and_true]
  obtain ⟨a1, a2⟩ := a
  obtain ⟨b1, b2⟩ := b
  by_cases h : a1 = b1 <;> by_cases h2 : a2 = b2 <;> simp [h, h2] <;> omega
theorem thD_inj {a b : Th} (h : thD a = thD b) : a = b := by
  have z := eqv_th a b
  rw [h, eqv_th] at z
  simpa using z
theorem lt_th (a b : Th) : PySem.W.dataLt (thD a) (thD b) = ltT a b := by
  unfold thD
  rw [PySem.W.dataLt_pair (by simp [PySem.W.alike]) (by simp [PySem.W.alike]), PySem.W.dataLt_str, PySem.W.dataLt_int, eqv_sg]
  unfold ltT
  simp only [PyData.eqv]
  by_cases h1 : a.1 = b.1 <;> by_cases h2 : a.2 = b.2 <;> simp [h1, h2, List.cons_lt_cons_iff] <;> omega
def sortT (ts : List Th) : List Th := ts.mergeSort leT
theorem le_th (a b : Th) : PySem.W.dataLe false id (thD a) (thD b) = leT a b := by
  show (!PySem.W.dataLt (thD b) (thD a)) = _
  rw [lt_th]
  rfl
theorem sortD_th (ts : List Th) : sortD (ts.map thD) = (sortT ts).map thD :=
  (PySem.W.sort_maps (r := leT) (s := PySem.W.dataLe false id) thD (l := ts) fun a _ b _ => (le_th a b).symm).symm
theorem alike_th (a b : Th) : PySem.W.alike (thD a) (thD b) = true := by simp [thD, PySem.W.alike, PySem.W.alikeAll]
theorem depth_th (a : Th) : (thD a).depth = 1 := by simp [thD, PyData.depth, PyData.depthAll]
theorem plain_th (a : Th) : (thD a).plain = true := by simp [thD, PyData.plain, PyData.plainAll]
theorem leT_total (a b : Th) : leT a b = true ∨ leT b a = true := by
  unfold leT ltT
  simp only [Bool.not_eq_true', decide_eq_false_iff_not]
  omega
theorem leT_trans (a b c : Th) (h1 : leT a b = true) (h2 : leT b c = true) : leT a c = true := by
  unfold leT ltT at *
  simp only [Bool.not_eq_true', decide_eq_false_iff_not] at *
  omega
theorem sortT_sorted (ts : List Th) : (sortT ts).Pairwise (fun a b => leT a b = true) :=
  List.pairwise_mergeSort leT_trans (fun a b => by have := leT_total a b; simpa [Bool.or_eq_true] using this) ts
theorem sortT_perm (ts : List Th) : (sortT ts).Perm ts := List.mergeSort_perm ts leT
theorem sortT_length (ts : List Th) : (sortT ts).length = ts.length := (sortT_perm ts).length_eq
theorem sortT_mem {ts : List Th} {t : Th} : t ∈ sortT ts ↔ t ∈ ts := (sortT_perm ts).mem_iff
theorem sortT_self {ts : List Th} (h : ts.Pairwise (fun a b => leT a b = true)) : sortT ts = ts := List.mergeSort_of_pairwise h
def hallD (ts : List Th) : D := .tuple (ts.map thD)
def okT (most : Nat) (t : Th) : Prop := (t.1 ∈ [97, 98, 99] ∧ t.2 ≤ most) ∨ (t.1 ∈ [120, 121, 122] ∧ t.2 = 0)
structure Hall (most many : Nat) (ts : List Th) : Prop where
  ok : ∀ t ∈ ts, okT most t
  sorted : ts.Pairwise (fun a b => leT a b = true)
  len : ts.length ≤ many

/-! ### what is a thing, a hall: by looks -/
def isKind : D → Bool
  | .str x => decide (x.length = 1) && inStr x "abcxyz"
  | _ => false
def isAging : D → Bool
  | .str x => inStr x "abc"
  | _ => false
def between (d : D) (lo hi : Int) : Bool := match d with
  | .int i => decide (lo ≤ i) && decide (i ≤ hi)
  | _ => false
def isThing (most : Nat) : D → Bool
  | .tuple [k, v] => isKind k && between v 0 (if isAging k then (most : Int) else 0)
  | _ => false
def inTurn (xs : List D) : Bool := (xs.zip xs.tail).all fun p => !PySem.W.dataLt p.2 p.1
def isThings (most many : Nat) : D → Bool
  | .tuple xs => decide (xs.length ≤ many) && (xs.all (isThing most) && inTurn xs)
  | _ => false
theorem isKind_sg {k : D} (h : isKind k = true) : ∃ c, k = sg c ∧ c ∈ [97, 98, 99, 120, 121, 122] := by
  cases k with
  | str x =>
    simp only [isKind, Bool.and_eq_true, decide_eq_true_eq] at h
    obtain ⟨c, rfl⟩ := one_sg h.1
    rw [in_kinds] at h
    exact ⟨c, rfl, of_decide_eq_true h.2⟩
  | _ => cases h
theorem isKind_of (c : Nat) : isKind (sg c) = decide (c ∈ [97, 98, 99, 120, 121, 122]) := by
  show (decide ((⟨#[c]⟩ : Str).length = 1) && inStr ⟨#[c]⟩ "abcxyz") = _
  rw [in_kinds, show decide ((⟨#[c]⟩ : Str).length = 1) = true from rfl, Bool.true_and]
theorem isAging_of (c : Nat) : isAging (sg c) = decide (c ∈ [97, 98, 99]) := in_aging c
theorem isThing_th (most : Nat) (t : Th) : isThing most (thD t) = true ↔ okT most t := by
  obtain ⟨k, a⟩ := t
  show (isKind (sg k) && between (.int a) 0 (if isAging (sg k) then (most : Int) else 0)) = true ↔ _
  rw [isKind_of, isAging_of]
  unfold okT between
  by_cases h : k ∈ [97, 98, 99]
  · simp only [h, decide_true, if_true, Bool.and_eq_true, decide_eq_true_eq]
    have h' : k ∈ [97, 98, 99, 120, 121, 122] := by simp at h ⊢; omega
    have h2 : k ∉ [120, 121, 122] := by simp at h ⊢; omega
    simp only [h', h2, true_and, false_and, or_false]
    omega
  · simp only [h, decide_false, Bool.false_eq_true, if_false, Bool.and_eq_true, decide_eq_true_eq, false_and, false_or]
    constructor
    · rintro ⟨h1, h2, h3⟩
      refine ⟨?_, by omega⟩
      simp at h h1 ⊢; omega
    · rintro ⟨h1, rfl⟩
      refine ⟨?_, by omega, by omega⟩
      simp at h1 ⊢; omega
theorem thing_of {most : Nat} {d : D} (h : isThing most d = true) : ∃ t, d = thD t ∧ okT most t := by
  have key : ∃ k i, d = .tuple [k, .int i] ∧ isKind k = true ∧ 0 ≤ i := by
    cases d with
    | tuple xs =>
      match xs, h with
      | [k, v], h =>
        simp only [isThing, Bool.and_eq_true] at h
        cases v with
        | int i =>
          simp only [between, Bool.and_eq_true, decide_eq_true_eq] at h
          exact ⟨k, i, rfl, h.1, h.2.1⟩
        | _ => simp [between] at h
    | _ => simp [isThing] at h
  obtain ⟨k, i, rfl, hk, hi⟩ := key
  obtain ⟨c, rfl, _⟩ := isKind_sg hk
  have e : (PyData.tuple [sg c, .int i] : D) = thD (c, i.toNat) := by
    unfold thD
    rw [Int.toNat_of_nonneg hi]
  rw [e] at h ⊢
  exact ⟨_, rfl, (isThing_th most _).mp h⟩
theorem things_of {most : Nat} : ∀ {xs : List D}, xs.all (isThing most) = true → ∃ ts : List Th, xs = ts.map thD ∧ ∀ t ∈ ts, okT most t
  | [], _ => ⟨[], rfl, fun _ h => nomatch h⟩
  | d :: xs, h => by
    simp only [List.all_cons, Bool.and_eq_true] at h
    obtain ⟨t, rfl, h1⟩ := thing_of h.1
    obtain ⟨ts, rfl, h2⟩ := things_of h.2
    exact ⟨t :: ts, rfl, fun u hu => by
      rcases List.mem_cons.mp hu with rfl | hu
      · exact h1
      · exact h2 u hu⟩
theorem inTurn_iff (ts : List Th) : inTurn (ts.map thD) = true ↔ ts.Pairwise (fun a b => leT a b = true) := by
  induction ts with
  | nil => simp [inTurn]
  | cons a ts ih =>
    cases ts with
    | nil => simp [inTurn]
    | cons b ts =>
      have e : inTurn ((a :: b :: ts).map thD) = (leT a b && inTurn ((b :: ts).map thD)) := by
        unfold inTurn
        simp only [List.map_cons, List.tail_cons, List.zip_cons_cons, List.all_cons, lt_th]
        rfl
      rw [e, Bool.and_eq_true, ih, List.pairwise_cons (a := a)]
      constructor
      · rintro ⟨h1, h2⟩
        refine ⟨fun c hc => ?_, h2⟩
        rcases List.mem_cons.mp hc with rfl | hc
        · exact h1
        · exact leT_trans _ _ _ h1 ((List.pairwise_cons.mp h2).1 c hc)
      · rintro ⟨h1, h2⟩
        exact ⟨h1 b List.mem_cons_self, h2⟩
theorem isThings_hall (most many : Nat) (ts : List Th) : isThings most many (hallD ts) = true ↔ Hall most many ts := by
  unfold hallD isThings
  simp only [List.length_map, Bool.and_eq_true, decide_eq_true_eq, inTurn_iff, List.all_map, List.all_eq_true, Function.comp]
  constructor
  · rintro ⟨h1, h2, h3⟩
    exact ⟨fun t ht => (isThing_th most t).mp (h2 t ht), h3, h1⟩
  · rintro ⟨h1, h2, h3⟩
    exact ⟨h3, fun t ht => (isThing_th most t).mpr (h1 t ht), h2⟩
theorem hall_of {most many : Nat} {d : D} (h : isThings most many d = true) : ∃ ts, d = hallD ts ∧ Hall most many ts := by
  cases d with
  | tuple xs =>
    have h' : (decide (xs.length ≤ many) && (xs.all (isThing most) && inTurn xs)) = true := h
    simp only [Bool.and_eq_true] at h'
    obtain ⟨ts, rfl, _⟩ := things_of h'.2.1
    exact ⟨ts, rfl, (isThings_hall most many ts).mp h⟩
  | _ => cases h
theorem good_hall {most : Nat} {ts : List Th} : Gd (hallD ts) := by
  constructor
  · show goods (ts.map thD) = true
    rw [goods_iff]
    intro d hd
    obtain ⟨t, _, rfl⟩ := List.mem_map.mp hd
    simp [thD, good, goods, Str.length]
  · have : ∀ us : List Th, PyData.depthAll (us.map thD) ≤ 1 := fun us => by
      induction us with
      | nil => simp [PyData.depthAll]
      | cons u us ih => simp only [List.map_cons, PyData.depthAll, depth_th]; omega
    show PyData.depthAll (ts.map thD) + 1 ≤ 40
    have := this ts
    omega
end PL
end

section
set_option Elab.async false
set_option linter.all false
set_option maxRecDepth 100000
set_option maxHeartbeats 4000000
namespace PL
open PySem PySem.Spec PyProof.Rows L2
/-! ### simp's own -/
@[simp] theorem gNc_cons (t : TrG) (u : TrGs) (d : D) (r : List D) (ρ : En) (P : En → Prop) : gNc t u (d :: r) ρ P ↔ t d ρ fun ρ' => u r ρ' P := by
  unfold gNc
  constructor
  · rintro ⟨d', r', e, h⟩
    obtain ⟨rfl, rfl⟩ : d = d' ∧ r = r' := by simpa using e
    exact h
  · exact fun h => ⟨d, r, rfl, h⟩
@[simp] theorem gN0_nil (ρ : En) (P : En → Prop) : gN0 [] ρ P ↔ P ρ := by simp [gN0]
@[simp] theorem gTp_tup (n : Nat) (t : TrGs) (ds : List D) (ρ : En) (P : En → Prop) : gTp n t (.tuple ds) ρ P ↔ ds.length = n ∧ t ds ρ P := by
  unfold gTp
  constructor
  · rintro ⟨d', e, h⟩
    obtain rfl : ds = d' := by simpa using e
    exact h
  · exact fun h => ⟨ds, rfl, h⟩
@[simp] theorem gLs_lst (n : Nat) (t : TrGs) (ds : List D) (ρ : En) (P : En → Prop) : gLs n t (.list ds) ρ P ↔ ds.length = n ∧ t ds ρ P := by
  unfold gLs
  constructor
  · rintro ⟨d', e, h⟩
    obtain rfl : ds = d' := by simpa using e
    exact h
  · exact fun h => ⟨ds, rfl, h⟩
@[simp] theorem gNm_ (i : Nat) (d : D) (ρ : En) (P : En → Prop) : gNm i d ρ P ↔ P (ρ.set i (.val d)) := Iff.rfl
@[simp] theorem cMin2_int (i j : Int) (R : D → Prop) : cMin2 [.int i, .int j] R ↔ R (.int (min i j)) := by simp [cMin2, and_assoc]
@[simp] theorem cMax2_int (i j : Int) (R : D → Prop) : cMax2 [.int i, .int j] R ↔ R (.int (max i j)) := by simp [cMax2, and_assoc]
@[simp] theorem cAbs_int (i : Int) (R : D → Prop) : cAbs [.int i] R ↔ R (.int i.natAbs) := by simp [cAbs]
@[simp] theorem cInt_int (i : Int) (R : D → Prop) : cInt [.int i] R ↔ R (.int i) := by simp [cInt]
@[simp] theorem cInt_bool (b : Bool) (R : D → Prop) : cInt [.bool b] R ↔ R (.int (if b then 1 else 0)) := by simp [cInt]
@[simp] theorem oInt_int (f : Int → Int → Int) (i j : Int) (R : D → Prop) : oInt f (.int i) (.int j) R ↔ R (.int (f i j)) := by simp [oInt, and_assoc]
@[simp] theorem oIntC_int (C : Int → Int → Prop) (f : Int → Int → Int) (i j : Int) (R : D → Prop) : oIntC C f (.int i) (.int j) R ↔ C i j ∧ R (.int (f i j)) := by simp [oIntC, and_assoc]
@[simp] theorem oIsB_bool (a b : Bool) (R : D → Prop) : oIsB (.bool a) (.bool b) R ↔ R (.bool (decide (a = b))) := by simp [oIsB, and_assoc]
@[simp] theorem oRepT_ (xs : List D) (k : Int) (R : D → Prop) : oRepT (.tuple xs) (.int k) R ↔ -1000 ≤ k ∧ k ≤ 1000 ∧ xs.length ≤ 1000 ∧ R (.tuple (List.replicate k.toNat xs).flatten) := by simp [oRepT, and_assoc]
@[simp] theorem oRepL_ (xs : List D) (k : Int) (R : D → Prop) : oRepL (.list xs) (.int k) R ↔ 0 ≤ k ∧ k ≤ 1000 ∧ xs.length ≤ 1000 ∧ R (.list (List.replicate k.toNat xs).flatten) := by simp [oRepL, and_assoc]
@[simp] theorem oLe_int (i j : Int) (R : D → Prop) : oLe (.int i) (.int j) R ↔ R (.bool (decide (i ≤ j))) := by
  have : (!decide (j < i)) = decide (i ≤ j) := by by_cases h : j < i <;> by_cases h2 : i ≤ j <;> simp [h, h2] <;> omega
  simp [oLe, AlC, PySem.W.alike, PyData.depth, PySem.W.dataLt_int, this]
@[simp] theorem oGe_int (i j : Int) (R : D → Prop) : oGe (.int i) (.int j) R ↔ R (.bool (decide (j ≤ i))) := by
  have : (!decide (i < j)) = decide (j ≤ i) := by by_cases h : i < j <;> by_cases h2 : j ≤ i <;> simp [h, h2] <;> omega
  simp [oGe, AlC, PySem.W.alike, PyData.depth, PySem.W.dataLt_int, this]
@[simp] theorem oLt_int (i j : Int) (R : D → Prop) : oLt (.int i) (.int j) R ↔ R (.bool (decide (i < j))) := by
  simp [oLt, AlC, PySem.W.alike, PyData.depth, PySem.W.dataLt_int]
@[simp] theorem oGt_int (i j : Int) (R : D → Prop) : oGt (.int i) (.int j) R ↔ R (.bool (decide (j < i))) := by
  simp [oGt, AlC, PySem.W.alike, PyData.depth, PySem.W.dataLt_int]
@[simp] theorem oEq_int (i j : Int) (R : D → Prop) : oEq (.int i) (.int j) R ↔ R (.bool (decide (i = j))) := by
  have : (i == j) = decide (i = j) := by by_cases h : i = j <;> simp [h]
  simp [oEq, PyData.plain, PyData.depth, PyData.eqv, this]
@[simp] theorem oNe_int (i j : Int) (R : D → Prop) : oNe (.int i) (.int j) R ↔ R (.bool (!decide (i = j))) := by
  have : (i == j) = decide (i = j) := by by_cases h : i = j <;> simp [h]
  simp [oNe, PyData.plain, PyData.depth, PyData.eqv, this]
@[simp] theorem oLe_th (a b : Th) (R : D → Prop) : oLe (thD a) (thD b) R ↔ R (.bool (leT a b)) := by
  have hc : AlC (thD a) (thD b) := ⟨alike_th a b, by simp [thD], by rw [depth_th, depth_th]; decide⟩
  simp [oLe, hc, lt_th, leT]
@[simp] theorem oAdd_int (i j : Int) (R : D → Prop) : oAdd (.int i) (.int j) R ↔ R (.int (i + j)) := by simp [oAdd]
@[simp] theorem oAdd_tup (xs ys : List D) (R : D → Prop) : oAdd (.tuple xs) (.tuple ys) R ↔ xs.length + ys.length ≤ sizeLine ∧ R (.tuple (xs ++ ys)) := Iff.rfl
@[simp] theorem oAdd_lst (xs ys : List D) (R : D → Prop) : oAdd (.list xs) (.list ys) R ↔ xs.length + ys.length ≤ sizeLine ∧ R (.list (xs ++ ys)) := Iff.rfl
@[simp] theorem cLen_lst (xs : List D) (R : D → Prop) : cLen [.list xs] R ↔ R (.int xs.length) := by simp [cLen]
@[simp] theorem cLen_tup (xs : List D) (R : D → Prop) : cLen [.tuple xs] R ↔ R (.int xs.length) := by simp [cLen]
theorem any_val {E : TrE} {ρ : En} {R : D → Prop} (C : D → Prop) (h : ∀ K : D → Prop, (∀ d, C d → K d) → E ρ K) (k : ∀ d, C d → R d) : E ρ R := h _ k
theorem any_tr {E : TrT} {ρ : En} {R : Bool → Prop} (C : Bool → Prop) (h : ∀ K : Bool → Prop, (∀ d, C d → K d) → E ρ K) (k : ∀ d, C d → R d) : E ρ R := h _ k
theorem any_lst {E : TrL} {ρ : En} {R : List D → Prop} (C : List D → Prop) (h : ∀ K : List D → Prop, (∀ d, C d → K d) → E ρ K) (k : ∀ d, C d → R d) : E ρ R := h _ k
theorem for_of {ti : TrI} {tt : TrG} {tb : TrS} {B : EnB} {ρ : En} (C : List D → Prop) (P : List D → En → Prop) (hi : ∀ J : List D → Prop, (∀ ds, C ds → J ds) → ti ρ J) (h0 : ∀ ds, C ds → P ds ρ) (h1 : ∀ ρ', P [] ρ' → B.nx ρ')
    (h2 : ∀ d rest ρ', P (d :: rest) ρ' → tt d ρ' fun ρ2 => tb { B with nx := P rest, ct := P rest, bk := B.nx } ρ2) : qFor ti tt tb B ρ := hi _ fun ds hc => ⟨P, h0 ds hc, h1, h2⟩
theorem cut_sub {xs : List D} {lo hi : Option Int} {d : D} (h : d ∈ cutD xs lo hi) : d ∈ xs := List.mem_of_mem_drop (List.mem_of_mem_take h)
theorem cut_len (xs : List D) (lo hi : Option Int) : (cutD xs lo hi).length ≤ xs.length := by unfold cutD; simp; omega
theorem enumD_ints {xs : List D} (h : ∀ d ∈ xs, ∃ i : Int, d = .int i) : ∀ d ∈ enumD xs, ∃ u v : Int, d = .tuple [.int u, .int v] := by
  intro d hd
  unfold enumD at hd
  obtain ⟨⟨x, k⟩, hp, rfl⟩ := List.mem_map.mp hd
  have hx := List.of_mem_zip (List.zipIdx_eq_zip_range' ▸ hp)
  obtain ⟨i, rfl⟩ := h x hx.1
  exact ⟨_, _, rfl⟩
theorem ixN_lt {n : Nat} {i : Int} (h0 : 0 ≤ i) (h1 : i < n) : ixN n i = some i.toNat := by
  unfold ixN
  rw [if_pos h0, if_pos h1]
theorem atI_lt {α : Type} {xs : List α} {i : Int} (h0 : 0 ≤ i) (h1 : i < xs.length) : ∃ x, atI xs i = some x ∧ x ∈ xs := by
  have hz : i.toNat < xs.length := by omega
  refine ⟨xs[i.toNat], ?_, List.getElem_mem hz⟩
  unfold atI
  rw [ixN_lt h0 h1]
  simp [hz]
/-! ### comprehensions -/
theorem lcD_sel {α : Type} {body : D → (Option D → Prop) → Prop} {R : List D → Prop} (g : α → D) (f : α → Option D) : ∀ {ts : List α} {ds acc : List D}, ds = ts.map g → (∀ t ∈ ts, ∀ k : Option D → Prop, k (f t) → body (g t) k) → R (acc ++ ts.filterMap f) → lcD body ds acc R
  | [], ds, acc, e, _, r => by subst e; simpa [lcD] using r
  | t :: ts, ds, acc, e, h, r => by
    subst e
    show lcD body (g t :: ts.map g) acc R
    refine h t List.mem_cons_self _ ?_
    refine lcD_sel g f rfl (fun u hu => h u (List.mem_cons_of_mem _ hu)) ?_
    cases hf : f t with
    | none => simpa [hf] using r
    | some y => simpa [hf] using r
theorem lcD_map {α : Type} {body : D → (Option D → Prop) → Prop} {R : List D → Prop} (g : α → D) (f : α → D) {ts : List α} {ds : List D} (e : ds = ts.map g) (h : ∀ t ∈ ts, ∀ k : Option D → Prop, k (some (f t)) → body (g t) k) (r : R (ts.map f)) : lcD body ds [] R :=
  lcD_sel g (fun t => some (f t)) e h (by simpa using r)
theorem lcD_sub {α : Type} {body : D → (Option D → Prop) → Prop} {R : List D → Prop} (g : α → D) : ∀ {ts : List α} {ds acc : List D}, ds = ts.map g → (∀ t ∈ ts, ∀ k : Option D → Prop, k none → k (some (g t)) → body (g t) k) → (∀ us, List.Sublist us ts → R (acc ++ us.map g)) → lcD body ds acc R
  | [], ds, acc, e, _, r => by subst e; have := r [] List.Sublist.slnil; simpa [lcD] using this
  | t :: ts, ds, acc, e, h, r => by
    subst e
    show body (g t) _
    refine h t List.mem_cons_self _ ?_ ?_
    · exact lcD_sub g rfl (fun u hu => h u (List.mem_cons_of_mem _ hu)) fun ys hy => r ys (hy.cons t)
    · refine lcD_sub g rfl (fun u hu => h u (List.mem_cons_of_mem _ hu)) fun ys hy => ?_
      have := r (t :: ys) (hy.cons₂ t)
      simpa using this
theorem bools_map {α : Type} (p : α → Bool) : ∀ ts : List α, boolsD (ts.map fun t => .bool (p t)) = some (ts.map p)
  | [] => rfl
  | t :: ts => by simp [boolsD, bools_map p ts]
theorem all_map {α : Type} (p : α → Bool) (ts : List α) : (ts.map p).all id = ts.all p := by simp
theorem zip_cut (ds : List D) : zipD ds (cutD ds (some 1) none) = (ds.zip ds.tail).map fun p => .tuple [p.1, p.2] := by
  have : cutD ds (some 1) none = ds.tail := by
    unfold cutD
    cases ds with
    | nil => simp [HT.sIx]
    | cons d ds =>
      have e1 : HT.sIx (d :: ds).length 0 (some 1) = 1 := by simp [HT.sIx]
      have e2 : HT.sIx (d :: ds).length (d :: ds).length none = ds.length + 1 := by simp [HT.sIx]
      rw [e1, e2]
      simp
  rw [this]; rfl
theorem thAlC (a b : Th) : AlC (thD a) (thD b) := ⟨alike_th a b, by simp [thD], by rw [depth_th, depth_th]; decide⟩
theorem sort_ok (ts : List Th) : PySem.W.AllAlike (ts.map thD) ∧ PySem.W.Sortable (ts.map thD) ∧ ∀ x ∈ ts.map thD, x.depth ≤ 60 := by
  refine ⟨?_, ?_, ?_⟩
  · intro x hx y hy
    obtain ⟨t, _, rfl⟩ := List.mem_map.mp hx
    obtain ⟨u, _, rfl⟩ := List.mem_map.mp hy
    exact alike_th t u
  · refine .inl fun x hx => ?_
    obtain ⟨t, _, rfl⟩ := List.mem_map.mp hx
    exact ⟨_, _, rfl⟩
  · intro x hx
    obtain ⟨t, _, rfl⟩ := List.mem_map.mp hx
    rw [depth_th]; decide
theorem bool_cases (b : Bool) : b = true ∨ b = false := by cases b <;> simp
theorem all_isThings {most many : Nat} {xs : List D} : isThings most many (.tuple xs) = (decide (xs.length ≤ many) && (xs.all (isThing most) && inTurn xs)) := rfl
theorem inTurn_eq (xs : List D) : inTurn xs = (xs.zip xs.tail).all fun p => !PySem.W.dataLt p.2 p.1 := rfl
theorem zip_tail_mem {α : Type} : ∀ {xs : List α} {p : α × α}, p ∈ xs.zip xs.tail → p.1 ∈ xs ∧ p.2 ∈ xs := fun {xs p} h => ⟨(List.of_mem_zip h).1, List.mem_of_mem_tail (List.of_mem_zip h).2⟩
@[simp] theorem cAll_map {α : Type} (p : α → Bool) (ts : List α) (R : D → Prop) : cAll [.list (ts.map fun t => .bool (p t))] R ↔ R (.bool (ts.all p)) := by
  unfold cAll
  constructor
  · rintro ⟨xs, bs, e, hb, r⟩
    obtain rfl : xs = ts.map fun t => .bool (p t) := by simpa using e.symm
    rw [bools_map] at hb
    obtain rfl : bs = ts.map p := by simpa using hb.symm
    rwa [all_map] at r
  · intro r
    exact ⟨_, _, rfl, bools_map p ts, by rwa [all_map]⟩
@[simp] theorem cTup_lst (xs : List D) (R : D → Prop) : cTup [.list xs] R ↔ R (.tuple xs) := by
  unfold cTup
  constructor
  · rintro ⟨d, ys, e, hb, r⟩
    obtain rfl : d = .list xs := by simpa using e.symm
    obtain rfl : ys = xs := by simpa [itemsD] using hb.symm
    exact r
  · intro r
    exact ⟨_, _, rfl, rfl, r⟩
@[simp] theorem cLst_lst (xs : List D) (R : D → Prop) : cLst [.list xs] R ↔ R (.list xs) := by
  unfold cLst
  constructor
  · rintro ⟨d, ys, e, hb, r⟩
    obtain rfl : d = .list xs := by simpa using e.symm
    obtain rfl : ys = xs := by simpa [itemsD] using hb.symm
    exact r
  · intro r
    exact ⟨_, _, rfl, rfl, r⟩
@[simp] theorem cLst_tup (xs : List D) (R : D → Prop) : cLst [.tuple xs] R ↔ R (.list xs) := by
  unfold cLst
  constructor
  · rintro ⟨d, ys, e, hb, r⟩
    obtain rfl : d = .tuple xs := by simpa using e.symm
    obtain rfl : ys = xs := by simpa [itemsD] using hb.symm
    exact r
  · intro r
    exact ⟨_, _, rfl, rfl, r⟩
theorem cSort_of {d : D} {ts : List Th} {R : D → Prop} (hd : d = .list (ts.map thD) ∨ d = .tuple (ts.map thD)) (r : R (.list ((sortT ts).map thD))) : cSorted [d] R := by
  obtain ⟨h1, h2, h3⟩ := sort_ok ts
  rcases hd with rfl | rfl <;> exact ⟨_, _, rfl, rfl, h1, h2, h3, by rwa [sortD_th]⟩

/-! ### bags -/
/-- a kind that ages -/
def ag (c : Nat) : Bool := decide (c ∈ [97, 98, 99])
theorem isAging_ag (c : Nat) : isAging (sg c) = ag c := isAging_of c
def waitT (t : Nat) (x : Th) : Th := (x.1, if ag x.1 = true then min (x.2 + t) 9999 else x.2)
def waitsT (t : Nat) (ts : List Th) : List Th := sortT (ts.map (waitT t))
def bag1 (x : Th) : Th := (x.1, min x.2 4)
def bagT (ts : List Th) : List Th := sortT (ts.map bag1)
def SORTS : List Th := [(97, 0), (97, 1), (97, 2), (97, 3), (97, 4), (98, 0), (98, 1), (98, 2), (98, 3), (98, 4), (99, 0), (99, 1), (99, 2), (99, 3), (99, 4), (120, 0), (121, 0), (122, 0)]
def hasT (hs bs : List Th) : Bool := SORTS.all fun s => decide (bs.count s ≤ (bagT hs).count s)
def hasL (hs bs : List Th) : Bool := bs.all fun s => decide (bs.count s ≤ (bagT hs).count s)
@[simp] theorem oIx_th0 (t : Th) (R : D → Prop) : oIx (thD t) (.int 0) R ↔ R (sg t.1) := by simp [thD, oIx, atI, ixN]
@[simp] theorem oIx_th1 (t : Th) (R : D → Prop) : oIx (thD t) (.int 1) R ↔ R (.int t.2) := by simp [thD, oIx, atI, ixN]
theorem oEq_sg (a c : Nat) (R : D → Prop) : oEq (sg a) (sg c) R ↔ R (.bool (decide (a = c))) := by
  have e : oEq (sg a) (sg c) R = (((sg a).plain = true ∧ (sg c).plain = true ∧ min (sg a).depth (sg c).depth ≤ 60) ∧ R (.bool (PyData.eqv (sg a) (sg c)))) := rfl
  rw [e, eqv_sg]
  simp [PyData.plain, PyData.depth]
theorem count_th (s : Th) (ts : List Th) : ((ts.map thD).countP fun y => PyData.eqv y (thD s)) = ts.count s := by
  rw [List.countP_map, List.count]
  congr 1
  funext t
  show PyData.eqv (thD t) (thD s) = (t == s)
  rw [eqv_th]
  by_cases h : t = s <;> simp [h]
theorem plainAll_th (ts : List Th) : PyData.plainAll (ts.map thD) = true := by
  induction ts with
  | nil => rfl
  | cons t ts ih => simp only [List.map_cons, PyData.plainAll, plain_th, ih, Bool.and_self]
theorem zipD_map {α : Type} (f g : α → D) (xs : List α) : zipD (xs.map f) (xs.map g) = xs.map fun x => .tuple [f x, g x] := by
  induction xs with
  | nil => rfl
  | cons x xs ih =>
    have : zipD (f x :: xs.map f) (g x :: xs.map g) = .tuple [f x, g x] :: zipD (xs.map f) (xs.map g) := rfl
    simp only [List.map_cons, this, ih]
theorem kinds_of {x : D} (h : x ∈ sgns (Str.ofString "abcabcaxyz")) : ∃ c, x = sg c ∧ (c ∈ [97, 98, 99] ∨ c ∈ [120, 121, 122]) := by
  have e : Str.ofString "abcabcaxyz" = ⟨#[97, 98, 99, 97, 98, 99, 97, 120, 121, 122]⟩ := by decide +kernel
  rw [e] at h
  simp [sgns] at h
  rcases h with h | h | h | h | h | h | h | h | h | h <;> exact ⟨_, h, by simp⟩
theorem ag_of (c : Nat) : inStr ⟨#[c]⟩ (Str.ofString "abc") = ag c := isAging_ag c
theorem ag_not {c : Nat} (h : c ∈ [120, 121, 122]) : ag c = false := by simp at h; simp [ag]; omega
theorem ag_yes {c : Nat} (h : c ∈ [97, 98, 99]) : ag c = true := by simp [ag] at *; omega
theorem ok_ag {most : Nat} {x : Th} (h : okT most x) : ag x.1 = true ∧ x.2 ≤ most ∨ ag x.1 = false ∧ x.2 = 0 := by
  rcases h with ⟨h1, h2⟩ | ⟨h1, h2⟩
  · exact .inl ⟨ag_yes h1, h2⟩
  · exact .inr ⟨ag_not h1, h2⟩
theorem hall_sort {most many : Nat} {ts : List Th} (h1 : ∀ t ∈ ts, okT most t) (h2 : ts.length ≤ many) : Hall most many (sortT ts) := ⟨fun t ht => h1 t (sortT_mem.mp ht), sortT_sorted ts, by rwa [sortT_length]⟩
theorem cut_map {α : Type} (f : α → D) (ts : List α) (k : Nat) : cutD (ts.map f) none (some k) = (ts.take k).map f := by
  unfold cutD
  rw [List.length_map, HT.sIx_nat]
  simp [HT.sIx]
theorem hallD_inj {a b : List Th} (h : hallD a = hallD b) : a = b := by
  have h' : a.map thD = b.map thD := by simpa [hallD] using h
  exact (List.map_inj_right fun x y => thD_inj).mp h'
end PL
end

section
set_option Elab.async false
set_option linter.all false
set_option maxRecDepth 100000
set_option maxHeartbeats 4000000
namespace PL
open PySem PySem.Spec PyProof.Rows L2
/-! ### the brute force of the law: a bag stands when counts suffice -/
theorem nodup_len : ∀ {a b : List Nat}, a.Nodup → (∀ x ∈ a, x ∈ b) → a.length ≤ b.length
  | [], _, _, _ => by simp
  | x :: a, b, h, hs => by
    obtain ⟨h1, h2⟩ := List.nodup_cons.mp h
    have hx := hs x List.mem_cons_self
    have := nodup_len (b := b.erase x) h2 fun y hy => by
      have hne : y ≠ x := fun e => h1 (e ▸ hy)
      exact (List.mem_erase_of_ne hne).mpr (hs y (List.mem_cons_of_mem _ hy))
    rw [List.length_erase_of_mem hx] at this
    have := List.length_pos_of_mem hx
    simp only [List.length_cons]
    omega
/-- where a sort stands -/
def spots (gs : List Th) (s : Th) : List Nat := (List.range gs.length).filter fun i => decide (gs[i]? = some s)
theorem spots_len (s : Th) : ∀ gs : List Th, (spots gs s).length = gs.count s
  | [] => rfl
  | g :: gs => by
    have ih := spots_len s gs
    unfold spots at ih ⊢
    rw [List.length_cons, List.range_succ_eq_map, List.filter_cons, List.filter_map, List.count_cons, ← ih]
    have e : ((fun i => decide ((g :: gs)[i]? = some s)) ∘ Nat.succ) = fun i => decide (gs[i]? = some s) := by
      funext i
      simp
    rw [e]
    by_cases h : g = s
    · simp [h]
    · simp [h]
theorem spots_nodup (gs : List Th) (s : Th) : (spots gs s).Nodup := List.Pairwise.filter _ List.nodup_range
structure Sound (gs : List Th) (own : List Nat) (p : List Th) : Prop where
  nd : own.Nodup
  eq : own.map (fun i => gs[i]?) = p.map some
theorem sound_count {gs : List Th} {s : Th} : ∀ {own : List Nat} {p : List Th}, own.map (fun i => gs[i]?) = p.map some → (own.filter fun i => decide (gs[i]? = some s)).length = p.count s
  | [], [], _ => rfl
  | [], _ :: _, h => by simp at h
  | _ :: _, [], h => by simp at h
  | i :: own, t :: p, h => by
    simp only [List.map_cons, List.cons.injEq] at h
    have ih := sound_count (s := s) h.2
    rw [List.filter_cons, List.count_cons, h.1, ← ih]
    by_cases e : t = s
    · simp [e]
    · simp [e]
theorem Sound.count {gs : List Th} {own : List Nat} {p : List Th} (h : Sound gs own p) (s : Th) : p.count s ≤ gs.count s := by
  rw [← sound_count (s := s) h.eq, ← spots_len]
  refine nodup_len (List.Pairwise.filter _ h.nd) fun i hi => ?_
  obtain ⟨h1, h2⟩ := List.mem_filter.mp hi
  have h3 : gs[i]? = some s := of_decide_eq_true h2
  exact List.mem_filter.mpr ⟨List.mem_range.mpr (List.getElem?_eq_some_iff.mp h3).1, h2⟩
theorem Sound.more {gs : List Th} {own : List Nat} {p : List Th} (h : Sound gs own p) {s : Th} (hc : (p ++ [s]).count s ≤ gs.count s) : ∃ i, i ∉ own ∧ gs[i]? = some s := by
  apply Classical.byContradiction
  intro hn
  have hall : ∀ i, gs[i]? = some s → i ∈ own := fun i hi => Classical.byContradiction fun h2 => hn ⟨i, h2, hi⟩
  have : (spots gs s).length ≤ (own.filter fun i => decide (gs[i]? = some s)).length := nodup_len (spots_nodup gs s) fun i hi => by
    obtain ⟨h1, h2⟩ := List.mem_filter.mp hi
    exact List.mem_filter.mpr ⟨hall i (of_decide_eq_true h2), h2⟩
  rw [spots_len, sound_count h.eq] at this
  rw [List.count_append] at hc
  simp at hc
  omega
def ext (hs : List Th) (s : Th) (own : List Nat) : List (List Nat) := hs.zipIdx.filterMap fun p => if p.2 ∉ own ∧ bag1 p.1 = s then some (own ++ [p.2]) else none
theorem ext_len (hs : List Th) (s : Th) (own : List Nat) : (ext hs s own).length ≤ hs.length := by
  have := List.length_filterMap_le (fun p : Th × Nat => if p.2 ∉ own ∧ bag1 p.1 = s then some (own ++ [p.2]) else none) hs.zipIdx
  simpa [ext] using this
theorem ext_mem {hs : List Th} {s : Th} {own o : List Nat} : o ∈ ext hs s own ↔ ∃ i, i ∉ own ∧ (hs.map bag1)[i]? = some s ∧ o = own ++ [i] := by
  unfold ext
  rw [List.mem_filterMap]
  constructor
  · rintro ⟨⟨t, i⟩, h1, h2⟩
    by_cases hc : i ∉ own ∧ bag1 t = s
    · rw [if_pos hc] at h2
      refine ⟨i, hc.1, ?_, by simpa using h2.symm⟩
      have := List.mem_zipIdx_iff_getElem?.mp h1
      rw [List.getElem?_map, this]
      simp [hc.2]
    · rw [if_neg hc] at h2
      cases h2
  · rintro ⟨i, h1, h2, rfl⟩
    rw [List.getElem?_map] at h2
    obtain ⟨t, ht, e⟩ := Option.map_eq_some_iff.mp h2
    exact ⟨(t, i), List.mem_zipIdx_iff_getElem?.mpr ht, by rw [if_pos ⟨h1, e⟩]⟩
/-- what the law's list of lists is, when the front p of the bag has been walked -/
structure Brute (hs : List Th) (p : List Th) (fs : List (List Nat)) : Prop where
  sound : ∀ own ∈ fs, Sound (hs.map bag1) own p
  full : (∀ s, p.count s ≤ (hs.map bag1).count s) → fs ≠ []
theorem Brute.zero (hs : List Th) : Brute hs [] [[]] := ⟨fun own h => by
  simp at h
  subst h
  exact ⟨.nil, rfl⟩, fun _ => by simp⟩
theorem Brute.step {hs p : List Th} {fs : List (List Nat)} (h : Brute hs p fs) (s : Th) : Brute hs (p ++ [s]) (fs.flatMap (ext hs s)) := by
  constructor
  · intro o ho
    obtain ⟨own, h1, h2⟩ := List.mem_flatMap.mp ho
    obtain ⟨i, h3, h4, rfl⟩ := ext_mem.mp h2
    have S := h.sound own h1
    refine ⟨?_, ?_⟩
    · rw [List.nodup_append]
      refine ⟨S.nd, by simp, ?_⟩
      intro a ha b hb e
      simp at hb
      subst hb
      subst e
      exact h3 ha
    · rw [List.map_append, S.eq]
      simp only [List.map_cons, List.map_nil, List.map_append, h4]
  · intro hc
    have hp : ∀ t, p.count t ≤ (hs.map bag1).count t := fun t => by
      have := hc t
      rw [List.count_append] at this
      omega
    obtain ⟨own, ho⟩ := List.exists_mem_of_ne_nil _ (h.full hp)
    obtain ⟨i, h1, h2⟩ := (h.sound own ho).more (hc s)
    intro e
    have : own ++ [i] ∈ fs.flatMap (ext hs s) := List.mem_flatMap.mpr ⟨own, ho, ext_mem.mpr ⟨i, h1, h2, rfl⟩⟩
    rw [e] at this
    cases this
theorem bagT_count (hs : List Th) (s : Th) : (bagT hs).count s = (hs.map bag1).count s := (sortT_perm _).count_eq s
theorem Brute.done {hs p : List Th} {fs : List (List Nat)} (h : Brute hs p fs) : (!fs.isEmpty) = hasL hs p := by
  rw [Bool.eq_iff_iff]
  unfold hasL
  simp only [List.all_eq_true, decide_eq_true_eq, bagT_count]
  constructor
  · intro hn s _
    cases fs with
    | nil => cases hn
    | cons own fs => exact (h.sound own List.mem_cons_self).count s
  · intro hc
    have := h.full fun s => by
      by_cases hm : s ∈ p
      · exact hc s hm
      · rw [List.count_eq_zero_of_not_mem hm]; omega
    cases fs with
    | nil => exact absurd rfl this
    | cons own fs => rfl
def ownD (own : List Nat) : D := .tuple (own.map fun i => .int (i : Nat))
theorem own_plain (own : List Nat) : PyData.plainAll (own.map fun i => (.int (i : Nat) : D)) = true := by
  induction own with
  | nil => rfl
  | cons i own ih => simp only [List.map_cons, PyData.plainAll, ih]; rfl
theorem owns_plain (fs : List (List Nat)) : PyData.plainAll (fs.map ownD) = true := by
  induction fs with
  | nil => rfl
  | cons o fs ih => simp only [List.map_cons, PyData.plainAll, ih, Bool.and_true]; exact own_plain o
theorem own_any (own : List Nat) (j : Nat) : ((own.map fun i => (.int (i : Nat) : D)).any fun y => PyData.eqv y (.int j)) = decide (j ∈ own) := by
  induction own with
  | nil => rfl
  | cons i own ih =>
    rw [List.map_cons, List.any_cons, ih]
    have : PyData.eqv (.int (i : Nat)) (.int (j : Nat)) = decide (j = i) := by
      simp only [PyData.eqv]
      by_cases h : j = i
      · simp [h]
      · have : ¬ ((i : Int) = j) := by omega
        simp [h, this]
    rw [this]
    by_cases h1 : j = i <;> by_cases h2 : j ∈ own <;> simp [h1, h2]
def itD (p : Th × Nat) : D := .tuple [.int (p.2 : Nat), thD p.1]
theorem enum_th (hs : List Th) : enumD (hs.map thD) = hs.zipIdx.map itD := by
  unfold enumD
  rw [List.zipIdx_map, List.map_map]
  rfl
theorem ext_map (hs : List Th) (s : Th) (own : List Nat) : (hs.zipIdx.filterMap fun p => if p.2 ∉ own ∧ bag1 p.1 = s then some (ownD (own ++ [p.2])) else none) = (ext hs s own).map ownD := by
  unfold ext
  rw [List.map_filterMap]
  congr 1
  funext p
  by_cases h : p.2 ∉ own ∧ bag1 p.1 = s
  · rw [if_pos h, if_pos h]; rfl
  · rw [if_neg h, if_neg h]; rfl
theorem bag1_eq (t : Th) (c a : Nat) (h : a ≤ 4) : bag1 t = (c, a) ↔ t.1 = c ∧ (t.2 = a ∨ (a = 4 ∧ 4 < t.2)) := by
  unfold bag1
  rw [Prod.mk.injEq]
  omega
theorem flat_len {hs : List Th} {s : Th} {fs : List (List Nat)} (h : hs.length ≤ 8) : (fs.flatMap (ext hs s)).length ≤ 8 * fs.length := by
  induction fs with
  | nil => simp
  | cons o fs ih =>
    have := ext_len hs s o
    simp only [List.flatMap_cons, List.length_append, List.length_cons]
    omega
theorem ne_nil (fs : List (List Nat)) : (!PyData.eqv (.list (fs.map ownD)) (.list [])) = !fs.isEmpty := by
  cases fs <;> simp [PyData.eqv, PyData.eqvAll]
theorem Sound.len {gs : List Th} {own : List Nat} {p : List Th} (h : Sound gs own p) : own.length = p.length := by
  have := congrArg List.length h.eq
  simpa using this
@[simp] theorem oNotIn_own (i : Nat) (own : List Nat) (R : D → Prop) : oNotIn (.int i) (ownD own) R ↔ R (.bool (!decide (i ∈ own))) := by
  have e : oNotIn (.int i) (ownD own) R = ((PyData.plainAll (own.map fun i => (.int (i : Nat) : D)) = true ∧ (PyData.int i).plain = true ∧ (PyData.int i).depth ≤ 60) ∧ R (.bool (!(own.map fun i => (.int (i : Nat) : D)).any fun y => PyData.eqv y (.int i)))) := rfl
  rw [e, own_any, own_plain]
  simp [PyData.plain, PyData.depth]
end PL
end

section
set_option Elab.async false
set_option linter.all false
set_option maxRecDepth 100000
set_option maxHeartbeats 4000000
namespace PL
open PySem PySem.Spec PyProof.Rows L2
/-! ### what is told alike: data that are easily shown -/
mutual
def easy : D → Bool
  | .none => true
  | .bool _ => true
  | .int i => decide (i.natAbs < 10 ^ 12)
  | .str x => x.cps.toList.all fun c => decide (c < 16 ^ 8)
  | .list ds => easys ds
  | .tuple ds => easys ds
  | .dict _ => false
def easys : List D → Bool
  | [] => true
  | d :: ds => easy d && easys ds
end
mutual
theorem easy_all : ∀ d : D, easy d = true → d.plain = true ∧ d.hasDict = false ∧ d.showable = true ∧ d.leavesShort 13 = true
  | .none, _ => ⟨rfl, rfl, rfl, rfl⟩
  | .bool _, _ => ⟨rfl, rfl, rfl, rfl⟩
  | .int i, h => by
    have h' : i.natAbs < 10 ^ 12 := of_decide_eq_true h
    refine ⟨rfl, rfl, ?_, ?_⟩
    · show decide (i.natAbs.log2 < 1920) = true
      refine decide_eq_true ?_
      by_cases h0 : i.natAbs = 0
      · rw [h0]; decide
      · have : i.natAbs.log2 < 40 := (Nat.log2_lt h0).mpr (Nat.lt_trans h' (by decide))
        omega
    · show decide ((PyData.shown (.int i)).length ≤ 13) = true
      exact decide_eq_true (PyData.shown_int_le h')
  | .str x, h => ⟨rfl, rfl, rfl, h⟩
  | .list ds, h => easys_all ds h
  | .tuple ds, h => easys_all ds h
  | .dict _, h => by cases h
theorem easys_all : ∀ ds : List D, easys ds = true → PyData.plainAll ds = true ∧ PyData.hasDictAll ds = false ∧ PyData.showableAll ds = true ∧ PyData.leavesShortAll 13 ds = true
  | [], _ => ⟨rfl, rfl, rfl, rfl⟩
  | d :: ds, h => by
    simp only [easys, Bool.and_eq_true] at h
    obtain ⟨a1, a2, a3, a4⟩ := easy_all d h.1
    obtain ⟨b1, b2, b3, b4⟩ := easys_all ds h.2
    simp only [PyData.plainAll, PyData.hasDictAll, PyData.showableAll, PyData.leavesShortAll, a1, a2, a3, a4, b1, b2, b3, b4, Bool.and_self, Bool.or_self, and_self]
end
def evenOk (d : D) : Prop := d.plain = true ∧ d.depth ≤ 60 ∧ d.hasDict = false ∧ d.showable = true ∧ d.shown.length ≤ sizeLine
theorem even_of {d : D} (h1 : easy d = true) (h2 : d.bulk ≤ 2 ^ 20) (h3 : d.depth ≤ 60) : evenOk d := by
  obtain ⟨a, b, c, e⟩ := easy_all d h1
  exact ⟨a, h3, b, c, PyData.shown_fits_bulk (B := 13) (by decide) (by decide) e h2⟩
theorem easys_th {most : Nat} (hm : most ≤ 10000) : ∀ {ts : List Th}, (∀ t ∈ ts, t.1 < 1000 ∧ t.2 ≤ most) → easys (ts.map thD) = true
  | [], _ => rfl
  | t :: ts, h => by
    have ih := easys_th hm fun u hu => h u (List.mem_cons_of_mem _ hu)
    obtain ⟨h1, h2⟩ := h t List.mem_cons_self
    have e1 : decide (t.1 < 16 ^ 8) = true := decide_eq_true (by omega)
    have e2 : decide ((t.2 : Int).natAbs < 10 ^ 12) = true := decide_eq_true (by omega)
    simp only [List.map_cons, easys, thD, easy, ih, e2, Bool.and_true, List.all_cons, List.all_nil, e1]
theorem bulk_th (ts : List Th) : PyData.bulkAll (ts.map thD) = 4 * ts.length := by
  induction ts with
  | nil => rfl
  | cons t ts ih =>
    have : (thD t).bulk = 3 := by simp [thD, PyData.bulk, PyData.bulkAll]
    simp only [List.map_cons, PyData.bulkAll, ih, this, List.length_cons]
    omega
theorem depth_hall (ts : List Th) : (hallD ts).depth ≤ 2 := by
  have : ∀ us : List Th, PyData.depthAll (us.map thD) ≤ 1 := fun us => by
    induction us with
    | nil => simp [PyData.depthAll]
    | cons u us ih => simp only [List.map_cons, PyData.depthAll, depth_th]; omega
  have := this ts
  show PyData.depthAll (ts.map thD) + 1 ≤ 2
  omega
theorem okT_small {most : Nat} {t : Th} (h : okT most t) : t.1 < 1000 ∧ t.2 ≤ most := by
  rcases h with ⟨h1, h2⟩ | ⟨h1, h2⟩ <;> simp at h1 <;> omega
theorem easy_hall {most many : Nat} {ts : List Th} (hm : most ≤ 10000) (h : Hall most many ts) : easy (hallD ts) = true := easys_th hm fun t ht => okT_small (h.ok t ht)
theorem bulk_hall (ts : List Th) : (hallD ts).bulk = 4 * ts.length := bulk_th ts

/-! ### having, as counts -/
def Le (hs bs : List Th) : Prop := ∀ s, bs.count s ≤ (hs.map bag1).count s
theorem hasL_iff {hs bs : List Th} : hasL hs bs = true ↔ Le hs bs := by
  unfold hasL Le
  simp only [List.all_eq_true, decide_eq_true_eq, bagT_count]
  constructor
  · intro h s
    by_cases hm : s ∈ bs
    · exact h s hm
    · rw [List.count_eq_zero_of_not_mem hm]; omega
  · intro h s _
    exact h s
theorem sort_of {s : Th} (h : okT 4 s) : s ∈ SORTS := by
  obtain ⟨k, a⟩ := s
  unfold okT at h
  simp at h
  have : (k = 97 ∨ k = 98 ∨ k = 99) ∧ (a = 0 ∨ a = 1 ∨ a = 2 ∨ a = 3 ∨ a = 4) ∨ (k = 120 ∨ k = 121 ∨ k = 122) ∧ a = 0 := by omega
  rcases this with ⟨h1 | h1 | h1, h2 | h2 | h2 | h2 | h2⟩ | ⟨h1 | h1 | h1, h2⟩ <;> subst h1 <;> subst h2 <;> decide
theorem hasT_iff {hs bs : List Th} (h : ∀ s ∈ bs, okT 4 s) : hasT hs bs = true ↔ Le hs bs := by
  unfold hasT Le
  simp only [List.all_eq_true, decide_eq_true_eq, bagT_count]
  constructor
  · intro h1 s
    by_cases hm : s ∈ bs
    · exact h1 s (sort_of (h s hm))
    · rw [List.count_eq_zero_of_not_mem hm]; omega
  · intro h s _
    exact h s
theorem hasT_hasL {hs bs : List Th} (h : ∀ s ∈ bs, okT 4 s) : hasT hs bs = hasL hs bs := by
  rw [Bool.eq_iff_iff, hasT_iff h, hasL_iff]
theorem ok_bag1 {most : Nat} {t : Th} (h : okT most t) : okT 4 (bag1 t) := by
  rcases h with ⟨h1, h2⟩ | ⟨h1, h2⟩
  · exact .inl ⟨h1, by show min t.2 4 ≤ 4; omega⟩
  · exact .inr ⟨h1, by show min t.2 4 = 0; omega⟩
theorem bag1_id {t : Th} (h : okT 4 t) : bag1 t = t := by
  obtain ⟨k, a⟩ := t
  have : a ≤ 4 := (okT_small h).2
  show (k, min a 4) = (k, a)
  rw [Nat.min_eq_left this]
theorem ok_bagT {most : Nat} {ts : List Th} (h : ∀ t ∈ ts, okT most t) : ∀ s ∈ bagT ts, okT 4 s := fun s hs => by
  obtain ⟨t, ht, rfl⟩ := List.mem_map.mp (sortT_mem.mp hs)
  exact ok_bag1 (h t ht)
theorem bagT_len (ts : List Th) : (bagT ts).length = ts.length := by unfold bagT; rw [sortT_length, List.length_map]
theorem hall_bag {most many : Nat} {ts : List Th} (h : Hall most many ts) : Hall 4 many (bagT ts) := ⟨ok_bagT h.ok, sortT_sorted _, by rw [bagT_len]; exact h.len⟩
theorem okT_mono {a b : Nat} {t : Th} (hab : a ≤ b) (h : okT a t) : okT b t := by
  rcases h with ⟨h1, h2⟩ | h
  · exact .inl ⟨h1, by omega⟩
  · exact .inr h
theorem Hall.mono {a b m n : Nat} {ts : List Th} (h : Hall a m ts) (h1 : a ≤ b) (h2 : m ≤ n) : Hall b n ts := ⟨fun t ht => okT_mono h1 (h.ok t ht), h.sorted, Nat.le_trans h.len h2⟩
theorem Hall.sub {a m n : Nat} {ts us : List Th} (h : Hall a m ts) (hs : us.Sublist ts) (hl : us.length ≤ n) : Hall a n us := ⟨fun t ht => h.ok t (hs.subset ht), h.sorted.sublist hs, hl⟩
theorem is_bag {hs : List Th} (h : Hall 9999 60 hs) : isThings 4 20 (hallD (bagT hs)) = decide ((hs.length : Int) < 21) := by
  rw [Bool.eq_iff_iff, isThings_hall, decide_eq_true_eq]
  constructor
  · intro z
    have := z.len
    rw [bagT_len] at this
    omega
  · intro z
    exact ⟨(hall_bag h).ok, (hall_bag h).sorted, by rw [bagT_len]; omega⟩
theorem Le.front {hs bs : List Th} (h : bs.Sublist (bagT hs)) : Le hs bs := fun s => by
  rw [← bagT_count]
  exact h.count_le s
theorem Le.more {hs bs ms : List Th} (h : Le hs bs) (hm : ∀ s, (hs.map bag1).count s ≤ (ms.map bag1).count s) : Le ms bs := fun s => Nat.le_trans (h s) (hm s)
theorem more_le {hs us : List Th} (h : hs.length ≤ 60) (s : Th) : (hs.map bag1).count s ≤ ((sortT ((hs ++ us).take 60)).map bag1).count s := by
  have e := ((sortT_perm ((hs ++ us).take 60)).map bag1).count_eq s
  rw [e, List.take_append, List.take_of_length_le h, List.map_append, List.count_append]
  omega
theorem more_hall {hs us : List Th} (h1 : Hall 9999 60 hs) (h2 : ∀ t ∈ us, okT 9999 t) : Hall 9999 60 (sortT ((hs ++ us).take 60)) := by
  refine hall_sort (fun t ht => ?_) (by rw [List.length_take]; omega)
  rcases List.mem_append.mp (List.mem_of_mem_take ht) with h | h
  · exact h1.ok t h
  · exact h2 t h
theorem ok_wait {t : Nat} {x : Th} (h : okT 9999 x) : okT 9999 (waitT t x) := by
  rcases h with ⟨h1, h2⟩ | ⟨h1, h2⟩
  · refine .inl ⟨h1, ?_⟩
    show (if ag x.1 = true then min (x.2 + t) 9999 else x.2) ≤ 9999
    rw [if_pos (ag_yes h1)]; omega
  · refine .inr ⟨h1, ?_⟩
    show (if ag x.1 = true then min (x.2 + t) 9999 else x.2) = 0
    rw [if_neg (by rw [ag_not h1]; simp)]; exact h2
theorem wait_hall {t : Nat} {hs : List Th} (h : Hall 9999 60 hs) : Hall 9999 60 (waitsT t hs) := by
  refine hall_sort (fun x hx => ?_) (by rw [List.length_map]; exact h.len)
  obtain ⟨y, hy, rfl⟩ := List.mem_map.mp hx
  exact ok_wait (h.ok y hy)
/-- what of a bag is kept by waiting -/
def keep1 (x : Th) : Bool := !ag x.1 || decide (x.2 = 4)
theorem keep_le {t : Nat} {hs bs : List Th} (h : Hall 9999 60 hs) (hb : ∀ s ∈ bs, okT 4 s) (hl : Le hs (bs.filter keep1)) : Le (waitsT t hs) (bs.filter keep1) := by
  intro s
  by_cases hm : s ∈ bs.filter keep1
  · have h1 := hl s
    refine Nat.le_trans h1 ?_
    obtain ⟨hm1, hm2⟩ := List.mem_filter.mp hm
    have e := ((sortT_perm (hs.map (waitT t))).map bag1).count_eq s
    show (hs.map bag1).count s ≤ ((sortT (hs.map (waitT t))).map bag1).count s
    rw [e, List.map_map]
    show List.countP _ _ ≤ List.countP _ _
    rw [List.countP_map, List.countP_map]
    refine List.countP_mono_left fun x hx hb => ?_
    have hx' := h.ok x hx
    simp only [Function.comp, beq_iff_eq] at hb ⊢
    rw [← hb] at hm2 ⊢
    have hk : (bag1 (waitT t x)).1 = x.1 := rfl
    unfold keep1 at hm2
    rcases ok_ag hx' with ⟨a1, a2⟩ | ⟨a1, a2⟩
    · have h4 : min x.2 4 = 4 := by
        have : (bag1 x).1 = x.1 := rfl
        rw [this, a1] at hm2
        exact of_decide_eq_true (show decide (min x.2 4 = 4) = true from hm2)
      show (x.1, min (if ag x.1 = true then min (x.2 + t) 9999 else x.2) 4) = (x.1, min x.2 4)
      rw [if_pos a1, h4]
      congr 1
      omega
    · show (x.1, min (if ag x.1 = true then min (x.2 + t) 9999 else x.2) 4) = (x.1, min x.2 4)
      rw [if_neg (by rw [a1]; simp)]
  · rw [List.count_eq_zero_of_not_mem hm]; omega
theorem Le.trans {hs bs os : List Th} (hb : ∀ s ∈ bs, okT 4 s) (h1 : Le hs bs) (h2 : Le bs os) : Le hs os := fun s => by
  have e : bs.map bag1 = bs := by
    have : ∀ x ∈ bs, bag1 x = x := fun x hx => bag1_id (hb x hx)
    exact (List.map_congr_left this).trans (List.map_id' bs)
  have := h2 s
  rw [e] at this
  exact Nat.le_trans this (h1 s)
theorem eqvAll_th : ∀ a b : List Th, PyData.eqvAll (a.map thD) (b.map thD) = decide (a = b)
  | [], [] => rfl
  | [], _ :: _ => rfl
  | _ :: _, [] => rfl
  | x :: a, y :: b => by
    simp only [List.map_cons, PyData.eqvAll, eqv_th, eqvAll_th a b]
    by_cases h1 : x = y <;> by_cases h2 : a = b <;> simp [h1, h2]
theorem eqv_hall (a b : List Th) : PyData.eqv (hallD a) (hallD b) = decide (a = b) := eqvAll_th a b
theorem sign_of {most : Nat} {x : Th} (h : okT most x) : inStr ⟨#[x.1]⟩ (Str.ofString "xyz") = !ag x.1 := by
  have e : inStr ⟨#[x.1]⟩ (Str.ofString "xyz") = decide (x.1 ∈ [120, 121, 122]) := in_signs x.1
  rw [e]
  rcases h with ⟨h1, h2⟩ | ⟨h1, h2⟩
  · rw [ag_yes h1]
    simp at h1 ⊢
    omega
  · rw [ag_not h1]
    simp [h1]
theorem keep_map (bs : List Th) : (bs.filterMap fun x => if keep1 x = true then some (thD x) else none) = (bs.filter keep1).map thD := by
  induction bs with
  | nil => rfl
  | cons b bs ih =>
    by_cases h : keep1 b = true
    · simp [h, ih]
    · simp [h, ih]
@[simp] theorem oSl_hall (ts : List Th) (k : Int) (R : D → Prop) (h : 0 ≤ k) : oSl (hallD ts) none (some k) R ↔ R (hallD (ts.take k.toNat)) := by
  have e := cut_map thD ts k.toNat
  rw [Int.toNat_of_nonneg h] at e
  show R (.tuple (cutD (ts.map thD) none (some k))) ↔ _
  rw [e]
  rfl
@[simp] theorem oAdd_hall (a b : List Th) (R : D → Prop) : oAdd (hallD a) (hallD b) R ↔ a.length + b.length ≤ sizeLine ∧ R (hallD (a ++ b)) := by
  show (a.map thD).length + (b.map thD).length ≤ sizeLine ∧ R (.tuple (a.map thD ++ b.map thD)) ↔ _
  rw [List.length_map, List.length_map, ← List.map_append]
  rfl
@[simp] theorem cLen_hall (a : List Th) (R : D → Prop) : cLen [hallD a] R ↔ R (.int a.length) := by
  show R (.int ((a.map thD).length : Nat)) ↔ _
  rw [List.length_map]
theorem cSort_hall {a : List Th} {R : D → Prop} (r : R (.list ((sortT a).map thD))) : cSorted [hallD a] R := cSort_of (.inr rfl) r
/-! ### what is no hall, no bag -/
theorem sa : Str.ofString "a" = ⟨#[97]⟩ := by decide +kernel
theorem sb : Str.ofString "b" = ⟨#[98]⟩ := by decide +kernel
theorem sc : Str.ofString "c" = ⟨#[99]⟩ := by decide +kernel
theorem sx : Str.ofString "x" = ⟨#[120]⟩ := by decide +kernel
structure Odd (hs : List Th) (one two : D) : Prop where
  g1 : Gd one
  g2 : Gd two
  what : one = hallD hs ∧ isThings 4 20 two = false ∧ evenOk (.tuple [.str "bag", two]) ∨ isThings 9999 60 one = false ∧ PyData.eqv one (hallD hs) = false ∧ evenOk (.tuple [.str "hall", one])
theorem no_hall {most many : Nat} {ts : List Th} (h : ¬ Hall most many ts) : isThings most many (hallD ts) = false := by
  rcases bool_cases (isThings most many (hallD ts)) with e | e
  · exact absurd ((isThings_hall _ _ _).mp e) h
  · exact e
theorem even_bag {x : Str} {d : D} (hx : (x.cps.toList.all fun c => decide (c < 16 ^ 8)) = true) (hl : x.cps.size ≤ 10) (h1 : easy d = true) (h2 : d.bulk ≤ 10000) (h3 : d.depth ≤ 40) : evenOk (.tuple [.str x, d]) := by
  refine even_of ?_ ?_ ?_
  · show (((x.cps.toList.all fun c => decide (c < 16 ^ 8))) && (easy d && true)) = true
    rw [hx, h1]; rfl
  · show x.cps.size + 1 + (d.bulk + 1 + 0) ≤ 2 ^ 20
    omega
  · show max 0 (max d.depth 0) + 1 ≤ 60
    omega
theorem gd_of {d : D} (h1 : good d = true) (h2 : d.depth ≤ 40) : Gd d := ⟨h1, h2⟩
theorem odd_two {hs : List Th} {two : D} (g : Gd two) (h1 : isThings 4 20 two = false) (h2 : easy two = true) (h3 : two.bulk ≤ 10000) : Odd hs (hallD hs) two :=
  ⟨good_hall (most := 9999), g, .inl ⟨rfl, h1, even_bag (by decide +kernel) (by decide +kernel) h2 h3 g.2⟩⟩
theorem odd_one {hs : List Th} {one two : D} (g1 : Gd one) (g : Gd two) (h1 : isThings 9999 60 one = false) (h4 : PyData.eqv one (hallD hs) = false) (h2 : easy one = true) (h3 : one.bulk ≤ 10000) : Odd hs one two :=
  ⟨g1, g, .inr ⟨h1, h4, even_bag (by decide +kernel) (by decide +kernel) h2 h3 g1.2⟩⟩
theorem odd_hall {hs ts : List Th} {two : D} (hh : Hall 9999 60 hs) (h : ¬ Hall 9999 60 ts) (hz : ∀ t ∈ ts, t.1 < 1000 ∧ t.2 ≤ 10000) (hl : ts.length ≤ 100) (g : Gd two) : Odd hs (hallD ts) two := by
  refine odd_one (good_hall (most := 9999)) g (no_hall h) ?_ (easys_th (by decide) hz) (by rw [bulk_hall]; omega)
  rw [eqv_hall]
  refine decide_eq_false fun e => h (e ▸ hh)
theorem odd_bag {hs ts : List Th} (h : ¬ Hall 4 20 ts) (hz : ∀ t ∈ ts, t.1 < 1000 ∧ t.2 ≤ 10000) (hl : ts.length ≤ 100) : Odd hs (hallD hs) (hallD ts) :=
  odd_two (good_hall (most := 9999)) (no_hall h) (easys_th (by decide) hz) (by rw [bulk_hall]; omega)
@[simp] theorem oSl_drop (ts : List Th) (k : Int) (R : D → Prop) (h : 0 ≤ k) : oSl (hallD ts) (some k) none R ↔ R (hallD (ts.drop k.toNat)) := by
  have e : cutD (ts.map thD) (some k) none = (ts.drop k.toNat).map thD := by
    obtain ⟨n, rfl⟩ := Int.eq_ofNat_of_zero_le h
    unfold cutD
    have e0 : HT.sIx (ts.map thD).length (ts.map thD).length none = (ts.map thD).length := rfl
    rw [HT.sIx_nat, e0, List.length_map]
    simp
    rcases Nat.le_total n ts.length with h1 | h1
    · rw [Nat.min_eq_left h1, List.take_of_length_le (by simp)]
    · rw [Nat.min_eq_right h1]
      simp
      exact h1
  show R (.tuple (cutD (ts.map thD) (some k) none)) ↔ _
  rw [e]
  rfl
def FULL : List Th := List.replicate 30 (97, 4) ++ List.replicate 30 (120, 0)
theorem full_ok : ∀ t ∈ FULL, okT 4 t := fun t ht => by
  unfold FULL at ht
  rcases List.mem_append.mp ht with h | h
  · rw [(List.mem_replicate.mp h).2]; exact .inl ⟨by decide, by decide⟩
  · rw [(List.mem_replicate.mp h).2]; exact .inr ⟨by decide, by decide⟩
theorem full_hall : Hall 9999 60 FULL := ⟨fun t ht => okT_mono (by decide) (full_ok t ht), by decide +kernel, by decide⟩
theorem full_drop (k : Nat) : Hall 9999 60 (FULL.drop k) := full_hall.sub (List.drop_sublist _ _) (by rw [List.length_drop]; exact Nat.le_trans (Nat.sub_le _ _) full_hall.len)
def B19 : List Th := List.replicate 19 (97, 4) ++ [(120, 0)]
def B20 : List Th := List.replicate 20 (97, 4)
theorem b19_hall : Hall 4 20 B19 := ⟨fun t ht => full_ok t (by
  unfold B19 at ht
  rcases List.mem_append.mp ht with h | h
  · rw [(List.mem_replicate.mp h).2]; decide
  · simp at h; rw [h]; decide), by decide +kernel, by decide⟩
theorem b20_hall : Hall 4 20 B20 := ⟨fun t ht => full_ok t (by
  rw [(List.mem_replicate.mp ht).2]; decide), by decide +kernel, by decide⟩
theorem has1 : hasL FULL B19 = true := by unfold hasL; simp only [bagT_count]; decide +kernel
theorem has2 : hasL (FULL.drop 11) B20 = false := by unfold hasL; simp only [bagT_count]; decide +kernel
theorem has3 : hasL (FULL.drop 10) B20 = true := by unfold hasL; simp only [bagT_count]; decide +kernel
theorem oEq_gd {a b : D} {R : D → Prop} (ha : Gd a) (hb : Gd b) (r : R (.bool (PyData.eqv a b))) : oEq a b R := ⟨⟨ha.plain, hb.plain, by have := ha.2; omega⟩, r⟩
def odds7 (hs : List Th) : List D := [.tuple [.none, .tuple []], .tuple [.list [thD (97, 0)], .none], .tuple [hallD [(97, 10000)], .tuple []], .tuple [hallD [(120, 1)], .tuple [.str ⟨#[97]⟩]], .tuple [hallD hs, .none], .tuple [hallD hs, hallD [(97, 5)]], .tuple [hallD hs, hallD [(98, 0), (97, 0)]]]
def odds2 (hs ks : List Th) : List D := [.tuple [hallD hs, .list (ks.map thD)], .tuple [hallD hs, hallD (List.replicate 21 (97, 4))]]
theorem odds_ok {hs ks : List Th} (hh : Hall 9999 60 hs) (hk : Hall 4 20 ks) : ∀ d ∈ odds7 hs ++ odds2 hs ks, ∃ one two, d = .tuple [one, two] ∧ Odd hs one two := by
  intro d hd
  simp only [odds7, odds2, List.cons_append, List.nil_append, List.mem_cons, List.not_mem_nil, or_false] at hd
  have gt : Gd (.tuple []) := ⟨rfl, by decide⟩
  have gn : Gd .none := ⟨rfl, by decide⟩
  have gl : Gd (.list (ks.map thD)) := good_hall (most := 4) (ts := ks)
  rcases hd with rfl | rfl | rfl | rfl | rfl | rfl | rfl | rfl | rfl
  · exact ⟨_, _, rfl, odd_one gn gt rfl rfl rfl (by decide)⟩
  · exact ⟨_, _, rfl, odd_one ⟨by decide +kernel, by decide +kernel⟩ gn rfl rfl (by decide +kernel) (by decide +kernel)⟩
  · refine ⟨_, _, rfl, odd_hall hh (fun z => ?_) (by simp) (by simp) gt⟩
    have := z.ok _ List.mem_cons_self
    simp [okT] at this
  · refine ⟨_, _, rfl, odd_hall hh (fun z => ?_) (by simp) (by simp) ⟨by decide +kernel, by decide +kernel⟩⟩
    have := z.ok _ List.mem_cons_self
    simp [okT] at this
  · exact ⟨_, _, rfl, odd_two gn rfl rfl (by decide)⟩
  · refine ⟨_, _, rfl, odd_bag (fun z => ?_) (by simp) (by simp)⟩
    have := z.ok _ List.mem_cons_self
    simp [okT] at this
  · refine ⟨_, _, rfl, odd_bag (fun z => ?_) (by simp) (by simp)⟩
    have := z.sorted
    simp [leT, ltT] at this
  · refine ⟨_, _, rfl, odd_two gl rfl (easy_hall (by decide) hk) ?_⟩
    have := bulk_hall ks
    have h2 := hk.len
    show PyData.bulkAll (ks.map thD) ≤ 10000
    rw [bulk_th]; omega
  · refine ⟨_, _, rfl, odd_bag (fun z => ?_) (fun t ht => ?_) (by simp)⟩
    · have := z.len
      simp at this
    · rw [(List.mem_replicate.mp ht).2]; decide
theorem hall_one {k a : Nat} (h : okT 4 (k, a)) {ks : List Th} (hk : Hall 4 20 ks) : Hall 4 20 (sortT (ks.take 19 ++ [(k, a)])) := by
  refine hall_sort (fun t ht => ?_) (by simp; omega)
  rcases List.mem_append.mp ht with h1 | h1
  · exact hk.ok t (List.mem_of_mem_take h1)
  · simp at h1; rw [h1]; exact h
theorem leT_self (a : Th) : leT a a = true := by rcases leT_total a a with h | h <;> exact h
theorem hall_rep {ks : List Th} (hk : Hall 4 20 ks) : Hall 4 20 (List.replicate 3 (ks.take 1)).flatten := by
  cases ks with
  | nil => exact ⟨by simp, by simp, by simp⟩
  | cons x ks =>
    have hx := hk.ok x List.mem_cons_self
    have e : (List.replicate 3 ((x :: ks).take 1)).flatten = [x, x, x] := by simp [List.replicate]
    rw [e]
    refine ⟨fun t ht => ?_, ?_, by simp⟩
    · simp at ht; rw [ht]; exact hx
    · simp [leT_self]
@[simp] theorem oRep_hall (ts : List Th) (k : Int) (R : D → Prop) : oRepT (hallD ts) (.int k) R ↔ -1000 ≤ k ∧ k ≤ 1000 ∧ ts.length ≤ 1000 ∧ R (hallD (List.replicate k.toNat ts).flatten) := by
  show oRepT (.tuple (ts.map thD)) (.int k) R ↔ _
  rw [oRepT_, List.length_map]
  have e : (List.replicate k.toNat (ts.map thD)).flatten = ((List.replicate k.toNat ts).flatten).map thD := by
    rw [List.map_flatten, List.map_replicate]
  rw [e]
  rfl
end PL
end

section
set_option Elab.async false
set_option linter.all false
set_option maxRecDepth 100000
set_option maxHeartbeats 4000000
namespace PL
open PySem PySem.Spec PyProof.Rows L2 PySem.NumText
/-! ### texts as rows of signs -/
abbrev tx (l : List Nat) : Str := ⟨l.toArray⟩
theorem tx_of (x : Str) : x = tx x.cps.toList := rfl
theorem tx_ex (x : Str) : ∃ l, x = tx l := ⟨_, rfl⟩
@[simp] theorem tx_len (l : List Nat) : (tx l).length = l.length := by simp [Str.length]
@[simp] theorem tx_app (a b : List Nat) : tx a ++ tx b = tx (a ++ b) := by
  show (⟨a.toArray ++ b.toArray⟩ : Str) = ⟨(a ++ b).toArray⟩
  simp
theorem tx_inj {a b : List Nat} (h : tx a = tx b) : a = b := by
  have := congrArg (fun x : Str => x.cps.toList) h
  simpa using this
theorem tx_eq (a b : List Nat) : (tx a == tx b) = decide (a = b) := by
  by_cases h : a = b
  · subst h; simp
  · have : tx a ≠ tx b := fun e => h (tx_inj e)
    simp [h, this]
theorem eqv_tx (a b : List Nat) : PyData.eqv (.str (tx a)) (.str (tx b)) = decide (a = b) := by
  show (tx a == tx b) = _
  exact tx_eq a b
/-! ### numbers as they are printed -/
def dg (n : Nat) : List Nat := (Nat.toDigits 10 n).map Char.toNat
theorem dg_str (n : Nat) : Str.ofString (toString (n : Int)) = tx (dg n) := by
  rw [tx_of (Str.ofString (toString (n : Int))), PySem.W.KIN.signs_num]; rfl
@[simp] theorem dg_repr (n : Nat) : Str.ofString ((n : Int).repr) = tx (dg n) := dg_str n
@[simp] theorem empty_tx : Str.empty = tx [] := rfl
theorem dg_all (n : Nat) : AllDigits (dg n) := by
  intro c hc
  obtain ⟨ch, hch, e⟩ := List.mem_map.mp hc
  rw [← e]
  exact digit_range (Nat.isDigit_of_mem_toDigits (by decide) (by decide) hch)
theorem dg_ne (n : Nat) : dg n ≠ [] := by
  intro e
  have h := toDigits_len_ge 10 n
  rw [List.map_eq_nil_iff.mp e] at h
  exact absurd h (by decide)
theorem dg_val (n : Nat) : digitsVal (dg n) = n := PySem.W.KIN.val_back n
theorem dg_inj {a b : Nat} (h : dg a = dg b) : a = b := by rw [← dg_val a, h, dg_val]
theorem dg_len {n k : Nat} (hk : 0 < k) (h : n < 10 ^ k) : (dg n).length ≤ k := by
  unfold dg
  rw [List.length_map]
  have := Nat.length_toDigits_le_iff (b := 10) (n := n) (k := k) (by decide) hk
  exact this.mpr h
theorem char_toNat : ∀ c : Nat, c < 58 → (Char.ofNat c).toNat = c := by decide
structure Canon (cs : List Nat) : Prop where
  all : AllDigits cs
  ne : cs ≠ []
  head : cs.length = 1 ∨ ∃ c r, cs = c :: r ∧ 49 ≤ c
theorem dg_of {cs : List Nat} (h : Canon cs) : dg (digitsVal cs) = cs := by
  obtain ⟨n, hn⟩ : ∃ n, cs.length = n + 1 := ⟨cs.length - 1, by have := List.length_pos_iff.mpr h.ne; omega⟩
  have := toDigits_digitsVal n cs hn h.all (h.head.imp (fun z => by omega) id)
  unfold dg
  rw [this, List.map_map]
  refine (List.map_congr_left fun c hc => ?_).trans (List.map_id' cs)
  have hc' := h.all c hc
  show (Char.ofNat c).toNat = c
  exact char_toNat c (by omega)
theorem dg_step {n : Nat} (h : 10 ≤ n) : ∃ c, dg n = dg (n / 10) ++ [c] := by
  unfold dg
  rw [Nat.toDigits_of_base_le (by decide) h, List.map_append]
  exact ⟨_, rfl⟩
theorem dg_one {n : Nat} (h : n < 10) : dg n = [48 + n] := by
  unfold dg
  rw [Nat.toDigits_of_lt_base h, List.map_singleton, Nat.toNat_digitChar_of_lt_ten h]
theorem dg_head (n : Nat) : 0 < n → ∃ c r, dg n = c :: r ∧ 49 ≤ c := by
  induction n using Nat.strongRecOn with
  | _ n ih =>
    intro h0
    by_cases h : n < 10
    · exact ⟨48 + n, [], dg_one h, by omega⟩
    · obtain ⟨c, r, e, hc⟩ := ih (n / 10) (by omega) (by omega)
      obtain ⟨d, e2⟩ := dg_step (by omega : 10 ≤ n)
      exact ⟨c, r ++ [d], by rw [e2, e]; rfl, hc⟩
theorem canon_dg (n : Nat) : Canon (dg n) := by
  refine ⟨dg_all n, dg_ne n, ?_⟩
  by_cases h : n < 10
  · exact .inl (by rw [dg_one h]; rfl)
  · exact .inr (dg_head n (by omega))
/-! ### a text's parts -/
def joinL (c : Nat) : List (List Nat) → List Nat
  | [] => []
  | [w] => w
  | w :: v :: ws => w ++ c :: joinL c (v :: ws)
def splitL (c : Nat) : List Nat → List (List Nat)
  | [] => [[]]
  | x :: l => if x = c then [] :: splitL c l else match splitL c l with
    | [] => [[x]]
    | w :: ws => (x :: w) :: ws
theorem splitL_cons (c x : Nat) (l : List Nat) : splitL c (x :: l) = if x = c then [] :: splitL c l else match splitL c l with
    | [] => [[x]]
    | w :: ws => (x :: w) :: ws := by rw [splitL]
theorem splitL_ne (c : Nat) (l : List Nat) : splitL c l ≠ [] := by
  cases l with
  | nil => simp [splitL]
  | cons x l =>
    unfold splitL
    by_cases h : x = c
    · simp [h]
    · simp only [h, if_false]
      cases splitL c l <;> simp
theorem joinL_cons (c x : Nat) (w : List Nat) (ws : List (List Nat)) : joinL c ((x :: w) :: ws) = x :: joinL c (w :: ws) := by
  cases ws <;> rfl
theorem join_splitL (c : Nat) : ∀ l : List Nat, joinL c (splitL c l) = l
  | [] => rfl
  | x :: l => by
    have ih := join_splitL c l
    unfold splitL
    by_cases h : x = c
    · simp only [h, if_true]
      cases e : splitL c l with
      | nil => exact absurd e (splitL_ne c l)
      | cons w ws =>
        rw [e] at ih
        show [] ++ c :: joinL c (w :: ws) = c :: l
        rw [ih]; rfl
    · simp only [h, if_false]
      cases e : splitL c l with
      | nil => exact absurd e (splitL_ne c l)
      | cons w ws =>
        rw [e] at ih
        show joinL c ((x :: w) :: ws) = x :: l
        rw [joinL_cons, ih]
theorem splitL_free (c : Nat) : ∀ l : List Nat, ∀ w ∈ splitL c l, c ∉ w
  | [], w, hw => by
    simp [splitL] at hw
    rw [hw]; simp
  | x :: l, w, hw => by
    have ih := splitL_free c l
    unfold splitL at hw
    by_cases h : x = c
    · simp only [h, if_true, List.mem_cons] at hw
      rcases hw with rfl | hw
      · simp
      · exact ih w hw
    · simp only [h, if_false] at hw
      cases e : splitL c l with
      | nil => exact absurd e (splitL_ne c l)
      | cons v ws =>
        rw [e] at hw ih
        rcases List.mem_cons.mp hw with rfl | hw
        · intro hm
          rcases List.mem_cons.mp hm with hm | hm
          · exact h hm.symm
          · exact ih v List.mem_cons_self hm
        · exact ih w (List.mem_cons_of_mem _ hw)
theorem splitL_word {c : Nat} : ∀ {w : List Nat}, c ∉ w → splitL c w = [w]
  | [], _ => rfl
  | x :: w, h => by
    have h1 : ¬ x = c := fun e => h (by rw [e]; exact List.mem_cons_self)
    have ih := splitL_word (w := w) fun z => h (List.mem_cons_of_mem _ z)
    rw [splitL_cons, if_neg h1, ih]
theorem splitL_app {c : Nat} (l : List Nat) : ∀ {w : List Nat}, c ∉ w → splitL c (w ++ c :: l) = w :: splitL c l
  | [], _ => by
    show splitL c (c :: l) = _
    rw [splitL_cons, if_pos rfl]
  | x :: w, h => by
    have h1 : ¬ x = c := fun e => h (by rw [e]; exact List.mem_cons_self)
    have ih := splitL_app l (w := w) fun z => h (List.mem_cons_of_mem _ z)
    show splitL c (x :: (w ++ c :: l)) = _
    rw [splitL_cons, if_neg h1, ih]
theorem split_joinL {c : Nat} : ∀ {ws : List (List Nat)}, ws ≠ [] → (∀ w ∈ ws, c ∉ w) → splitL c (joinL c ws) = ws
  | [], h, _ => absurd rfl h
  | [w], _, h => splitL_word (h w List.mem_cons_self)
  | w :: v :: ws, _, h => by
    show splitL c (w ++ c :: joinL c (v :: ws)) = _
    rw [splitL_app _ (h w List.mem_cons_self), split_joinL (by simp) fun u hu => h u (List.mem_cons_of_mem _ hu)]
theorem str_join (c : Nat) : ∀ ws : List (List Nat), Str.join (tx [c]) (ws.map tx) = tx (joinL c ws)
  | [] => rfl
  | [w] => rfl
  | w :: v :: ws => by
    have ih := str_join c (v :: ws)
    show tx w ++ tx [c] ++ Str.join (tx [c]) ((v :: ws).map tx) = _
    rw [ih, tx_app, tx_app]
    show tx (w ++ [c] ++ joinL c (v :: ws)) = tx (w ++ c :: joinL c (v :: ws))
    simp
theorem strs_tx (ys : List Str) : ys = (ys.map fun y => y.cps.toList).map tx := by
  rw [List.map_map]
  exact (List.map_id' ys).symm
theorem split_ne (x y : Str) : Txt.split x y ≠ [] := by
  unfold Txt.split
  split
  · simp
  · split
    · simp
    · rw [StrLaws.partsBetween_eq]
      obtain ⟨p, r, e⟩ := StrLaws.partsFrom_ne x y.length 0 (Builtin.Str.occurrences x y 0 x.length (x.length + 1))
      rw [e]; simp
theorem split_eq (l : List Nat) (c : Nat) : Txt.split (tx l) (tx [c]) = (splitL c l).map tx := by
  have h1 := StrLaws.join_split (tx l) (tx [c])
  have h2 := StrLaws.split_free (tx l) c
  have e := strs_tx (Txt.split (tx l) (tx [c]))
  have hn := split_ne (tx l) (tx [c])
  generalize Txt.split (tx l) (tx [c]) = ys at h1 h2 e hn
  have hl : joinL c (ys.map fun y => y.cps.toList) = l := by
    rw [e, str_join] at h1
    exact tx_inj h1
  rw [← hl, split_joinL (by simpa using hn) (fun w hw => by
    obtain ⟨y, hy, rfl⟩ := List.mem_map.mp hw
    exact h2 y hy)]
  exact e
/-! ### the first place of a sign behind an index -/
theorem subAt_tx (l : List Nat) (c i : Nat) : StrLaws.At (tx l) (tx [c]) (tx l).length i ↔ l[i]? = some c := by
  have := StrLaws.subAt_one (tx l) c i
  simpa [StrLaws.At] using this
theorem occ_at (x y : Str) (lo : Nat) : (Builtin.Str.occurrences x y lo x.length 1 = [] ∧ ∀ i, lo ≤ i → ¬ StrLaws.At x y x.length i) ∨
    ∃ i r, Builtin.Str.occurrences x y lo x.length 1 = i :: r ∧ lo ≤ i ∧ StrLaws.At x y x.length i ∧ ∀ k, lo ≤ k → k < i → ¬ StrLaws.At x y x.length k := by
  rw [StrLaws.occ_eq]
  rcases StrLaws.occ_first x y x.length 1 (Nat.le_refl _) (List.range' lo (x.length + 1 - lo)) lo (fun i hi => (List.mem_range'_1.mp hi).1) with ⟨h0, hn⟩ | ⟨pre, a, post, e, h0, ha, hn⟩
  · refine .inl ⟨by rw [h0], fun i h1 hi => ?_⟩
    exact hn i (List.mem_range'_1.mpr ⟨h1, by have := hi.1; omega⟩) hi
  · have hlen : pre.length + lo = a := by
      have h1 : (List.range' lo (x.length + 1 - lo))[pre.length]? = some a := by rw [e]; simp
      obtain ⟨hz, h2⟩ := List.getElem?_eq_some_iff.mp h1
      rw [List.getElem_range'] at h2
      omega
    have hpre : ∀ k, lo ≤ k → k < a → k ∈ pre := fun k h1 h2 => by
      have h3 : (List.range' lo (x.length + 1 - lo))[k - lo]? = pre[k - lo]? := by rw [e, List.getElem?_append_left (by omega)]
      have h4 : (List.range' lo (x.length + 1 - lo))[k - lo]? = some k := by
        have hz : k - lo < (List.range' lo (x.length + 1 - lo)).length := by rw [e, List.length_append]; omega
        rw [List.getElem?_eq_getElem hz, List.getElem_range']
        congr 1
        omega
      exact List.mem_of_getElem? (h3.symm.trans h4)
    refine .inr ⟨a, ((forIn (List.range' lo (x.length + 1 - lo)) ((#[] : Array Nat), lo) (StrLaws.occBody x y x.length 1)).run.fst.toList).tail, ?_, by omega, ha, fun k h1 h2 => hn k (hpre k h1 h2)⟩
    generalize (forIn (List.range' lo (x.length + 1 - lo)) ((#[] : Array Nat), lo) (StrLaws.occBody x y x.length 1)).run.fst = arr at h0
    have h1 : arr.toList[0]? = some a := by simpa using h0
    cases hL : arr.toList with
    | nil => rw [hL] at h1; cases h1
    | cons b r => rw [hL] at h1; simp at h1; rw [h1]; rfl
theorem fromIx {n i : Nat} : PySem.fromIndex n (i : Int) = i := by
  unfold PySem.fromIndex
  rw [if_neg (by omega)]
  omega
theorem find3_hit {l p r : List Nat} {c i : Nat} (e : l.drop i = p ++ c :: r) (hp : c ∉ p) : Txt.find3 (tx l) (tx [c]) (i : Int) = ((i + p.length : Nat) : Int) := by
  have hget : ∀ k, l[i + k]? = (p ++ c :: r)[k]? := fun k => by rw [← e, List.getElem?_drop]
  have hit : StrLaws.At (tx l) (tx [c]) (tx l).length (i + p.length) := (subAt_tx _ _ _).mpr (by rw [hget]; simp)
  unfold Txt.find3
  rw [fromIx]
  rcases occ_at (tx l) (tx [c]) i with ⟨_, hn⟩ | ⟨a, t, h1, h2, h3, h4⟩
  · exact absurd hit (hn _ (by omega))
  · rw [h1]
    have h5 := (subAt_tx _ _ _).mp h3
    have : a = i + p.length := by
      rcases Nat.lt_trichotomy a (i + p.length) with z | z | z
      · exfalso
        obtain ⟨k, rfl⟩ := Nat.exists_eq_add_of_le h2
        rw [hget, List.getElem?_append_left (by omega)] at h5
        exact hp (List.mem_of_getElem? h5)
      · exact z
      · exact absurd hit (h4 _ (by omega) z)
    rw [this]
theorem find3_miss {l : List Nat} {c i : Nat} (h : c ∉ l.drop i) : Txt.find3 (tx l) (tx [c]) (i : Int) = -1 := by
  unfold Txt.find3
  rw [fromIx]
  rcases occ_at (tx l) (tx [c]) i with ⟨h1, _⟩ | ⟨a, t, h1, h2, h3, h4⟩
  · rw [h1]
  · exfalso
    have h5 := (subAt_tx _ _ _).mp h3
    obtain ⟨k, rfl⟩ := Nat.exists_eq_add_of_le h2
    rw [← List.getElem?_drop] at h5
    exact h (List.mem_of_getElem? h5)
theorem first_of {c : Nat} : ∀ {l : List Nat}, c ∈ l → ∃ p r, l = p ++ c :: r ∧ c ∉ p
  | [], h => by cases h
  | x :: l, h => by
    by_cases hx : x = c
    · exact ⟨[], l, by rw [hx]; rfl, by simp⟩
    · obtain ⟨p, r, e, hp⟩ := first_of (l := l) (by
        rcases List.mem_cons.mp h with h | h
        · exact absurd h.symm hx
        · exact h)
      exact ⟨x :: p, r, by rw [e]; rfl, by
        intro z
        rcases List.mem_cons.mp z with z | z
        · exact hx z.symm
        · exact hp z⟩
/-! ### slices -/
theorem cutS_to (l : List Nat) (j : Nat) : cutS (tx l) none (some (j : Int)) = tx (l.take j) := by
  unfold cutS
  rw [HT.sIx_nat, HT.sIx_none, tx_len]
  simp only [List.drop_zero, Nat.sub_zero]
  congr 2
  rw [← List.take_take]
  simp
theorem cutS_from (l : List Nat) (i : Nat) : cutS (tx l) (some (i : Int)) none = tx (l.drop i) := by
  unfold cutS
  rw [HT.sIx_nat, HT.sIx_none, tx_len]
  show tx ((l.drop (min i l.length)).take (l.length - min i l.length)) = _
  rcases Nat.le_total i l.length with h | h
  · rw [Nat.min_eq_left h, List.take_of_length_le (by simp)]
  · rw [Nat.min_eq_right h, List.drop_of_length_le h]
    simp
theorem cutS_mid (l : List Nat) (i j : Nat) : cutS (tx l) (some (i : Int)) (some (j : Int)) = tx ((l.drop i).take (j - i)) := by
  unfold cutS
  rw [HT.sIx_nat, HT.sIx_nat, tx_len]
  show tx ((l.drop (min i l.length)).take (min j l.length - min i l.length)) = _
  congr 1
  rcases Nat.le_total i l.length with h | h
  · rw [Nat.min_eq_left h]
    rcases Nat.le_total j l.length with h2 | h2
    · rw [Nat.min_eq_left h2]
    · rw [Nat.min_eq_right h2, List.take_of_length_le (by simp), List.take_of_length_le (by simp; omega)]
  · rw [Nat.min_eq_right h, List.drop_of_length_le h]
    simp
@[simp] theorem oSl_to (l : List Nat) (j : Nat) (R : D → Prop) : oSl (.str (tx l)) none (some (j : Int)) R ↔ l.length ≤ sizeLine ∧ R (.str (tx (l.take j))) := by
  show ((tx l).length ≤ sizeLine ∧ R (.str (cutS (tx l) none (some (j : Int))))) ↔ _
  rw [cutS_to, tx_len]
theorem oSl_from (l : List Nat) (j : Nat) (R : D → Prop) : oSl (.str (tx l)) (some (j : Int)) none R ↔ l.length ≤ sizeLine ∧ R (.str (tx (l.drop j))) := by
  show ((tx l).length ≤ sizeLine ∧ R (.str (cutS (tx l) (some (j : Int)) none))) ↔ _
  rw [cutS_from, tx_len]
theorem oSl_mid (l : List Nat) (i j : Nat) (R : D → Prop) : oSl (.str (tx l)) (some (i : Int)) (some (j : Int)) R ↔ l.length ≤ sizeLine ∧ R (.str (tx ((l.drop i).take (j - i)))) := by
  show ((tx l).length ≤ sizeLine ∧ R (.str (cutS (tx l) (some (i : Int)) (some (j : Int))))) ↔ _
  rw [cutS_mid, tx_len]
theorem oSl_add (l : List Nat) (i k : Nat) (R : D → Prop) : oSl (.str (tx l)) (some (i : Int)) (some ((i : Int) + (k : Int))) R ↔ l.length ≤ sizeLine ∧ R (.str (tx ((l.drop i).take k))) := by
  have := oSl_mid l i (i + k) R
  rw [Nat.add_sub_cancel_left] at this
  exact this
theorem oSl_add1 (l : List Nat) (i : Nat) (R : D → Prop) : oSl (.str (tx l)) (some (i : Int)) (some ((i : Int) + 1)) R ↔ l.length ≤ sizeLine ∧ R (.str (tx ((l.drop i).take 1))) := oSl_add l i 1 R
/-! ### a text, so many times -/
theorem foldl_app : ∀ (n : Nat) (a b : Array Nat), ((List.replicate n a).foldl (· ++ ·) b).toList = b.toList ++ (List.replicate n a.toList).flatten
  | 0, a, b => by simp
  | n + 1, a, b => by
    rw [List.replicate_succ, List.foldl_cons, foldl_app n a (b ++ a), List.replicate_succ, List.flatten_cons]
    simp
theorem mul_tx (l : List Nat) (n : Int) : Txt.mul (tx l) n = tx (List.replicate n.toNat l).flatten := by
  unfold Txt.mul
  split
  · rename_i h
    rw [Int.toNat_of_nonpos (by omega)]
    rfl
  · split
    · rename_i h1 h2
      simp only [Bool.or_eq_true, beq_iff_eq, tx_len] at h2
      rcases h2 with h2 | h2
      · rw [h2]
        show tx l = tx (List.replicate 1 l).flatten
        simp
      · have : l = [] := List.length_eq_zero_iff.mp h2
        subst this
        simp
    · show tx ((List.replicate n.toNat l.toArray).foldl (· ++ ·) #[]).toList = _
      rw [foldl_app]
      rfl
section
variable {X : Cx}
def oRepS : OpT := fun d e R => ∃ l k, d = .str (tx l) ∧ e = .int k ∧ -1000 ≤ k ∧ k ≤ 1000 ∧ l.length ≤ 1000 ∧ R (.str (tx (List.replicate k.toNat l).flatten))
theorem opd_repS : OpD X (binaryOp .Mult) oRepS := by
  intro pins s σ H x y v u Q I rx ry ⟨W, d, e, R, w, a, b, ⟨l, n, hd, he, h2, h3, h4, q⟩, k⟩
  subst hd; subst he
  have e1 := a.str; have e2 := b.int
  subst e1; subst e2
  obtain ⟨t, rfl⟩ := rx
  obtain ⟨t2, rfl⟩ := ry
  refine SB.mul ⟨?_, ?_, ?_⟩ fun t' kk => ?_
  · simp; omega
  · intro h5 _ h6
    rw [tx_len] at h6
    have h7 : ((l.length : Nat) : Int) * n ≤ 1000 * 1000 := Int.mul_le_mul (by omega) (by omega) (by omega) (by omega)
    have h8 : ((l.length : Nat) : Int) ≤ (2 ^ 63 - 1) / n := Int.le_ediv_of_mul_le (by omega) (by omega)
    omega
  · intro h5 h6
    rw [tx_len]
    have h7 : l.length * n.toNat ≤ 1000 * 1000 := Nat.mul_le_mul h4 (by omega)
    have hS : 1000000 ≤ sizeLine := by rw [sizeLine_eq]; decide
    exact decide_eq_false (by omega)
  · rw [mul_tx]
    exact ⟨.str _, H, I.tok _, ⟨_, rfl⟩, k _ _ H (Same.refl H) (.str _) q⟩
end
end PL
end

section
set_option Elab.async false
set_option linter.all false
set_option maxRecDepth 100000
set_option maxHeartbeats 4000000
namespace PL
open PySem PySem.Spec PyProof.Rows L2 PySem.NumText
/-! ### what is told alike, by size -/
structure Ev (n k : Nat) (d : D) : Prop where
  e : easy d = true
  b : d.bulk ≤ n
  dp : d.depth ≤ k
theorem Ev.ok {n k : Nat} {d : D} (h : Ev n k d) (hn : n ≤ 2 ^ 20) (hk : k ≤ 60) : evenOk d := even_of h.e (by have := h.b; omega) (by have := h.dp; omega)
theorem Ev.mono {n k m j : Nat} {d : D} (h : Ev n k d) (hn : n ≤ m) (hk : k ≤ j) : Ev m j d := ⟨h.e, by have := h.b; omega, by have := h.dp; omega⟩
theorem ev_all {n k : Nat} : ∀ {ds : List D}, (∀ d ∈ ds, Ev n k d) → easys ds = true ∧ PyData.bulkAll ds ≤ (n + 1) * ds.length ∧ PyData.depthAll ds ≤ k
  | [], _ => ⟨rfl, Nat.zero_le _, Nat.zero_le _⟩
  | d :: ds, h => by
    obtain ⟨h1, h2, h3⟩ := ev_all fun e he => h e (List.mem_cons_of_mem _ he)
    have z := h d List.mem_cons_self
    refine ⟨by simp [easys, z.e, h1], ?_, ?_⟩
    · show d.bulk + 1 + PyData.bulkAll ds ≤ _
      have := z.b
      rw [List.length_cons, Nat.mul_add]
      omega
    · show max d.depth (PyData.depthAll ds) ≤ k
      have := z.dp
      omega
theorem ev_tup {n k m : Nat} {ds : List D} (h : ∀ d ∈ ds, Ev n k d) (hm : ds.length ≤ m) : Ev ((n + 1) * m) (k + 1) (.tuple ds) := by
  obtain ⟨h1, h2, h3⟩ := ev_all h
  refine ⟨h1, Nat.le_trans h2 (Nat.mul_le_mul_left _ hm), ?_⟩
  show PyData.depthAll ds + 1 ≤ k + 1
  omega
theorem ev_lst {n k m : Nat} {ds : List D} (h : ∀ d ∈ ds, Ev n k d) (hm : ds.length ≤ m) : Ev ((n + 1) * m) (k + 1) (.list ds) := by
  obtain ⟨h1, h2, h3⟩ := ev_all h
  refine ⟨h1, Nat.le_trans h2 (Nat.mul_le_mul_left _ hm), ?_⟩
  show PyData.depthAll ds + 1 ≤ k + 1
  omega
theorem ev_str {n k : Nat} {l : List Nat} (h : ∀ c ∈ l, c < 128) (hl : l.length ≤ n) : Ev n k (.str (tx l)) := by
  refine ⟨?_, ?_, Nat.zero_le _⟩
  · show (l.toArray.toList.all fun c => decide (c < 16 ^ 8)) = true
    rw [List.all_eq_true]
    intro c hc
    have := h c (by simpa using hc)
    exact decide_eq_true (by omega)
  · show (tx l).cps.size ≤ n
    simpa using hl
theorem ev_int {n k : Nat} {i : Int} (h : i.natAbs < 10 ^ 12) : Ev n k (.int i) := ⟨decide_eq_true h, Nat.zero_le _, Nat.zero_le _⟩
theorem ev_none {n k : Nat} : Ev n k .none := ⟨rfl, Nat.zero_le _, Nat.zero_le _⟩
theorem ev_bool {n k : Nat} {b : Bool} : Ev n k (.bool b) := ⟨rfl, Nat.zero_le _, Nat.zero_le _⟩
/-! ### frames of lines -/
abbrev stD (l : List Nat) : D := .str (tx l)
def chk (l : List Nat) : Nat := l.foldl (fun a c => (a * 5 + c) % 83) 0
def fr (l : List Nat) : List Nat := dg l.length ++ 32 :: (dg (chk l) ++ 32 :: (l ++ [59]))
def SEAL : List Nat := [115, 101, 97, 108, 101, 100, 32]
def isL (l : List Nat) : Bool := decide (l.length ≤ 200) || decide (l.take 7 = SEAL)
def Lead (l ln : List Nat) : Prop := isL ln = true ∧ ∃ r, l = fr ln ++ r
theorem chk_lt (l : List Nat) : chk l < 83 := by
  have : ∀ (l : List Nat) (a : Nat), a < 83 → l.foldl (fun a c => (a * 5 + c) % 83) a < 83 := fun l => by
    induction l with
    | nil => exact fun a h => h
    | cons c l ih => exact fun a _ => ih _ (Nat.mod_lt _ (by decide))
  exact this l 0 (by decide)
theorem first_uniq {c : Nat} : ∀ {p q r s : List Nat}, p ++ c :: r = q ++ c :: s → c ∉ p → c ∉ q → p = q ∧ r = s
  | [], [], r, s, h, _, _ => by simpa using h
  | [], y :: q, r, s, h, _, h2 => by
    simp only [List.nil_append, List.cons_append, List.cons.injEq] at h
    exact absurd (h.1 ▸ List.mem_cons_self) h2
  | x :: p, [], r, s, h, h1, _ => by
    simp only [List.nil_append, List.cons_append, List.cons.injEq] at h
    exact absurd (h.1 ▸ List.mem_cons_self) h1
  | x :: p, y :: q, r, s, h, h1, h2 => by
    simp only [List.cons_append, List.cons.injEq] at h
    obtain ⟨e1, e2⟩ := first_uniq h.2 (fun z => h1 (List.mem_cons_of_mem _ z)) (fun z => h2 (List.mem_cons_of_mem _ z))
    exact ⟨by rw [h.1, e1], e2⟩
theorem dg_no {n c : Nat} (h : c < 48 ∨ 57 < c) : c ∉ dg n := fun hm => by have := dg_all n c hm; omega
theorem dg_first {n m : Nat} {r s : List Nat} (h : dg n ++ 32 :: r = dg m ++ 32 :: s) : n = m ∧ r = s := by
  obtain ⟨e1, e2⟩ := first_uniq h (dg_no (by omega)) (dg_no (by omega))
  exact ⟨dg_inj e1, e2⟩
theorem fr_app (l r : List Nat) : fr l ++ r = dg l.length ++ 32 :: (dg (chk l) ++ 32 :: (l ++ 59 :: r)) := by simp [fr]
theorem lead_uniq {l a b : List Nat} (h1 : Lead l a) (h2 : Lead l b) : a = b := by
  obtain ⟨_, r, rfl⟩ := h1
  obtain ⟨_, s, e⟩ := h2
  rw [fr_app, fr_app] at e
  obtain ⟨e1, e2⟩ := dg_first e
  obtain ⟨_, e3⟩ := dg_first e2
  exact (List.append_inj e3 e1).1
theorem fr_len (l : List Nat) : (fr l).length = (dg l.length).length + (dg (chk l)).length + l.length + 3 := by simp [fr]; omega
theorem fr_pos (l : List Nat) : 0 < (fr l).length := by rw [fr_len]; omega
def frs (fs : List (List Nat)) : List Nat := fs.flatMap fr
theorem frs_cons (f : List Nat) (fs : List (List Nat)) : frs (f :: fs) = fr f ++ frs fs := by simp [frs]
@[simp] theorem frs_nil : frs [] = [] := rfl
theorem frs_snoc (f : List Nat) (fs : List (List Nat)) : frs (fs ++ [f]) = frs fs ++ fr f := by simp [frs]
theorem frs_ge : ∀ fs : List (List Nat), fs.length ≤ (frs fs).length
  | [] => by simp
  | f :: fs => by
    have := fr_pos f
    have := frs_ge fs
    rw [frs_cons, List.length_append, List.length_cons]; omega
structure Whole (l : List Nat) (fs : List (List Nat)) (r : List Nat) : Prop where
  eq : l = frs fs ++ r
  all : ∀ ln ∈ fs, isL ln = true
  no : ∀ ln, ¬ Lead r ln
theorem whole_uniq : ∀ {l : List Nat} {fs gs : List (List Nat)} {r s : List Nat}, Whole l fs r → Whole l gs s → fs = gs ∧ r = s
  | l, [], [], r, s, h1, h2 => ⟨rfl, by rw [← show l = r from h1.eq, ← show l = s from h2.eq]⟩
  | l, [], g :: gs, r, s, h1, h2 => by
    have e : l = r := h1.eq
    exact absurd ⟨h2.all g List.mem_cons_self, frs gs ++ s, by rw [← e, h2.eq, frs_cons, List.append_assoc]⟩ (h1.no g)
  | l, f :: fs, [], r, s, h1, h2 => by
    have e : l = s := h2.eq
    exact absurd ⟨h1.all f List.mem_cons_self, frs fs ++ r, by rw [← e, h1.eq, frs_cons, List.append_assoc]⟩ (h2.no f)
  | l, f :: fs, g :: gs, r, s, h1, h2 => by
    have e1 := h1.eq; have e2 := h2.eq
    rw [frs_cons, List.append_assoc] at e1 e2
    have e := lead_uniq (l := l) ⟨h1.all f List.mem_cons_self, _, e1⟩ ⟨h2.all g List.mem_cons_self, _, e2⟩
    subst e
    have e3 : frs fs ++ r = frs gs ++ s := by
      rw [e1] at e2
      exact List.append_cancel_left e2
    obtain ⟨e4, e5⟩ := whole_uniq (l := frs fs ++ r) ⟨rfl, fun x hx => h1.all x (List.mem_cons_of_mem _ hx), h1.no⟩ ⟨e3, fun x hx => h2.all x (List.mem_cons_of_mem _ hx), h2.no⟩
    exact ⟨by rw [e4], e5⟩
theorem whole_frames {fs : List (List Nat)} (h : ∀ ln ∈ fs, isL ln = true) : Whole (frs fs) fs [] :=
  ⟨by simp, h, fun ln ⟨_, r, e⟩ => by
    have := congrArg List.length e
    have := fr_pos ln
    simp at *
    omega⟩
theorem whole_ex (l : List Nat) : ∃ fs r, Whole l fs r := by
  generalize hn : l.length = n
  induction n using Nat.strongRecOn generalizing l with
  | _ n ih =>
    by_cases h : ∃ ln, Lead l ln
    · obtain ⟨ln, h1, r, rfl⟩ := h
      have := fr_pos ln
      obtain ⟨fs, s, w⟩ := ih r.length (by rw [List.length_append] at hn; omega) r rfl
      exact ⟨ln :: fs, s, by rw [w.eq, frs_cons, List.append_assoc], fun x hx => by
        rcases List.mem_cons.mp hx with rfl | hx
        · exact h1
        · exact w.all x hx, w.no⟩
    · exact ⟨[], l, rfl, (fun _ hx => nomatch hx), fun ln hl => h ⟨ln, hl⟩⟩
theorem whole_len {l r : List Nat} {fs : List (List Nat)} (h : Whole l fs r) : fs.length ≤ l.length ∧ r.length ≤ l.length ∧ (frs fs).length ≤ l.length := by
  have e := congrArg List.length h.eq
  rw [List.length_append] at e
  have : ∀ fs : List (List Nat), fs.length ≤ (frs fs).length := fun fs => by
    induction fs with
    | nil => simp
    | cons f fs ih =>
      have := fr_pos f
      rw [frs_cons, List.length_append, List.length_cons]; omega
  have := this fs
  omega
def pairsD : Nat → List (List Nat) → List D
  | _, [] => []
  | s, f :: fs => .tuple [stD f, .int ((s + (fr f).length : Nat) : Int)] :: pairsD (s + (fr f).length) fs
theorem pairsD_snoc : ∀ (s : Nat) (fs : List (List Nat)) (f : List Nat), pairsD s (fs ++ [f]) = pairsD s fs ++ [.tuple [stD f, .int ((s + (frs fs).length + (fr f).length : Nat) : Int)]]
  | s, [], f => by simp [pairsD]
  | s, g :: fs, f => by
    simp only [List.cons_append, pairsD, pairsD_snoc, frs_cons, List.length_append]
    rw [show s + (fr g).length + (frs fs).length = s + ((fr g).length + (frs fs).length) by omega]
theorem pairsD_len : ∀ (s : Nat) (fs : List (List Nat)), (pairsD s fs).length = fs.length
  | _, [] => rfl
  | s, f :: fs => by simp [pairsD, pairsD_len]
/-! ### signs -/
theorem lt_fr {l : List Nat} (h : ∀ c ∈ l, c < 128) : ∀ c ∈ fr l, c < 128 := by
  intro c hc
  simp only [fr, List.mem_append, List.mem_cons, List.not_mem_nil, or_false] at hc
  rcases hc with hc | hc | hc | hc | hc | hc
  · have := dg_all _ c hc; omega
  · omega
  · have := dg_all _ c hc; omega
  · omega
  · exact h c hc
  · omega
/-! ### the law's own reading of a frame -/
def okN (p : List Nat) : Bool := (p.all fun c => decide (48 ≤ c ∧ c ≤ 57)) && (!p.isEmpty && (decide (p.length < 7) && decide (dg (digitsVal p) = p)))
theorem okN_iff (p : List Nat) : okN p = true ↔ (∃ n, p = dg n) ∧ p.length < 7 := by
  unfold okN
  simp only [Bool.and_eq_true, decide_eq_true_eq]
  constructor
  · rintro ⟨_, _, h1, h2⟩
    exact ⟨⟨_, h2.symm⟩, h1⟩
  · rintro ⟨⟨n, rfl⟩, h⟩
    refine ⟨?_, ?_, h, by rw [dg_val]⟩
    · rw [List.all_eq_true]
      intro c hc
      exact decide_eq_true (dg_all n c hc)
    · cases e : dg n with
      | nil => exact absurd e (dg_ne n)
      | cons _ _ => rfl
theorem lead_parts {l ln : List Nat} (h : Lead l ln) (hz : l.length ≤ 100000) : ∃ rest, splitL 32 (l.take 24) = dg ln.length :: dg (chk ln) :: rest ∧ rest ≠ [] ∧ okN (dg ln.length) = true ∧ okN (dg (chk ln)) = true := by
  obtain ⟨hL, r, rfl⟩ := h
  have d1 : (dg ln.length).length ≤ 6 := dg_len (by decide) (by rw [List.length_append, fr_len] at hz; omega)
  have d2 : (dg (chk ln)).length ≤ 2 := dg_len (by decide) (by have := chk_lt ln; omega)
  refine ⟨splitL 32 ((ln ++ 59 :: r).take (24 - ((dg ln.length).length + (dg (chk ln)).length + 2))), ?_, splitL_ne _ _, (okN_iff _).mpr ⟨⟨_, rfl⟩, by omega⟩, (okN_iff _).mpr ⟨⟨_, rfl⟩, by omega⟩⟩
  rw [fr_app]
  have e1 : (dg ln.length ++ 32 :: (dg (chk ln) ++ 32 :: (ln ++ 59 :: r))).take 24 = dg ln.length ++ 32 :: (dg (chk ln) ++ 32 :: (ln ++ 59 :: r).take (24 - ((dg ln.length).length + (dg (chk ln)).length + 2))) := by
    rw [List.take_append, List.take_of_length_le (by omega)]
    congr 1
    obtain ⟨m, hm⟩ : ∃ m, 24 - (dg ln.length).length = m + 1 := ⟨23 - (dg ln.length).length, by omega⟩
    rw [hm, List.take_succ_cons, List.take_append, List.take_of_length_le (by omega)]
    congr 2
    obtain ⟨j, hj⟩ : ∃ j, m - (dg (chk ln)).length = j + 1 := ⟨m - (dg (chk ln)).length - 1, by omega⟩
    rw [hj, List.take_succ_cons]
    congr 2
    omega
  rw [e1, splitL_app _ (dg_no (by omega)), splitL_app _ (dg_no (by omega))]
theorem parts_lead {l p0 p1 x : List Nat} {rest : List (List Nat)} (h : splitL 32 (l.take 24) = p0 :: p1 :: x :: rest) : ∃ r2, l = p0 ++ 32 :: (p1 ++ 32 :: r2) := by
  have e := join_splitL 32 (l.take 24)
  rw [h] at e
  have e2 := List.take_append_drop 24 l
  rw [← e] at e2
  refine ⟨joinL 32 (x :: rest) ++ l.drop 24, e2.symm.trans ?_⟩
  show (p0 ++ 32 :: (p1 ++ 32 :: joinL 32 (x :: rest))) ++ _ = _
  simp
theorem isdigit_tx {p : List Nat} (h : ∀ c ∈ p, c < 128) : Txt.isdigit (tx p) = (!p.isEmpty && (p.all fun c => decide (48 ≤ c ∧ c ≤ 57))) := by
  have h1 : ∀ c, c < 128 → Unicode.isDigit c = decide (48 ≤ c ∧ c ≤ 57) := by decide +kernel
  unfold Txt.isdigit
  rw [tx_len]
  have e1 : decide (p.length > 0) = !p.isEmpty := by cases p <;> simp
  rw [e1]
  congr 1
  show (p.toArray.all Unicode.isDigit) = _
  rw [← Array.all_toList]
  show p.all _ = _
  rw [Bool.eq_iff_iff, List.all_eq_true, List.all_eq_true]
  constructor
  · intro z c hc
    rw [← h1 c (h c hc)]; exact z c hc
  · intro z c hc
    rw [h1 c (h c hc)]; exact z c hc
theorem lcD_any {body : D → (Option D → Prop) → Prop} {R : List D → Prop} (C : D → Prop) : ∀ {ts acc : List D}, (∀ t ∈ ts, ∀ k : Option D → Prop, (∀ y, C y → k (some y)) → body t k) → (∀ ys, ys.length = ts.length → (∀ y ∈ ys, C y) → R (acc ++ ys)) → lcD body ts acc R
  | [], acc, _, r => by have := r [] rfl (by simp); simpa [lcD] using this
  | t :: ts, acc, h, r => by
    show body t _
    refine h t List.mem_cons_self _ fun y hy => ?_
    refine lcD_any C (fun u hu => h u (List.mem_cons_of_mem _ hu)) fun ys h1 h2 => ?_
    have := r (y :: ys) (by simp [h1]) (by
      intro z hz
      rcases List.mem_cons.mp hz with rfl | hz
      · exact hy
      · exact h2 z hz)
    simpa using this
def LineOk (ln : List Nat) : Bool := ((ln.all fun c => decide (c < 128)) && decide (ln.length ≤ 400)) && isL ln
theorem strs_of : ∀ {ds : List D} {C : List Nat → Prop}, (∀ d ∈ ds, ∃ l, d = stD l ∧ C l) → ∃ ls : List (List Nat), ds = ls.map stD ∧ ∀ l ∈ ls, C l
  | [], _, _ => ⟨[], rfl, by simp⟩
  | d :: ds, C, h => by
    obtain ⟨l, rfl, hl⟩ := h d List.mem_cons_self
    obtain ⟨ls, rfl, h2⟩ := strs_of (ds := ds) (C := C) fun e he => h e (List.mem_cons_of_mem _ he)
    exact ⟨l :: ls, rfl, by
      intro z hz
      rcases List.mem_cons.mp hz with rfl | hz
      · exact hl
      · exact h2 z hz⟩
theorem join_mem {c x : Nat} {p : List Nat} (hx : x ∈ p) : ∀ {ps : List (List Nat)}, p ∈ ps → x ∈ joinL c ps
  | [w], h => by simp at h; subst h; exact hx
  | w :: v :: ws, h => by
    show x ∈ w ++ c :: joinL c (v :: ws)
    rcases List.mem_cons.mp h with h | h
    · subst h; exact List.mem_append_left _ hx
    · exact List.mem_append_right _ (List.mem_cons_of_mem _ (join_mem hx h))
theorem join_len {c : Nat} {p : List Nat} : ∀ {ps : List (List Nat)}, p ∈ ps → p.length ≤ (joinL c ps).length
  | [w], h => by simp at h; subst h; exact Nat.le_refl _
  | w :: v :: ws, h => by
    show _ ≤ (w ++ c :: joinL c (v :: ws)).length
    rw [List.length_append, List.length_cons]
    rcases List.mem_cons.mp h with h | h
    · subst h; omega
    · have := join_len (c := c) h; omega
theorem join_count (c : Nat) : ∀ ps : List (List Nat), ps.length ≤ (joinL c ps).length + 1
  | [] => by simp
  | [w] => by simp
  | w :: v :: ws => by
    have := join_count c (v :: ws)
    have e : (joinL c (w :: v :: ws)).length = w.length + ((joinL c (v :: ws)).length + 1) := by
      show (w ++ c :: joinL c (v :: ws)).length = _
      rw [List.length_append, List.length_cons]
    rw [e, List.length_cons]
    omega
theorem cInt_dg {n : Nat} (h : (dg n).length ≤ 600) {R : D → Prop} (r : R (.int (n : Int))) : cInt [stD (dg n)] R :=
  .inr (.inr ⟨tx (dg n), _, rfl, intText_digits (x := tx (dg n)) (by simpa using dg_all n) (by simpa using dg_ne n) (by rw [tx_len]; omega), by rw [tx_len]; omega, by simpa [dg_val] using r⟩)
theorem cInt_digits {p : List Nat} (h : AllDigits p) (hn : p ≠ []) (hl : p.length ≤ 600) {R : D → Prop} (r : R (.int (digitsVal p : Nat))) : cInt [stD p] R :=
  .inr (.inr ⟨tx p, _, rfl, intText_digits (x := tx p) (by simpa using h) (by simpa using hn) (by rw [tx_len]; omega), by rw [tx_len]; omega, by simpa using r⟩)
theorem oEq_st (a b : List Nat) (R : D → Prop) : oEq (stD a) (stD b) R ↔ R (.bool (decide (a = b))) := by
  have : oEq (stD a) (stD b) R = (((stD a).plain = true ∧ (stD b).plain = true ∧ min (stD a).depth (stD b).depth ≤ 60) ∧ R (.bool (PyData.eqv (stD a) (stD b)))) := rfl
  rw [this, eqv_tx]
  simp [PyData.plain, PyData.depth]
theorem oNe_st (a b : List Nat) (R : D → Prop) : oNe (stD a) (stD b) R ↔ R (.bool (!decide (a = b))) := by
  have : oNe (stD a) (stD b) R = (((stD a).plain = true ∧ (stD b).plain = true ∧ min (stD a).depth (stD b).depth ≤ 60) ∧ R (.bool (!PyData.eqv (stD a) (stD b)))) := rfl
  rw [this, eqv_tx]
  simp [PyData.plain, PyData.depth]
theorem log2_lt {n : Nat} (h : n < 2 ^ 100) : n.log2 < 1920 := by
  by_cases h0 : n = 0
  · rw [h0]; decide
  · have : n.log2 < 100 := (Nat.log2_lt h0).mpr h
    omega
theorem digits_lt : ∀ (p : List Nat), AllDigits p → digitsVal p < 10 ^ p.length := by
  have : ∀ (p : List Nat) (a k : Nat), AllDigits p → a < 10 ^ k → p.foldl (fun acc c => acc * 10 + (c - 48)) a < 10 ^ (k + p.length) := fun p => by
    induction p with
    | nil => intro a k _ h; simpa using h
    | cons c p ih =>
      intro a k h hk
      have hc := h c List.mem_cons_self
      have := ih (a * 10 + (c - 48)) (k + 1) (fun x hx => h x (List.mem_cons_of_mem _ hx)) (by rw [Nat.pow_succ]; omega)
      rw [List.length_cons, show k + (p.length + 1) = k + 1 + p.length by omega]
      exact this
  intro p h
  have := this p 0 0 h (by decide)
  rw [Nat.zero_add] at this
  exact this
/-! ### steps of a reading -/
theorem asg_of {te : TrE} {i : Nat} {rest : TrS} {B : EnB} {ρ : En} (C : D → Prop) (h : ∀ K : D → Prop, (∀ d, C d → K d) → te ρ K) (k : ∀ d, C d → rest B (ρ.set i (.val d))) : qSeq (qAsg te (gNm i)) rest B ρ := h _ k
theorem if_of {tc : TrT} {ta tb rest : TrS} {B : EnB} {ρ : En} (C : Bool → Prop) (h : ∀ K : Bool → Prop, (∀ b, C b → K b) → tc ρ K) (k1 : C true → ta { B with nx := rest B } ρ) (k0 : C false → tb { B with nx := rest B } ρ) : qSeq (qIfS tc ta tb) rest B ρ := h _ fun b hb => by
  cases b with
  | true => rw [if_pos rfl]; exact k1 hb
  | false => rw [if_neg Bool.false_ne_true]; exact k0 hb
theorem lcB_of {vs : List Nat} {i : Nat} {te : TrE} {ρ : En} {d : D} {k : Option D → Prop} (h : te ((wipeD ρ vs).set i (.val d)) fun y => k (some y)) : lcB vs (gNm i) qYes te ρ d k := by
  simp only [lcB, qYes, gNm_]
  rw [if_pos trivial]; exact h
theorem seq_for {ti : TrI} {tt : TrG} {tb rest : TrS} {B : EnB} {ρ : En} (C : List D → Prop) (P : List D → En → Prop) (hi : ∀ J : List D → Prop, (∀ ds, C ds → J ds) → ti ρ J) (h0 : ∀ ds, C ds → P ds ρ) (h1 : ∀ ρ', P [] ρ' → rest B ρ')
    (h2 : ∀ d r ρ', P (d :: r) ρ' → tt d ρ' fun ρ2 => tb { B with nx := P r, ct := P r, bk := rest B } ρ2) : qSeq (qFor ti tt tb) rest B ρ := hi _ fun ds hc => ⟨P, h0 ds hc, h1, h2⟩
theorem ifn_of {tc : TrT} {ta rest : TrS} {B : EnB} {ρ : En} (h : ∀ K : Bool → Prop, K false → tc ρ K) (r : rest B ρ) : qSeq (qIfS tc ta qNext) rest B ρ := h _ (by rw [if_neg Bool.false_ne_true]; exact r)
theorem nx_of {rest : TrS} {B : EnB} {ρ : En} (r : rest B ρ) : qNext { B with nx := rest B } ρ := r
theorem oSl_from1 (l : List Nat) (j : Nat) (R : D → Prop) : oSl (.str (tx l)) (some ((j : Int) + 1)) none R ↔ l.length ≤ sizeLine ∧ R (.str (tx (l.drop (j + 1)))) := oSl_from l (j + 1) R
theorem oAdd_st (a b : List Nat) (R : D → Prop) : oAdd (.str (tx a)) (.str (tx b)) R ↔ a.length + b.length ≤ sizeLine ∧ R (.str (tx (a ++ b))) := by
  show (tx a).length + (tx b).length ≤ sizeLine ∧ R (.str (tx a ++ tx b)) ↔ _
  rw [tx_len, tx_len, tx_app]
theorem oRepS_st (l : List Nat) (k : Int) (R : D → Prop) : oRepS (.str (tx l)) (.int k) R ↔ -1000 ≤ k ∧ k ≤ 1000 ∧ l.length ≤ 1000 ∧ R (.str (tx (List.replicate k.toNat l).flatten)) := by
  constructor
  · rintro ⟨l2, k2, e1, e2, h⟩
    obtain rfl : l = l2 := tx_inj (by injection e1)
    obtain rfl : k = k2 := by injection e2
    exact h
  · exact fun h => ⟨l, k, rfl, rfl, h⟩
theorem cut_drop {α : Type} (f : α → D) (ts : List α) (k : Nat) : cutD (ts.map f) (some (k : Int)) none = (ts.drop k).map f := by
  unfold cutD
  have e0 : HT.sIx (ts.map f).length (ts.map f).length none = (ts.map f).length := rfl
  rw [HT.sIx_nat, e0, List.length_map]
  simp
  rcases Nat.le_total k ts.length with h1 | h1
  · rw [Nat.min_eq_left h1, List.take_of_length_le (by simp)]
  · rw [Nat.min_eq_right h1]
    simp
    exact h1
theorem fr_uniq {a b r s : List Nat} (h : fr a ++ r = fr b ++ s) : a = b := by
  rw [fr_app, fr_app] at h
  obtain ⟨e1, e2⟩ := dg_first h
  obtain ⟨_, e3⟩ := dg_first e2
  exact (List.append_inj e3 e1).1
end PL
end

section
set_option Elab.async false
set_option linter.all false
set_option maxRecDepth 100000
set_option maxHeartbeats 4000000
namespace PL
open PySem PySem.Spec PyProof.Rows L2 PySem.NumText
/-! ### texts of things, of halls -/
def knd (c : Nat) : Bool := decide (c ∈ [97, 98, 99, 120, 121, 122])
def txtT (t : Th) : List Nat := if ag t.1 = true then t.1 :: dg t.2 else [t.1]
def txtS (t : Th) : List Nat := if ag t.1 = true ∧ t.2 = 4 then [t.1, 52, 43] else txtT t
def hallTx (f : Th → List Nat) (ts : List Th) : List Nat := if ts = [] then [45] else joinL 32 (ts.map f)
theorem knd_ok {m : Nat} {t : Th} (h : okT m t) : knd t.1 = true := by
  unfold knd
  rcases h with ⟨h, _⟩ | ⟨h, _⟩ <;> simp at h ⊢ <;> omega
/-- a way to write things: the kind ahead, figures behind, no blank -/
structure Wr (m : Nat) (f : Th → List Nat) : Prop where
  hd : ∀ t, okT m t → ∃ r, f t = t.1 :: r ∧ 32 ∉ r ∧ r.length ≤ 6 ∧ ∀ c ∈ r, c < 128
  inj : ∀ t u, okT m t → okT m u → f t = f u → t = u
theorem txtT_ag {t : Th} (h : ag t.1 = true) : txtT t = t.1 :: dg t.2 := if_pos h
theorem txtT_sg {t : Th} (h : ag t.1 = false) : txtT t = [t.1] := if_neg (by rw [h]; exact Bool.false_ne_true)
theorem dg_lt (n : Nat) : ∀ c ∈ dg n, c < 128 := fun c hc => by have := dg_all n c hc; omega
theorem wrT {m : Nat} (hm : m < 10 ^ 6) : Wr m txtT := by
  refine ⟨fun t h => ?_, fun t u h1 h2 e => ?_⟩
  · rcases ok_ag h with ⟨a, b⟩ | ⟨a, b⟩
    · exact ⟨_, txtT_ag a, dg_no (by omega), dg_len (by decide) (by omega), dg_lt _⟩
    · exact ⟨[], txtT_sg a, by simp, by simp, by simp⟩
  · rcases ok_ag h1 with ⟨a, b⟩ | ⟨a, b⟩ <;> rcases ok_ag h2 with ⟨a', b'⟩ | ⟨a', b'⟩
    · rw [txtT_ag a, txtT_ag a'] at e
      injection e with e1 e2
      exact Prod.ext e1 (dg_inj e2)
    · rw [txtT_ag a, txtT_sg a'] at e
      injection e with e1 e2
      rw [e1, a'] at a; cases a
    · rw [txtT_sg a, txtT_ag a'] at e
      injection e with e1 e2
      rw [e1, a'] at a; cases a
    · rw [txtT_sg a, txtT_sg a'] at e
      injection e with e1 e2
      exact Prod.ext e1 (by rw [b, b'])
theorem txtS_4 {t : Th} (h : ag t.1 = true) (h4 : t.2 = 4) : txtS t = [t.1, 52, 43] := if_pos ⟨h, h4⟩
theorem txtS_n {t : Th} (h : ¬ (ag t.1 = true ∧ t.2 = 4)) : txtS t = txtT t := if_neg h
theorem plus_dg (n : Nat) : dg n ≠ [52, 43] := fun e => by
  have := dg_all n 43 (by rw [e]; simp)
  omega
theorem wrS : Wr 4 txtS := by
  have W := wrT (m := 4) (by decide)
  refine ⟨fun t h => ?_, fun t u h1 h2 e => ?_⟩
  · by_cases h4 : ag t.1 = true ∧ t.2 = 4
    · exact ⟨[52, 43], if_pos h4, by decide, by decide, by decide⟩
    · rw [txtS_n h4]; exact W.hd t h
  · by_cases h4 : ag t.1 = true ∧ t.2 = 4 <;> by_cases h5 : ag u.1 = true ∧ u.2 = 4
    · rw [txtS_4 h4.1 h4.2, txtS_4 h5.1 h5.2] at e
      injection e with e1 e2
      exact Prod.ext e1 (by rw [h4.2, h5.2])
    · rw [txtS_4 h4.1 h4.2, txtS_n h5] at e
      rcases ok_ag h2 with ⟨a, b⟩ | ⟨a, b⟩
      · rw [txtT_ag a] at e; injection e with e1 e2; exact absurd e2.symm (plus_dg _)
      · rw [txtT_sg a] at e; injection e with e1 e2; cases e2
    · rw [txtS_n h4, txtS_4 h5.1 h5.2] at e
      rcases ok_ag h1 with ⟨a, b⟩ | ⟨a, b⟩
      · rw [txtT_ag a] at e; injection e with e1 e2; exact absurd e2 (plus_dg _)
      · rw [txtT_sg a] at e; injection e with e1 e2; cases e2
    · rw [txtS_n h4, txtS_n h5] at e; exact W.inj t u h1 h2 e
theorem Wr.free {m : Nat} {f : Th → List Nat} (W : Wr m f) {ts : List Th} (h : ∀ t ∈ ts, okT m t) : ∀ w ∈ ts.map f, 32 ∉ w := fun w hw => by
  obtain ⟨t, ht, rfl⟩ := List.mem_map.mp hw
  obtain ⟨r, e, hr, _⟩ := W.hd t (h t ht)
  rw [e]
  intro hm
  rcases List.mem_cons.mp hm with hm | hm
  · have := knd_ok (h t ht)
    rw [← hm] at this
    cases this
  · exact hr hm
theorem Wr.map_inj {m : Nat} {f : Th → List Nat} (W : Wr m f) : ∀ {ts us : List Th}, (∀ t ∈ ts, okT m t) → (∀ t ∈ us, okT m t) → ts.map f = us.map f → ts = us
  | [], [], _, _, _ => rfl
  | [], _ :: _, _, _, e => by simp at e
  | _ :: _, [], _, _, e => by simp at e
  | t :: ts, u :: us, h1, h2, e => by
    simp only [List.map_cons, List.cons.injEq] at e
    rw [W.inj t u (h1 t List.mem_cons_self) (h2 u List.mem_cons_self) e.1, W.map_inj (fun x hx => h1 x (List.mem_cons_of_mem _ hx)) (fun x hx => h2 x (List.mem_cons_of_mem _ hx)) e.2]
theorem Wr.words {m : Nat} {f : Th → List Nat} (W : Wr m f) {ts : List Th} (h : ∀ t ∈ ts, okT m t) (hn : ts ≠ []) : splitL 32 (hallTx f ts) = ts.map f := by
  unfold hallTx
  rw [if_neg hn, split_joinL (by simpa using hn) (W.free h)]
theorem Wr.dash {m : Nat} {f : Th → List Nat} (W : Wr m f) {ts : List Th} (h : ∀ t ∈ ts, okT m t) (e : hallTx f ts = [45]) : ts = [] := by
  apply Classical.byContradiction
  intro hn
  have := W.words h hn
  rw [e] at this
  have e2 : splitL 32 [45] = [[45]] := by decide
  rw [e2] at this
  cases ts with
  | nil => exact hn rfl
  | cons t ts =>
    simp only [List.map_cons, List.cons.injEq] at this
    obtain ⟨r, e3, _⟩ := W.hd t (h t List.mem_cons_self)
    rw [e3] at this
    injection this.1 with e4 _
    have := knd_ok (h t List.mem_cons_self)
    rw [← e4] at this
    cases this
/-- the words of a hall's text tell it -/
theorem Wr.tells {m : Nat} {f : Th → List Nat} (W : Wr m f) {l : List Nat} (hl : l ≠ [45]) {ts : List Th} (h : ∀ t ∈ ts, okT m t) (e : l = hallTx f ts) : splitL 32 l = ts.map f := by
  refine e ▸ W.words h fun z => hl ?_
  rw [e, z]; rfl
theorem Wr.told {m : Nat} {f : Th → List Nat} (W : Wr m f) {l : List Nat} {ts : List Th} (e : splitL 32 l = ts.map f) : l = hallTx f ts := by
  unfold hallTx
  rw [if_neg (fun z => by rw [z] at e; exact splitL_ne 32 l e), ← e, join_splitL]
theorem Wr.len {m : Nat} {f : Th → List Nat} (W : Wr m f) {ts : List Th} (h : ∀ t ∈ ts, okT m t) : (hallTx f ts).length ≤ 8 * ts.length + 1 ∧ ∀ c ∈ hallTx f ts, c < 128 := by
  unfold hallTx
  by_cases hn : ts = []
  · rw [if_pos hn, hn]; exact ⟨by decide, by decide⟩
  · rw [if_neg hn]
    clear hn
    induction ts with
    | nil => exact ⟨by simp [joinL], by simp [joinL]⟩
    | cons t ts ih =>
      obtain ⟨r, e, _, hl, hc⟩ := W.hd t (h t List.mem_cons_self)
      obtain ⟨i1, i2⟩ := ih fun x hx => h x (List.mem_cons_of_mem _ hx)
      have hk : t.1 < 128 := by
        have := knd_ok (h t List.mem_cons_self)
        unfold knd at this
        simp at this
        omega
      have hfl : (f t).length ≤ 7 := by rw [e]; simp; omega
      have hfc : ∀ c ∈ f t, c < 128 := by
        rw [e]
        intro c hc'
        rcases List.mem_cons.mp hc' with rfl | hc'
        · exact hk
        · exact hc c hc'
      cases ts with
      | nil => exact ⟨by simp [joinL]; omega, by simpa [joinL] using hfc⟩
      | cons u us =>
        have e2 : joinL 32 ((t :: u :: us).map f) = f t ++ 32 :: joinL 32 ((u :: us).map f) := rfl
        rw [e2]
        refine ⟨?_, fun c hc' => ?_⟩
        · rw [List.length_append, List.length_cons, List.length_cons]
          rw [List.length_cons] at i1 ⊢
          omega
        · rcases List.mem_append.mp hc' with hc' | hc'
          · exact hfc c hc'
          · rcases List.mem_cons.mp hc' with rfl | hc'
            · decide
            · exact i2 c hc'
/-- what is asked of a value that may be a tuple -/
def Gt (d : D) : Prop := ∀ xs, d = .tuple xs → Gd d
theorem Gd.t {d : D} (h : Gd d) : Gt d := fun _ _ => h
theorem gt_dict {ds : List (D × D)} : Gt (.dict ds) := fun _ e => by cases e
theorem gd_st {l : List Nat} (h : l.length ≤ 100000) : Gd (stD l) := ⟨by simp [good]; exact h, by simp [PyData.depth]⟩
theorem sum_le {B : Nat} : ∀ {ns : List Nat}, (∀ n ∈ ns, n ≤ B) → ns.sum ≤ B * ns.length
  | [], _ => by simp
  | n :: ns, h => by
    have := sum_le (ns := ns) fun m hm => h m (List.mem_cons_of_mem _ hm)
    have := h n List.mem_cons_self
    rw [List.sum_cons, List.length_cons, Nat.mul_add]
    omega
open Classical in
/-- the thing that a word tells -/
noncomputable def wrd (m : Nat) (f : Th → List Nat) (w : List Nat) : Option Th := if h : ∃ t, okT m t ∧ w = f t then some (choose h) else none
theorem wrd_some {m : Nat} {f : Th → List Nat} (W : Wr m f) {w : List Nat} {t : Th} (h : okT m t) (e : w = f t) : wrd m f w = some t := by
  have hx : ∃ t, okT m t ∧ w = f t := ⟨t, h, e⟩
  unfold wrd
  rw [dif_pos hx]
  obtain ⟨h1, h2⟩ := Classical.choose_spec hx
  rw [W.inj _ t h1 h (h2.symm.trans e)]
theorem wrd_none {m : Nat} {f : Th → List Nat} {w : List Nat} (h : ∀ t, okT m t → w ≠ f t) : wrd m f w = none := by
  unfold wrd
  rw [dif_neg]
  rintro ⟨t, h1, h2⟩
  exact h t h1 h2
theorem wrds_cases (m : Nat) (f : Th → List Nat) : ∀ ws : List (List Nat), (∃ ts : List Th, ws = ts.map f ∧ ∀ t ∈ ts, okT m t) ∨ ∃ w ∈ ws, wrd m f w = none
  | [] => .inl ⟨[], rfl, by simp⟩
  | w :: ws => by
    by_cases h : ∃ t, okT m t ∧ w = f t
    · obtain ⟨t, h1, rfl⟩ := h
      rcases wrds_cases m f ws with ⟨ts, rfl, h2⟩ | ⟨v, hv, h2⟩
      · exact .inl ⟨t :: ts, rfl, fun u hu => by
          rcases List.mem_cons.mp hu with rfl | hu
          · exact h1
          · exact h2 u hu⟩
      · exact .inr ⟨v, List.mem_cons_of_mem _ hv, h2⟩
    · exact .inr ⟨w, List.mem_cons_self, by unfold wrd; rw [dif_neg h]⟩
/-! ### how the law reads a word -/
def ageW (i : Int) (w : List Nat) : List Nat := if i = 4 ∧ w.tail = [52, 43] then [52] else w.tail
def goodW (i : Int) (w : List Nat) : Bool := (match w with | [] => false | c :: _ => knd c) && (((ageW i w).all fun c => decide (48 ≤ c ∧ c ≤ 57)) && decide ((ageW i w).length ≤ 4))
def parW (i : Int) (w : List Nat) : Th := (w.headD 0, digitsVal (ageW i w))
/-- the two ways of the law: bags, halls -/
structure Way (i : Int) (m many : Nat) (f : Th → List Nat) : Prop where
  w : Wr m f
  g : ∀ t, okT m t → goodW i (f t) = true ∧ parW i (f t) = t
theorem all_dg (n : Nat) : ((dg n).all fun c => decide (48 ≤ c ∧ c ≤ 57)) = true := by
  rw [List.all_eq_true]
  intro c hc
  exact decide_eq_true (dg_all n c hc)
theorem way_txtT {i : Int} {t : Th} (h : okT 9999 t) : goodW i (txtT t) = true ∧ parW i (txtT t) = t := by
  obtain ⟨c, a⟩ := t
  have hk : knd c = true := knd_ok h
  rcases ok_ag h with ⟨q1, q2⟩ | ⟨q1, q2⟩
  · have q2 : a ≤ 9999 := q2
    have e : ageW i (c :: dg a) = dg a := by
      unfold ageW
      rw [if_neg (fun z => plus_dg a z.2)]; rfl
    have d4 : (dg a).length ≤ 4 := dg_len (by decide) (by omega)
    rw [txtT_ag q1]
    refine ⟨?_, ?_⟩
    · show (knd c && (((ageW i (c :: dg a)).all _) && decide ((ageW i (c :: dg a)).length ≤ 4))) = true
      rw [e, hk, all_dg, decide_eq_true d4]; rfl
    · show (c, digitsVal (ageW i (c :: dg a))) = (c, a)
      rw [e, dg_val]
  · have q2 : a = 0 := q2
    have e : ageW i [c] = [] := by
      unfold ageW
      rw [if_neg (fun z => by cases z.2)]; rfl
    rw [txtT_sg q1]
    refine ⟨?_, ?_⟩
    · show (knd c && (((ageW i [c]).all _) && decide ((ageW i [c]).length ≤ 4))) = true
      rw [e, hk]; rfl
    · show (c, digitsVal (ageW i [c])) = (c, a)
      rw [e, q2]; rfl
theorem wayT : Way 10000 9999 60 txtT := ⟨wrT (by decide), fun t h => way_txtT h⟩
theorem wayS : Way 4 4 20 txtS := by
  refine ⟨wrS, fun t h => ?_⟩
  by_cases h4 : ag t.1 = true ∧ t.2 = 4
  · obtain ⟨c, a⟩ := t
    have h5 : a = 4 := h4.2
    rw [txtS_4 h4.1 h4.2]
    have hk : knd c = true := knd_ok h
    refine ⟨?_, ?_⟩
    · show (knd c && _) = true
      rw [hk]; rfl
    · show (c, digitsVal (ageW 4 [c, 52, 43])) = (c, a)
      rw [h5]; rfl
  · rw [txtS_n h4]
    exact way_txtT (okT_mono (by decide) h)
theorem Way.map {i : Int} {m many : Nat} {f : Th → List Nat} (W : Way i m many f) {ts : List Th} (h : ∀ t ∈ ts, okT m t) : (∀ w ∈ ts.map f, goodW i w = true) ∧ (ts.map f).map (parW i) = ts := by
  refine ⟨fun w hw => ?_, ?_⟩
  · obtain ⟨t, ht, rfl⟩ := List.mem_map.mp hw
    exact (W.g t (h t ht)).1
  · rw [List.map_map]
    exact (List.map_congr_left fun t ht => (W.g t (h t ht)).2).trans (List.map_id' ts)
theorem own_nil {i : Nat} {rest : TrS} {B : EnB} {ρ : En} (h : rest B (ρ.set i (.own []))) : qSeq (qOwn i (qLstN qNil)) rest B ρ := ⟨Nat.zero_le _, h⟩
@[simp] theorem oNeg_int (k : Int) (R : D → Prop) : oNeg (.int k) R ↔ R (.int (-k)) := by simp [oNeg]
theorem oSl_plus (R : D → Prop) : oSl (stD [52, 43]) none (some (-1)) R ↔ 2 ≤ sizeLine ∧ R (stD [52]) := by
  have e : cutS (tx [52, 43]) none (some (-1)) = tx [52] := by decide +kernel
  show (tx [52, 43]).length ≤ sizeLine ∧ R (.str (cutS (tx [52, 43]) none (some (-1)))) ↔ _
  rw [e]; rfl
theorem fun_or {K : Prop} (a b : Prop) (h : a ∨ b) : a ∨ b := h
/-! ### things near -/
structure Itm (d : D) : Prop where
  g : Gd d
  e : Ev 2000 6 d
def NearD (d : D) : Prop := (Gd d ∧ Ev 310000 8 d ∧ notDict d) ∨ d = .dict []
theorem goods_mk {xs : List D} (h : ∀ d ∈ xs, Gd d) : goods xs = true := goods_iff.mpr fun d hd => (h d hd).1
theorem near_tup {xs : List D} (h : ∀ d ∈ xs, Itm d) (hl : xs.length ≤ 150) : NearD (.tuple xs) := by
  have e := ev_tup (m := 150) (fun d hd => (h d hd).e) hl
  exact .inl ⟨⟨goods_mk fun d hd => (h d hd).g, by have := e.dp; omega⟩, e.mono (by decide) (by decide), trivial⟩
theorem near_lst {xs : List D} (h : ∀ d ∈ xs, Itm d) (hl : xs.length ≤ 150) : NearD (.list xs) := by
  have e := ev_lst (m := 150) (fun d hd => (h d hd).e) hl
  exact .inl ⟨⟨goods_mk fun d hd => (h d hd).g, by have := e.dp; omega⟩, e.mono (by decide) (by decide), trivial⟩
theorem it_app {a b : List D} (h1 : ∀ d ∈ a, Itm d) (h2 : ∀ d ∈ b, Itm d) : ∀ d ∈ a ++ b, Itm d := fun d hd => (List.mem_append.mp hd).elim (h1 d) (h2 d)
theorem it_cons {a : D} {b : List D} (h1 : Itm a) (h2 : ∀ d ∈ b, Itm d) : ∀ d ∈ a :: b, Itm d := fun d hd => by
  rcases List.mem_cons.mp hd with rfl | hd
  · exact h1
  · exact h2 d hd
theorem it_nil : ∀ d ∈ ([] : List D), Itm d := fun _ h => nomatch h
theorem it_cut {xs : List D} {lo hi : Option Int} (h : ∀ d ∈ xs, Itm d) : ∀ d ∈ cutD xs lo hi, Itm d := fun d hd => h d (cut_sub hd)
theorem it_rev {xs : List D} (h : ∀ d ∈ xs, Itm d) : ∀ d ∈ xs.reverse, Itm d := fun d hd => h d (List.mem_reverse.mp hd)
theorem ev_th {m : Nat} {t : Th} (hm : m ≤ 10000) (h : okT m t) : Ev 60 1 (thD t) := by
  have hk : t.1 < 128 ∧ t.2 ≤ m := by
    rcases h with ⟨h, h2⟩ | ⟨h, h2⟩ <;> simp at h <;> omega
  refine (ev_tup (n := 2) (k := 0) (m := 2) (fun d hd => ?_) (by simp)).mono (by decide) (Nat.le_refl _)
  simp only [List.mem_cons, List.not_mem_nil, or_false] at hd
  rcases hd with rfl | rfl
  · exact ev_str (l := [t.1]) (by simpa using hk.1) (by simp)
  · exact ev_int (by omega)
theorem it_th {m : Nat} {t : Th} (hm : m ≤ 10000) (h : okT m t) : Itm (thD t) :=
  ⟨⟨by simp [thD, good, goods, Str.length], by rw [depth_th]; decide⟩, (ev_th hm h).mono (by decide) (by decide)⟩
theorem it_const {d : D} (h1 : good d = true) (h2 : easy d = true) (h3 : d.bulk ≤ 2000) (h4 : d.depth ≤ 6) : Itm d := ⟨⟨h1, by omega⟩, ⟨h2, h3, h4⟩⟩
theorem it_own {m : Nat} {ts : List Th} (hm : m ≤ 10000) (ho : ∀ t ∈ ts, okT m t) (hl : ts.length ≤ 12) : Itm (.tuple (ts.map thD)) := by
  have e := ev_tup (n := 60) (k := 1) (m := 12) (ds := ts.map thD) (fun d hd => by
    obtain ⟨t, ht, rfl⟩ := List.mem_map.mp hd
    exact ev_th hm (ho t ht)) (by simpa using hl)
  refine ⟨⟨goods_mk fun d hd => ?_, by have := e.dp; omega⟩, e.mono (by decide) (by decide)⟩
  obtain ⟨t, ht, rfl⟩ := List.mem_map.mp hd
  exact (it_th hm (ho t ht)).g
/-! ### texts near -/
def upc (c : Nat) : Nat := (Unicode.upperOf c).headD 0
theorem upc_ok : ∀ c, c < 128 → Unicode.upperOf c = [upc c] ∧ upc c < 128 := by decide +kernel
theorem upper_tx {l : List Nat} (h : ∀ c ∈ l, c < 128) : Txt.upper (tx l) = tx (l.map upc) ∧ ∀ c ∈ l.map upc, c < 128 := by
  refine ⟨?_, fun c hc => ?_⟩
  · unfold Txt.upper
    rw [placed_single (tx l) _ upc fun i c hi => (upc_ok c (h c (List.mem_of_getElem? hi))).1]
    show (⟨l.toArray.map upc⟩ : Str) = ⟨(l.map upc).toArray⟩
    simp
  · obtain ⟨d, hd, rfl⟩ := List.mem_map.mp hc
    exact (upc_ok d (h d hd)).2
def TxD (d : D) : Prop := ∃ k, d = stD k ∧ k.length ≤ 3000 ∧ ∀ c ∈ k, c < 128
def txdB (d : D) : Bool := match d with
  | .str x => (x.cps.toList.all fun c => decide (c < 128)) && decide (x.cps.toList.length ≤ 3000)
  | _ => false
theorem txd_of {d : D} (h : txdB d = true) : TxD d := by
  cases d with
  | str x =>
    simp only [txdB, Bool.and_eq_true, List.all_eq_true, decide_eq_true_eq] at h
    exact ⟨x.cps.toList, rfl, h.2, h.1⟩
  | _ => cases h
def evenZ (d : D) : Prop := okZ d = true ∧ d.depth ≤ 60 ∧ (d.isTuple = true ∨ d.isList = true) ∧ d.showable = true ∧ d.shown.length ≤ sizeLine
def evenK (d : D) : Prop := evenOk d ∨ evenZ d
theorem Ev.k {n k : Nat} {d : D} (h : Ev n k d) (hn : n ≤ 2 ^ 20) (hk : k ≤ 60) : evenK d := .inl (h.ok hn hk)
def nOwn (s : Sl) : Prop := ∀ ds, s ≠ .own ds
theorem nOwn_val (d : D) : nOwn (.val d) := fun _ h => by cases h
theorem nOwn_no : nOwn .no := fun _ h => by cases h
theorem ev_told {t : List Nat} {n k m : Nat} {d : D} (h : Ev n k d) (ht : ∀ c ∈ t, c < 128) (hl : t.length ≤ 10) (hm : (n + 11) * 2 ≤ m) : Ev m (k + 1) (.tuple [stD t, d]) := by
  refine (ev_tup (n := n + 10) (k := k) (m := 2) (fun e he => ?_) (by simp)).mono (by omega) (Nat.le_refl _)
  simp only [List.mem_cons, List.not_mem_nil, or_false] at he
  rcases he with rfl | rfl
  · exact ev_str ht (by omega)
  · exact h.mono (by omega) (Nat.le_refl _)
theorem ev_hall {m : Nat} {ts : List Th} {n : Nat} (hm : m ≤ 10000) (h : ∀ t ∈ ts, okT m t) (hl : ts.length ≤ n) : Ev ((60 + 1) * n) 2 (hallD ts) := ev_tup (fun d hd => by
  obtain ⟨t, ht, rfl⟩ := List.mem_map.mp hd
  exact ev_th hm (h t ht)) (by simpa using hl)
theorem bagT_self {many : Nat} {ts : List Th} (h : Hall 4 many ts) : bagT ts = ts := by
  unfold bagT
  have e : ts.map bag1 = ts := (List.map_congr_left fun t ht => bag1_id (h.ok t ht)).trans (List.map_id' ts)
  rw [e]
  exact sortT_self h.sorted
theorem hasL_self {many : Nat} {ts : List Th} (h : Hall 4 many ts) : hasL ts ts = true := by
  unfold hasL
  rw [bagT_self h]
  simp
theorem iflast_t {tc : TrT} {ta tb : TrS} {B : EnB} {ρ : En} (h : ∀ K : Bool → Prop, K true → tc ρ K) (r : ta B ρ) : qIfS tc ta tb B ρ := h _ (by rw [if_pos rfl]; exact r)
theorem iflast_f {tc : TrT} {ta tb : TrS} {B : EnB} {ρ : En} (h : ∀ K : Bool → Prop, K false → tc ρ K) (r : tb B ρ) : qIfS tc ta tb B ρ := h _ (by rw [if_neg Bool.false_ne_true]; exact r)
end PL
end

section
set_option Elab.async false
set_option linter.all false
set_option maxRecDepth 100000
set_option maxHeartbeats 4000000
namespace PL
open PySem PySem.Spec PyProof.Rows L2
/-! ### the text -/
def top (i : Nat) : Stmt := PySem.Challenge.pw_agehalls_k03_whole_bags_written_and_read.main.body.getD i (.Pass ⟨0, 0, 0, 0⟩)
abbrev s_is_whole : Stmt := top 8
abbrev s_is_between : Stmt := top 9
abbrev s_plain_number : Stmt := top 10
abbrev s_kind_ok : Stmt := top 24
abbrev s_is_aging : Stmt := top 25
abbrev s_thing_ok : Stmt := top 26
abbrev s_things_ok : Stmt := top 27
abbrev s_hall_ok : Stmt := top 28
abbrev s_bag_ok : Stmt := top 29
abbrev s_text_of_thing : Stmt := top 30
abbrev s_text_of_sort : Stmt := top 31
abbrev s_joined_texts : Stmt := top 32
abbrev s_text_of_bag : Stmt := top 33
abbrev s_thing_from : Stmt := top 34
abbrev s_sort_from : Stmt := top 35
abbrev s_bag_from : Stmt := top 36
abbrev s_bag_by : Stmt := top 37
abbrev s_numbers_of : Stmt := top 38
abbrev s_are_within : Stmt := top 39
abbrev s_has_by : Stmt := top 40
abbrev s_check_hall : Stmt := top 42
abbrev s_check_bag : Stmt := top 43
abbrev s_check_text : Stmt := top 44
abbrev s_is_hall : Stmt := top 46
abbrev s_is_bag : Stmt := top 47
abbrev s_bag_text : Stmt := top 48
abbrev s_read_bag : Stmt := top 49
abbrev s_bag_of : Stmt := top 50
abbrev s_has : Stmt := top 51
abbrev s__law_press : Stmt := top 53
abbrev s__law_out : Stmt := top 54
abbrev s__law_of : Stmt := top 55
abbrev s__law_even : Stmt := top 56
abbrev s__law_num : Stmt := top 57
abbrev s__law_is_things : Stmt := top 58
abbrev s__law_bag : Stmt := top 59
abbrev s__law_text : Stmt := top 60
abbrev s__law_hall : Stmt := top 61
abbrev s__law_sorts : Stmt := top 62
abbrev s__law_read : Stmt := top 63
abbrev s__law_near : Stmt := top 64
abbrev s__law_near_texts : Stmt := top 65
abbrev s__law_heard : Stmt := top 66
abbrev s__law_holds_all : Stmt := top 67
abbrev s_law : Stmt := top 68
abbrev s_InvalidHall_init : Stmt := (match top 2 with | .ClassDef _ _ _ b _ _ _ _ _ _ _ => b.getD 0 (.Pass ⟨0, 0, 0, 0⟩) | s => s)
abbrev s_InvalidBag_init : Stmt := (match top 3 with | .ClassDef _ _ _ b _ _ _ _ _ _ _ => b.getD 0 (.Pass ⟨0, 0, 0, 0⟩) | s => s)
abbrev s_InvalidText_init : Stmt := (match top 4 with | .ClassDef _ _ _ b _ _ _ _ _ _ _ => b.getD 0 (.Pass ⟨0, 0, 0, 0⟩) | s => s)
def c_FIGURES : D := .str "0123456789"
def c_LONGEST_NUMBER : D := .int 200
def c_AGING : D := .str "abc"
def c_KINDS : D := .str "abcxyz"
def c_YOUNG : D := .int 0
def c_OLD : D := .int 4
def c_MOST_AGE : D := .int 9999
def c_MOST_THINGS : D := .int 60
def c_MOST_SORTS : D := .int 20
def c_BLANK : D := .str " "
def c_NOTHING : D := .str "-"
def c_OLD_TEXT : D := .str "4+"
def c_SORTS : D := .tuple [.tuple [.str "a", .int 0], .tuple [.str "a", .int 1], .tuple [.str "a", .int 2], .tuple [.str "a", .int 3], .tuple [.str "a", .int 4], .tuple [.str "b", .int 0], .tuple [.str "b", .int 1], .tuple [.str "b", .int 2], .tuple [.str "b", .int 3], .tuple [.str "b", .int 4], .tuple [.str "c", .int 0], .tuple [.str "c", .int 1], .tuple [.str "c", .int 2], .tuple [.str "c", .int 3], .tuple [.str "c", .int 4], .tuple [.str "x", .int 0], .tuple [.str "y", .int 0], .tuple [.str "z", .int 0]]
theorem st_0 : Str.ofString "" = tx [] := by decide +kernel
theorem st_1 : Str.ofString "0" = tx [48] := by decide +kernel
theorem st_2 : Str.ofString "a" = tx [97] := by decide +kernel
theorem st_3 : Str.ofString "b" = tx [98] := by decide +kernel
theorem st_4 : Str.ofString "c" = tx [99] := by decide +kernel
theorem st_5 : Str.ofString "x" = tx [120] := by decide +kernel
theorem st_6 : Str.ofString "y" = tx [121] := by decide +kernel
theorem st_7 : Str.ofString "z" = tx [122] := by decide +kernel
theorem st_8 : Str.ofString "abc" = tx [97, 98, 99] := by decide +kernel
theorem st_9 : Str.ofString "xyz" = tx [120, 121, 122] := by decide +kernel
theorem st_10 : Str.ofString "4+" = tx [52, 43] := by decide +kernel
theorem st_11 : Str.ofString " " = tx [32] := by decide +kernel
theorem st_12 : Str.ofString "-" = tx [45] := by decide +kernel
theorem st_13 : Str.ofString "abcabcaxyz" = tx [97, 98, 99, 97, 98, 99, 97, 120, 121, 122] := by decide +kernel
theorem st_14 : Str.ofString "0123456789" = tx [48, 49, 50, 51, 52, 53, 54, 55, 56, 57] := by decide +kernel
theorem st_15 : Str.ofString "d" = tx [100] := by decide +kernel
theorem st_16 : Str.ofString "A" = tx [65] := by decide +kernel
theorem st_17 : Str.ofString "ab" = tx [97, 98] := by decide +kernel
theorem st_18 : Str.ofString "+" = tx [43] := by decide +kernel
theorem st_19 : Str.ofString "  " = tx [32, 32] := by decide +kernel
theorem st_20 : Str.ofString "\n" = tx [10] := by decide +kernel
theorem st_21 : Str.ofString "4" = tx [52] := by decide +kernel
theorem st_22 : Str.ofString " z" = tx [32, 122] := by decide +kernel
theorem st_23 : Str.ofString "a0 " = tx [97, 48, 32] := by decide +kernel
theorem st_24 : Str.ofString "- -" = tx [45, 32, 45] := by decide +kernel
theorem st_25 : Str.ofString "x0" = tx [120, 48] := by decide +kernel
theorem st_26 : Str.ofString "x1" = tx [120, 49] := by decide +kernel
theorem st_27 : Str.ofString "a00" = tx [97, 48, 48] := by decide +kernel
theorem st_28 : Str.ofString "a01" = tx [97, 48, 49] := by decide +kernel
theorem st_29 : Str.ofString "a4" = tx [97, 52] := by decide +kernel
theorem st_30 : Str.ofString "a4+" = tx [97, 52, 43] := by decide +kernel
theorem st_31 : Str.ofString "a5" = tx [97, 53] := by decide +kernel
theorem st_32 : Str.ofString "a5+" = tx [97, 53, 43] := by decide +kernel
theorem st_33 : Str.ofString "x+" = tx [120, 43] := by decide +kernel
theorem st_34 : Str.ofString "a3+" = tx [97, 51, 43] := by decide +kernel
theorem st_35 : Str.ofString "a9999" = tx [97, 57, 57, 57, 57] := by decide +kernel
theorem st_36 : Str.ofString "a10000" = tx [97, 49, 48, 48, 48, 48] := by decide +kernel
theorem st_37 : Str.ofString "a-1" = tx [97, 45, 49] := by decide +kernel
theorem st_38 : Str.ofString "b0 a0" = tx [98, 48, 32, 97, 48] := by decide +kernel
theorem st_39 : Str.ofString "a0 a0" = tx [97, 48, 32, 97, 48] := by decide +kernel
theorem st_40 : Str.ofString "a1 a0" = tx [97, 49, 32, 97, 48] := by decide +kernel
theorem st_41 : Str.ofString "a0 x" = tx [97, 48, 32, 120] := by decide +kernel
theorem st_42 : Str.ofString "x a0" = tx [120, 32, 97, 48] := by decide +kernel
theorem st_43 : Str.ofString "a0,x" = tx [97, 48, 44, 120] := by decide +kernel
theorem st_44 : Str.ofString "a0  x" = tx [97, 48, 32, 32, 120] := by decide +kernel
theorem st_45 : Str.ofString "d1" = tx [100, 49] := by decide +kernel
theorem st_46 : Str.ofString "z z z" = tx [122, 32, 122, 32, 122] := by decide +kernel
theorem st_47 : Str.ofString "a 0" = tx [97, 32, 48] := by decide +kernel
theorem st_48 : Str.ofString "a4+ a4+ b0" = tx [97, 52, 43, 32, 97, 52, 43, 32, 98, 48] := by decide +kernel
theorem st_49 : Str.ofString "a4 b0" = tx [97, 52, 32, 98, 48] := by decide +kernel
theorem st_50 : Str.ofString "told" = tx [116, 111, 108, 100] := by decide +kernel
theorem st_51 : Str.ofString "bag" = tx [98, 97, 103] := by decide +kernel
theorem st_52 : Str.ofString "text" = tx [116, 101, 120, 116] := by decide +kernel
theorem st_53 : Str.ofString "other" = tx [111, 116, 104, 101, 114] := by decide +kernel
theorem st_54 : Str.ofString "a0" = tx [97, 48] := by decide +kernel
theorem st_55 : Str.ofString "abcxyz" = tx [97, 98, 99, 120, 121, 122] := by decide +kernel
/-- the error classes that are told by a field -/
def XOK (C : Str) : Prop := C = "InvalidBag" ∨ C = "InvalidHall" ∨ C = "InvalidText"
def m_AgeError (C : Str) : Option Bool := if C = "InvalidBag" then some true else if C = "InvalidHall" then some true else if C = "InvalidText" then some true else none
def m_InvalidBag (C : Str) : Option Bool := if C = "InvalidBag" then some true else if C = "InvalidHall" then some false else if C = "InvalidText" then some false else none
def m_InvalidText (C : Str) : Option Bool := if C = "InvalidBag" then some false else if C = "InvalidHall" then some false else if C = "InvalidText" then some true else none
/-- what the text leaves -/
structure Tx (K : Fg) (mg : Str → Option Value) : Prop where
  d_is_whole : ∃ (f : Addr) (fd : FuncData), mg "is_whole" = some (.ref f) ∧ FunD K "is_whole" "is_whole" (defArgs s_is_whole) (defBody s_is_whole) (defScope s_is_whole) [] [] f fd
  d_is_between : ∃ (f : Addr) (fd : FuncData), mg "is_between" = some (.ref f) ∧ FunD K "is_between" "is_between" (defArgs s_is_between) (defBody s_is_between) (defScope s_is_between) [] [] f fd
  d_plain_number : ∃ (f : Addr) (fd : FuncData), mg "plain_number" = some (.ref f) ∧ FunD K "plain_number" "plain_number" (defArgs s_plain_number) (defBody s_plain_number) (defScope s_plain_number) [] [] f fd
  d_kind_ok : ∃ (f : Addr) (fd : FuncData), mg "kind_ok" = some (.ref f) ∧ FunD K "kind_ok" "kind_ok" (defArgs s_kind_ok) (defBody s_kind_ok) (defScope s_kind_ok) [] [] f fd
  d_is_aging : ∃ (f : Addr) (fd : FuncData), mg "is_aging" = some (.ref f) ∧ FunD K "is_aging" "is_aging" (defArgs s_is_aging) (defBody s_is_aging) (defScope s_is_aging) [] [] f fd
  d_thing_ok : ∃ (f : Addr) (fd : FuncData), mg "thing_ok" = some (.ref f) ∧ FunD K "thing_ok" "thing_ok" (defArgs s_thing_ok) (defBody s_thing_ok) (defScope s_thing_ok) [] [] f fd
  d_things_ok : ∃ (f : Addr) (fd : FuncData), mg "things_ok" = some (.ref f) ∧ FunD K "things_ok" "things_ok" (defArgs s_things_ok) (defBody s_things_ok) (defScope s_things_ok) [] [] f fd
  d_hall_ok : ∃ (f : Addr) (fd : FuncData), mg "hall_ok" = some (.ref f) ∧ FunD K "hall_ok" "hall_ok" (defArgs s_hall_ok) (defBody s_hall_ok) (defScope s_hall_ok) [] [] f fd
  d_bag_ok : ∃ (f : Addr) (fd : FuncData), mg "bag_ok" = some (.ref f) ∧ FunD K "bag_ok" "bag_ok" (defArgs s_bag_ok) (defBody s_bag_ok) (defScope s_bag_ok) [] [] f fd
  d_text_of_thing : ∃ (f : Addr) (fd : FuncData), mg "text_of_thing" = some (.ref f) ∧ FunD K "text_of_thing" "text_of_thing" (defArgs s_text_of_thing) (defBody s_text_of_thing) (defScope s_text_of_thing) [] [] f fd
  d_text_of_sort : ∃ (f : Addr) (fd : FuncData), mg "text_of_sort" = some (.ref f) ∧ FunD K "text_of_sort" "text_of_sort" (defArgs s_text_of_sort) (defBody s_text_of_sort) (defScope s_text_of_sort) [] [] f fd
  d_joined_texts : ∃ (f : Addr) (fd : FuncData), mg "joined_texts" = some (.ref f) ∧ FunD K "joined_texts" "joined_texts" (defArgs s_joined_texts) (defBody s_joined_texts) (defScope s_joined_texts) [] [] f fd
  d_text_of_bag : ∃ (f : Addr) (fd : FuncData), mg "text_of_bag" = some (.ref f) ∧ FunD K "text_of_bag" "text_of_bag" (defArgs s_text_of_bag) (defBody s_text_of_bag) (defScope s_text_of_bag) [] [] f fd
  d_thing_from : ∃ (f : Addr) (fd : FuncData), mg "thing_from" = some (.ref f) ∧ FunD K "thing_from" "thing_from" (defArgs s_thing_from) (defBody s_thing_from) (defScope s_thing_from) [] [] f fd
  d_sort_from : ∃ (f : Addr) (fd : FuncData), mg "sort_from" = some (.ref f) ∧ FunD K "sort_from" "sort_from" (defArgs s_sort_from) (defBody s_sort_from) (defScope s_sort_from) [] [] f fd
  d_bag_from : ∃ (f : Addr) (fd : FuncData), mg "bag_from" = some (.ref f) ∧ FunD K "bag_from" "bag_from" (defArgs s_bag_from) (defBody s_bag_from) (defScope s_bag_from) [] [] f fd
  d_bag_by : ∃ (f : Addr) (fd : FuncData), mg "bag_by" = some (.ref f) ∧ FunD K "bag_by" "bag_by" (defArgs s_bag_by) (defBody s_bag_by) (defScope s_bag_by) [] [] f fd
  d_numbers_of : ∃ (f : Addr) (fd : FuncData), mg "numbers_of" = some (.ref f) ∧ FunD K "numbers_of" "numbers_of" (defArgs s_numbers_of) (defBody s_numbers_of) (defScope s_numbers_of) [] [] f fd
  d_are_within : ∃ (f : Addr) (fd : FuncData), mg "are_within" = some (.ref f) ∧ FunD K "are_within" "are_within" (defArgs s_are_within) (defBody s_are_within) (defScope s_are_within) [] [] f fd
  d_has_by : ∃ (f : Addr) (fd : FuncData), mg "has_by" = some (.ref f) ∧ FunD K "has_by" "has_by" (defArgs s_has_by) (defBody s_has_by) (defScope s_has_by) [] [] f fd
  d_check_hall : ∃ (f : Addr) (fd : FuncData), mg "check_hall" = some (.ref f) ∧ FunD K "check_hall" "check_hall" (defArgs s_check_hall) (defBody s_check_hall) (defScope s_check_hall) [] [] f fd
  d_check_bag : ∃ (f : Addr) (fd : FuncData), mg "check_bag" = some (.ref f) ∧ FunD K "check_bag" "check_bag" (defArgs s_check_bag) (defBody s_check_bag) (defScope s_check_bag) [] [] f fd
  d_check_text : ∃ (f : Addr) (fd : FuncData), mg "check_text" = some (.ref f) ∧ FunD K "check_text" "check_text" (defArgs s_check_text) (defBody s_check_text) (defScope s_check_text) [] [] f fd
  d_is_hall : ∃ (f : Addr) (fd : FuncData), mg "is_hall" = some (.ref f) ∧ FunD K "is_hall" "is_hall" (defArgs s_is_hall) (defBody s_is_hall) (defScope s_is_hall) [] [] f fd
  d_is_bag : ∃ (f : Addr) (fd : FuncData), mg "is_bag" = some (.ref f) ∧ FunD K "is_bag" "is_bag" (defArgs s_is_bag) (defBody s_is_bag) (defScope s_is_bag) [] [] f fd
  d_bag_text : ∃ (f : Addr) (fd : FuncData), mg "bag_text" = some (.ref f) ∧ FunD K "bag_text" "bag_text" (defArgs s_bag_text) (defBody s_bag_text) (defScope s_bag_text) [] [] f fd
  d_read_bag : ∃ (f : Addr) (fd : FuncData), mg "read_bag" = some (.ref f) ∧ FunD K "read_bag" "read_bag" (defArgs s_read_bag) (defBody s_read_bag) (defScope s_read_bag) [] [] f fd
  d_bag_of : ∃ (f : Addr) (fd : FuncData), mg "bag_of" = some (.ref f) ∧ FunD K "bag_of" "bag_of" (defArgs s_bag_of) (defBody s_bag_of) (defScope s_bag_of) [] [] f fd
  d_has : ∃ (f : Addr) (fd : FuncData), mg "has" = some (.ref f) ∧ FunD K "has" "has" (defArgs s_has) (defBody s_has) (defScope s_has) [] [] f fd
  d__law_press : ∃ (f : Addr) (fd : FuncData), mg "_law_press" = some (.ref f) ∧ FunD K "_law_press" "_law_press" (defArgs s__law_press) (defBody s__law_press) (defScope s__law_press) [] [] f fd
  d__law_out : ∃ (f : Addr) (fd : FuncData), mg "_law_out" = some (.ref f) ∧ FunD K "_law_out" "_law_out" (defArgs s__law_out) (defBody s__law_out) (defScope s__law_out) [] [] f fd
  d__law_of : ∃ (f : Addr) (fd : FuncData), mg "_law_of" = some (.ref f) ∧ FunD K "_law_of" "_law_of" (defArgs s__law_of) (defBody s__law_of) (defScope s__law_of) [] [] f fd
  d__law_even : ∃ (f : Addr) (fd : FuncData), mg "_law_even" = some (.ref f) ∧ FunD K "_law_even" "_law_even" (defArgs s__law_even) (defBody s__law_even) (defScope s__law_even) [] [] f fd
  d__law_num : ∃ (f : Addr) (fd : FuncData), mg "_law_num" = some (.ref f) ∧ FunD K "_law_num" "_law_num" (defArgs s__law_num) (defBody s__law_num) (defScope s__law_num) [] [] f fd
  d__law_is_things : ∃ (f : Addr) (fd : FuncData), mg "_law_is_things" = some (.ref f) ∧ FunD K "_law_is_things" "_law_is_things" (defArgs s__law_is_things) (defBody s__law_is_things) (defScope s__law_is_things) [] [] f fd
  d__law_bag : ∃ (f : Addr) (fd : FuncData), mg "_law_bag" = some (.ref f) ∧ FunD K "_law_bag" "_law_bag" (defArgs s__law_bag) (defBody s__law_bag) (defScope s__law_bag) [] [] f fd
  d__law_text : ∃ (f : Addr) (fd : FuncData), mg "_law_text" = some (.ref f) ∧ FunD K "_law_text" "_law_text" (defArgs s__law_text) (defBody s__law_text) (defScope s__law_text) [] [] f fd
  d__law_hall : ∃ (f : Addr) (fd : FuncData), mg "_law_hall" = some (.ref f) ∧ FunD K "_law_hall" "_law_hall" (defArgs s__law_hall) (defBody s__law_hall) (defScope s__law_hall) [] [] f fd
  d__law_sorts : ∃ (f : Addr) (fd : FuncData), mg "_law_sorts" = some (.ref f) ∧ FunD K "_law_sorts" "_law_sorts" (defArgs s__law_sorts) (defBody s__law_sorts) (defScope s__law_sorts) [] [] f fd
  d__law_read : ∃ (f : Addr) (fd : FuncData), mg "_law_read" = some (.ref f) ∧ FunD K "_law_read" "_law_read" (defArgs s__law_read) (defBody s__law_read) (defScope s__law_read) [] [] f fd
  d__law_near : ∃ (f : Addr) (fd : FuncData), mg "_law_near" = some (.ref f) ∧ FunD K "_law_near" "_law_near" (defArgs s__law_near) (defBody s__law_near) (defScope s__law_near) [] [] f fd
  d__law_near_texts : ∃ (f : Addr) (fd : FuncData), mg "_law_near_texts" = some (.ref f) ∧ FunD K "_law_near_texts" "_law_near_texts" (defArgs s__law_near_texts) (defBody s__law_near_texts) (defScope s__law_near_texts) [] [] f fd
  d__law_heard : ∃ (f : Addr) (fd : FuncData), mg "_law_heard" = some (.ref f) ∧ FunD K "_law_heard" "_law_heard" (defArgs s__law_heard) (defBody s__law_heard) (defScope s__law_heard) [] [] f fd
  d__law_holds_all : ∃ (f : Addr) (fd : FuncData), mg "_law_holds_all" = some (.ref f) ∧ FunD K "_law_holds_all" "_law_holds_all" (defArgs s__law_holds_all) (defBody s__law_holds_all) (defScope s__law_holds_all) [] [] f fd
  d_law : ∃ (f : Addr) (fd : FuncData), mg "law" = some (.ref f) ∧ FunD K "law" "law" (defArgs s_law) (defBody s_law) (defScope s_law) [] [] f fd
  n_abs : mg "abs" = none
  n_all : mg "all" = none
  n_bool : mg "bool" = none
  n_enumerate : mg "enumerate" = none
  n_int : mg "int" = none
  n_isinstance : mg "isinstance" = none
  n_len : mg "len" = none
  n_list : mg "list" = none
  n_min : mg "min" = none
  n_range : mg "range" = none
  n_repr : mg "repr" = none
  n_sorted : mg "sorted" = none
  n_str : mg "str" = none
  n_tuple : mg "tuple" = none
  n_zip : mg "zip" = none
  c_FIGURES : GlD K mg "FIGURES" c_FIGURES
  c_LONGEST_NUMBER : GlD K mg "LONGEST_NUMBER" c_LONGEST_NUMBER
  c_AGING : GlD K mg "AGING" c_AGING
  c_KINDS : GlD K mg "KINDS" c_KINDS
  c_YOUNG : GlD K mg "YOUNG" c_YOUNG
  c_OLD : GlD K mg "OLD" c_OLD
  c_MOST_AGE : GlD K mg "MOST_AGE" c_MOST_AGE
  c_MOST_THINGS : GlD K mg "MOST_THINGS" c_MOST_THINGS
  c_MOST_SORTS : GlD K mg "MOST_SORTS" c_MOST_SORTS
  c_BLANK : GlD K mg "BLANK" c_BLANK
  c_NOTHING : GlD K mg "NOTHING" c_NOTHING
  c_OLD_TEXT : GlD K mg "OLD_TEXT" c_OLD_TEXT
  c_SORTS : GlD K mg "SORTS" c_SORTS
  x_InvalidBag : ∀ (P : Program) (w : World) (base : Heap), ∃ C, XCls P w K mg base "InvalidBag" C "given"
  x_InvalidHall : ∀ (P : Program) (w : World) (base : Heap), ∃ C, XCls P w K mg base "InvalidHall" C "given"
  x_InvalidText : ∀ (P : Program) (w : World) (base : Heap), ∃ C, XCls P w K mg base "InvalidText" C "given"
  g_AgeError : ∃ c, mg "AgeError" = some (.ref c) ∧ ∀ C b Ca, m_AgeError C = some b → mg C = some (.ref Ca) → PySem.W.exmOne K (.ref Ca) (.ref c) = some b
  g_InvalidBag : ∃ c, mg "InvalidBag" = some (.ref c) ∧ ∀ C b Ca, m_InvalidBag C = some b → mg C = some (.ref Ca) → PySem.W.exmOne K (.ref Ca) (.ref c) = some b
  g_InvalidText : ∃ c, mg "InvalidText" = some (.ref c) ∧ ∀ C b Ca, m_InvalidText C = some b → mg C = some (.ref Ca) → PySem.W.exmOne K (.ref Ca) (.ref c) = some b
  xf_given : ∀ C Ca, XOK C → mg C = some (.ref Ca) → XfC K Ca ∧ PySem.W.findIn K (.ref Ca) "given" = some none

theorem bd_is_whole : BindH "is_whole" (defArgs s_is_whole) ["value"] := fun _ _ _ _ _ _ _ _ us hl => match us, hl with | [_], _ => rfl
theorem bd_is_between : BindH "is_between" (defArgs s_is_between) ["value", "low", "high"] := fun _ _ _ _ _ _ _ _ us hl => match us, hl with | [_, _, _], _ => rfl
theorem bd_plain_number : BindH "plain_number" (defArgs s_plain_number) ["text", "low", "high"] := fun _ _ _ _ _ _ _ _ us hl => match us, hl with | [_, _, _], _ => rfl
theorem bd_kind_ok : BindH "kind_ok" (defArgs s_kind_ok) ["value"] := fun _ _ _ _ _ _ _ _ us hl => match us, hl with | [_], _ => rfl
theorem bd_is_aging : BindH "is_aging" (defArgs s_is_aging) ["kind"] := fun _ _ _ _ _ _ _ _ us hl => match us, hl with | [_], _ => rfl
theorem bd_thing_ok : BindH "thing_ok" (defArgs s_thing_ok) ["value", "most"] := fun _ _ _ _ _ _ _ _ us hl => match us, hl with | [_, _], _ => rfl
theorem bd_things_ok : BindH "things_ok" (defArgs s_things_ok) ["value", "many", "most"] := fun _ _ _ _ _ _ _ _ us hl => match us, hl with | [_, _, _], _ => rfl
theorem bd_hall_ok : BindH "hall_ok" (defArgs s_hall_ok) ["value"] := fun _ _ _ _ _ _ _ _ us hl => match us, hl with | [_], _ => rfl
theorem bd_bag_ok : BindH "bag_ok" (defArgs s_bag_ok) ["value"] := fun _ _ _ _ _ _ _ _ us hl => match us, hl with | [_], _ => rfl
theorem bd_text_of_thing : BindH "text_of_thing" (defArgs s_text_of_thing) ["kind", "age"] := fun _ _ _ _ _ _ _ _ us hl => match us, hl with | [_, _], _ => rfl
theorem bd_text_of_sort : BindH "text_of_sort" (defArgs s_text_of_sort) ["kind", "age"] := fun _ _ _ _ _ _ _ _ us hl => match us, hl with | [_, _], _ => rfl
theorem bd_joined_texts : BindH "joined_texts" (defArgs s_joined_texts) ["texts"] := fun _ _ _ _ _ _ _ _ us hl => match us, hl with | [_], _ => rfl
theorem bd_text_of_bag : BindH "text_of_bag" (defArgs s_text_of_bag) ["bag"] := fun _ _ _ _ _ _ _ _ us hl => match us, hl with | [_], _ => rfl
theorem bd_thing_from : BindH "thing_from" (defArgs s_thing_from) ["text", "most"] := fun _ _ _ _ _ _ _ _ us hl => match us, hl with | [_, _], _ => rfl
theorem bd_sort_from : BindH "sort_from" (defArgs s_sort_from) ["text"] := fun _ _ _ _ _ _ _ _ us hl => match us, hl with | [_], _ => rfl
theorem bd_bag_from : BindH "bag_from" (defArgs s_bag_from) ["text"] := fun _ _ _ _ _ _ _ _ us hl => match us, hl with | [_], _ => rfl
theorem bd_bag_by : BindH "bag_by" (defArgs s_bag_by) ["hall"] := fun _ _ _ _ _ _ _ _ us hl => match us, hl with | [_], _ => rfl
theorem bd_numbers_of : BindH "numbers_of" (defArgs s_numbers_of) ["bag"] := fun _ _ _ _ _ _ _ _ us hl => match us, hl with | [_], _ => rfl
theorem bd_are_within : BindH "are_within" (defArgs s_are_within) ["few", "many"] := fun _ _ _ _ _ _ _ _ us hl => match us, hl with | [_, _], _ => rfl
theorem bd_has_by : BindH "has_by" (defArgs s_has_by) ["hall", "bag"] := fun _ _ _ _ _ _ _ _ us hl => match us, hl with | [_, _], _ => rfl
theorem bd_check_hall : BindH "check_hall" (defArgs s_check_hall) ["hall"] := fun _ _ _ _ _ _ _ _ us hl => match us, hl with | [_], _ => rfl
theorem bd_check_bag : BindH "check_bag" (defArgs s_check_bag) ["bag"] := fun _ _ _ _ _ _ _ _ us hl => match us, hl with | [_], _ => rfl
theorem bd_check_text : BindH "check_text" (defArgs s_check_text) ["text"] := fun _ _ _ _ _ _ _ _ us hl => match us, hl with | [_], _ => rfl
theorem bd_is_hall : BindH "is_hall" (defArgs s_is_hall) ["value"] := fun _ _ _ _ _ _ _ _ us hl => match us, hl with | [_], _ => rfl
theorem bd_is_bag : BindH "is_bag" (defArgs s_is_bag) ["value"] := fun _ _ _ _ _ _ _ _ us hl => match us, hl with | [_], _ => rfl
theorem bd_bag_text : BindH "bag_text" (defArgs s_bag_text) ["bag"] := fun _ _ _ _ _ _ _ _ us hl => match us, hl with | [_], _ => rfl
theorem bd_read_bag : BindH "read_bag" (defArgs s_read_bag) ["text"] := fun _ _ _ _ _ _ _ _ us hl => match us, hl with | [_], _ => rfl
theorem bd_bag_of : BindH "bag_of" (defArgs s_bag_of) ["hall"] := fun _ _ _ _ _ _ _ _ us hl => match us, hl with | [_], _ => rfl
theorem bd_has : BindH "has" (defArgs s_has) ["hall", "bag"] := fun _ _ _ _ _ _ _ _ us hl => match us, hl with | [_, _], _ => rfl
theorem bd__law_press : BindH "_law_press" (defArgs s__law_press) ["script", "lap"] := fun _ _ _ _ _ _ _ _ us hl => match us, hl with | [_, _], _ => rfl
theorem bd__law_out : BindH "_law_out" (defArgs s__law_out) ["press", "many"] := fun _ _ _ _ _ _ _ _ us hl => match us, hl with | [_, _], _ => rfl
theorem bd__law_of : BindH "_law_of" (defArgs s__law_of) ["press", "things"] := fun _ _ _ _ _ _ _ _ us hl => match us, hl with | [_, _], _ => rfl
theorem bd__law_even : BindH "_law_even" (defArgs s__law_even) ["told", "due"] := fun _ _ _ _ _ _ _ _ us hl => match us, hl with | [_, _], _ => rfl
theorem bd__law_num : BindH "_law_num" (defArgs s__law_num) ["thing", "least", "most"] := fun _ _ _ _ _ _ _ _ us hl => match us, hl with | [_, _, _], _ => rfl
theorem bd__law_is_things : BindH "_law_is_things" (defArgs s__law_is_things) ["thing", "many", "most"] := fun _ _ _ _ _ _ _ _ us hl => match us, hl with | [_, _, _], _ => rfl
theorem bd__law_bag : BindH "_law_bag" (defArgs s__law_bag) ["hall"] := fun _ _ _ _ _ _ _ _ us hl => match us, hl with | [_], _ => rfl
theorem bd__law_text : BindH "_law_text" (defArgs s__law_text) ["hall", "most"] := fun _ _ _ _ _ _ _ _ us hl => match us, hl with | [_, _], _ => rfl
theorem bd__law_hall : BindH "_law_hall" (defArgs s__law_hall) ["press", "many"] := fun _ _ _ _ _ _ _ _ us hl => match us, hl with | [_, _], _ => rfl
theorem bd__law_sorts : BindH "_law_sorts" (defArgs s__law_sorts) ["press", "many"] := fun _ _ _ _ _ _ _ _ us hl => match us, hl with | [_, _], _ => rfl
theorem bd__law_read : BindH "_law_read" (defArgs s__law_read) ["text", "most"] := fun _ _ _ _ _ _ _ _ us hl => match us, hl with | [_, _], _ => rfl
theorem bd__law_near : BindH "_law_near" (defArgs s__law_near) ["press", "own"] := fun _ _ _ _ _ _ _ _ us hl => match us, hl with | [_, _], _ => rfl
theorem bd__law_near_texts : BindH "_law_near_texts" (defArgs s__law_near_texts) ["press", "text"] := fun _ _ _ _ _ _ _ _ us hl => match us, hl with | [_, _], _ => rfl
theorem bd__law_heard : BindH "_law_heard" (defArgs s__law_heard) ["which", "thing"] := fun _ _ _ _ _ _ _ _ us hl => match us, hl with | [_, _], _ => rfl
theorem bd__law_holds_all : BindH "_law_holds_all" (defArgs s__law_holds_all) ["press"] := fun _ _ _ _ _ _ _ _ us hl => match us, hl with | [_], _ => rfl
theorem bk_is_bag_0_value : BindK "is_bag" (defArgs s_is_bag) ["value"] ["value"] 0 1 [0] := fun _ _ _ _ _ _ _ _ us ws h1 h2 => match us, ws, h1, h2 with | [], [_], _, _ => rfl
theorem bk_read_bag_0_text : BindK "read_bag" (defArgs s_read_bag) ["text"] ["text"] 0 1 [0] := fun _ _ _ _ _ _ _ _ us ws h1 h2 => match us, ws, h1, h2 with | [], [_], _, _ => rfl
theorem bk_bag_text_0_bag : BindK "bag_text" (defArgs s_bag_text) ["bag"] ["bag"] 0 1 [0] := fun _ _ _ _ _ _ _ _ us ws h1 h2 => match us, ws, h1, h2 with | [], [_], _, _ => rfl
theorem bk_has_0_bag_hall : BindK "has" (defArgs s_has) ["hall", "bag"] ["bag", "hall"] 0 2 [1, 0] := fun _ _ _ _ _ _ _ _ us ws h1 h2 => match us, ws, h1, h2 with | [], [_, _], _, _ => rfl
theorem bk_bag_of_0_hall : BindK "bag_of" (defArgs s_bag_of) ["hall"] ["hall"] 0 1 [0] := fun _ _ _ _ _ _ _ _ us ws h1 h2 => match us, ws, h1, h2 with | [], [_], _, _ => rfl

/-! ### is_whole -/
def isWhole : D → Bool
  | .int _ => true
  | _ => false
def P_is_whole : FS := fun as R _ => ∃ d, as = [.val d] ∧ R (.bool (isWhole d))
def t_is_whole (Ex : Exc → Prop) : TrS := (qRet (qAndV (qIsi PyData.isInt (qV 0)) (qNotV (qIsi PyData.isBool (qV 0)))))
theorem pure_is_whole (as : List Sl) (R : D → Prop) (Ex : Exc → Prop) (hl : as.length = 1) (h : P_is_whole as R Ex) : t_is_whole Ex (fnE R) (startD ["value"] as) := by
  obtain ⟨d, rfl, h⟩ := h
  simp [t_is_whole, qRepL, qRev, qRet, qRetN, qAndV, qOrV, qNotV, qIsi, qV, qVB, qC, qNil, qCons, qANil, qACons, qAPrs, qTup, qLst, qOp, qBl, qChain, qUn, qTr, qAnd, qOr, qNot, qIf, qCa, qSl, qSo, qNo, qMt, qMt0, qCall, cal, qCallK, qNext, qSeq, qExp, qIfS, qAsg, and_assoc, qPar, qOwn, qFrz, qApp, qLstN, qListN, qLenE, qLenL, qLcE, qLcL, noOwn, iSeq, iRg1, iRg2, iZp, iEn, iEnT, qYes, qRaise, qTry, hdX, suB, exIn, qXf, qPOwn, qPWh, qSetOwn, qSetWh, qSetIx, fnE, startD, notDict, lcB, wipeD, qPn, qPc, qDct, qRetF, qCallF, qCallP, qBrk, qCnt, truthyD, lenOk, itemsD, seqD]
  cases d <;> simp_all [isWhole, PyData.isInt, PyData.isBool]
theorem sc_is_whole : FnScope ["value"] ["value"] (defScope s_is_whole) := ⟨rfl, rfl, rfl, by decide +kernel, rfl, by decide +kernel, by decide +kernel⟩
theorem ok_is_whole {P : Program} {w : World} {K : Fg} {mg : Str → Option Value} {base : Heap} (T : Tx K mg) : HasD P w K mg base PJ "is_whole" (defArgs s_is_whole) 1 ["value"] P_is_whole := by
  obtain ⟨f, fd, hm0, F⟩ := T.d_is_whole
  exact ⟨f, fd, _, _, hm0, F, fnD_of (N := ["value"]) F sc_is_whole fun cdv A outer s H E g Ex hr hG hm hP hE tk => ⟨t_is_whole Ex,
    (qss_one (qs_ret (QE.bb (qe_and (by exact (qe_isi (f := PyData.isInt) (QE.bb (qe_v 0)) rfl rfl T.n_isinstance rfl T.n_int boot_int fun _ _ _ _ _ _ r h => PySem.W.isinstance_int_data r h)) (qe_one (qe_not (by exact (qe_isi (f := PyData.isBool) (QE.bb (qe_v 0)) rfl rfl T.n_isinstance rfl T.n_bool boot_bool fun _ _ _ _ _ _ r h => PySem.W.isinstance_bool_data r h)))))))),
    fun as R hl h => pure_is_whole as R Ex hl h⟩⟩
/-! ### is_between -/
def P_is_between : FS := fun as R _ => ∃ d lo hi, as = [.val d, .val (.int lo), .val (.int hi)] ∧ R (.bool (between d lo hi))
def t_is_between (Ex : Exc → Prop) : TrS := (qRet (qAndV (qCall (fun _ => Ex) (cal 1 P_is_whole) (qACons (qV 0) qANil)) (qChain oLe oLe (qV 1) (qV 0) (qV 2))))
theorem pure_is_between (as : List Sl) (R : D → Prop) (Ex : Exc → Prop) (hl : as.length = 3) (h : P_is_between as R Ex) : t_is_between Ex (fnE R) (startD ["value", "low", "high"] as) := by
  obtain ⟨d, lo, hi, rfl, h⟩ := h
  simp [t_is_between, qRepL, qRev, qRet, qRetN, qAndV, qOrV, qNotV, qIsi, qV, qVB, qC, qNil, qCons, qANil, qACons, qAPrs, qTup, qLst, qOp, qBl, qChain, qUn, qTr, qAnd, qOr, qNot, qIf, qCa, qSl, qSo, qNo, qMt, qMt0, qCall, cal, qCallK, qNext, qSeq, qExp, qIfS, qAsg, and_assoc, qPar, qOwn, qFrz, qApp, qLstN, qListN, qLenE, qLenL, qLcE, qLcL, noOwn, iSeq, iRg1, iRg2, iZp, iEn, iEnT, qYes, qRaise, qTry, hdX, suB, exIn, qXf, qPOwn, qPWh, qSetOwn, qSetWh, qSetIx, fnE, startD, notDict, lcB, wipeD, qPn, qPc, qDct, qRetF, qCallF, qCallP, qBrk, qCnt, truthyD, lenOk, itemsD, seqD, P_is_whole]
  cases d with
  | int i =>
    simp [isWhole, oLe, AlC, PySem.W.alike, PyData.depth, PySem.W.dataLt_int, PL.between] at h ⊢
    by_cases h1 : i < lo
    · have : ¬ lo ≤ i := by omega
      simp [h1, this] at h ⊢; exact h
    · have : lo ≤ i := by omega
      simp [h1, this] at h ⊢
      by_cases h2 : hi < i
      · have : ¬ i ≤ hi := by omega
        simp [h2, this] at h ⊢; exact h
      · have : i ≤ hi := by omega
        simp [h2, this] at h ⊢; exact h
  | _ => simp_all [isWhole, PL.between]
theorem sc_is_between : FnScope ["value", "low", "high"] ["value", "low", "high"] (defScope s_is_between) := ⟨rfl, rfl, rfl, by decide +kernel, rfl, by decide +kernel, by decide +kernel⟩
theorem ok_is_between {P : Program} {w : World} {K : Fg} {mg : Str → Option Value} {base : Heap} (T : Tx K mg) : HasD P w K mg base PJ "is_between" (defArgs s_is_between) 2 ["value", "low", "high"] P_is_between := by
  obtain ⟨f, fd, hm0, F⟩ := T.d_is_between
  exact ⟨f, fd, _, _, hm0, F, fnD_of (N := ["value", "low", "high"]) F sc_is_between fun cdv A outer s H E g Ex hr hG hm hP hE tk => ⟨t_is_between Ex,
    (qss_one (qs_ret (QE.bb (qe_and (by exact (qe_callH (ps := ["value"]) hE hP (ok_is_whole T) bd_is_whole (hr.mono (by decide)) hG hm tk rfl (qa_cons (qe_v 0) qa_nil))) (qe_one (qe_chain (opd_le (un_of hr)) (opd_le (un_of hr)) (QE.bb (qe_v 1)) (QE.bb (qe_v 0)) (QE.bb (qe_v 2)))))))),
    fun as R hl h => pure_is_between as R Ex hl h⟩⟩
/-! ### plain_number -/
def P_plain_number : FS := fun as R _ => ∃ (t : List Nat) (high : Nat), as = [.val (.str (tx t)), .val (.int 0), .val (.int (high : Int))] ∧ high < 10 ^ 20 ∧ t.length ≤ 10000000 ∧ (∀ n, t = dg n → n ≤ high → R (.int (n : Int))) ∧ ((∀ n, n ≤ high → t ≠ dg n) → R .none)
def t_plain_number (Ex : Exc → Prop) : TrS := (qSeq (qIfS (qOr (qBl (qOp oEq (qV 0) (qC (.str "")))) (qOr (qBl (qOp oGt (qCa cLen (qCons (qV 0) qNil)) (qC c_LONGEST_NUMBER))) (qNot (qTr (qCa cAll (qCons (qLcE (qLcL [3] (iSeq (qLenE (qV 0))) (gNm 3) qYes (qOp oIn (qV 3) (qC c_FIGURES)))) qNil)))))) (qRet (qC .none)) qNext)
    (qSeq (qIfS (qAnd (qBl (qOp oGt (qCa cLen (qCons (qV 0) qNil)) (qC (.int 1)))) (qBl (qOp oEq (qOp oIx (qV 0) (qC (.int 0))) (qC (.str "0"))))) (qRet (qC .none)) qNext)
    (qSeq (qAsg (qCa cInt (qCons (qV 0) qNil)) (gNm 4))
    (qRet (qIf (qTr (qCall (fun _ => Ex) (cal 3 P_is_between) (qACons (qV 4) (qACons (qV 1) (qACons (qV 2) qANil))))) (qV 4) (qC .none))))))
theorem figs_list : Str.ofString "0123456789" = tx [48, 49, 50, 51, 52, 53, 54, 55, 56, 57] := by decide +kernel
theorem in_figs (c : Nat) : inStr ⟨#[c]⟩ (Str.ofString "0123456789") = decide (48 ≤ c ∧ c ≤ 57) := by
  rw [figs_list, in_sg]
  by_cases h : 48 ≤ c ∧ c ≤ 57
  · rw [decide_eq_true h]; simp; omega
  · rw [decide_eq_false h]; simp; omega
theorem all_figs (t : List Nat) : (t.all fun c => decide (48 ≤ c ∧ c ≤ 57)) = true ↔ NumText.AllDigits t := by
  simp [NumText.AllDigits]
theorem pure_plain_number (as : List Sl) (R : D → Prop) (Ex : Exc → Prop) (hl : as.length = 3) (h : P_plain_number as R Ex) : t_plain_number Ex (fnE R) (startD ["text", "low", "high", "sign", "number"] as) := by
  obtain ⟨t, high, rfl, hh, hz, h1, h2⟩ := h
  have hS : t.length ≤ sizeLine := by rw [sizeLine_eq]; omega
  simp [t_plain_number, qRepL, qRev, qRet, qRetN, qAndV, qOrV, qNotV, qIsi, qV, qVB, qC, qNil, qCons, qANil, qACons, qAPrs, qTup, qLst, qOp, qBl, qChain, qUn, qTr, qAnd, qOr, qNot, qIf, qCa, qSl, qSo, qNo, qMt, qMt0, qCall, cal, qCallK, qNext, qSeq, qExp, qIfS, qAsg, and_assoc, qPar, qOwn, qFrz, qApp, qLstN, qListN, qLenE, qLenL, qLcE, qLcL, noOwn, iSeq, iRg1, iRg2, iZp, iEn, iEnT, qYes, qRaise, qTry, hdX, suB, exIn, qXf, qPOwn, qPWh, qSetOwn, qSetWh, qSetIx, fnE, startD, notDict, lcB, wipeD, qPn, qPc, qDct, qRetF, qCallF, qCallP, qBrk, qCnt, truthyD, lenOk, itemsD, seqD, P_is_between, c_LONGEST_NUMBER, c_FIGURES, oEq, PyData.plain, PyData.depth, cLen, hS]
  have e0 : Str.ofString "" = tx [] := by decide +kernel
  have e1 : Str.ofString "0" = tx [48] := by decide +kernel
  have hd : ∀ n, n ≤ high → (dg n).length ≤ 20 := fun n hn => dg_len (by decide) (by omega)
  rw [e0, e1]
  simp only [eqv_tx]
  by_cases h0 : t = []
  · subst h0; simp; exact h2 fun n _ e => dg_ne n e.symm
  simp [h0]
  by_cases hz2 : 200 < t.length
  · exact .inr ⟨by omega, h2 fun n hn e => by have := hd n hn; rw [← e] at this; omega⟩
  refine .inl ⟨by omega, ?_⟩
  refine ⟨by simp [sgns]; exact hS, ?_⟩
  refine lcD_map sg (fun c => .bool (decide (48 ≤ c ∧ c ≤ 57))) (ts := t) rfl (fun c hc k hk => ?_) ?_
  · simp [qRepL, qRev, qRet, qRetN, qAndV, qOrV, qNotV, qIsi, qV, qVB, qC, qNil, qCons, qANil, qACons, qAPrs, qTup, qLst, qOp, qBl, qChain, qUn, qTr, qAnd, qOr, qNot, qIf, qCa, qSl, qSo, qNo, qMt, qMt0, qCall, cal, qCallK, qNext, qSeq, qExp, qIfS, qAsg, and_assoc, qPar, qOwn, qFrz, qApp, qLstN, qListN, qLenE, qLenL, qLcE, qLcL, noOwn, iSeq, iRg1, iRg2, iZp, iEn, iEnT, qYes, qRaise, qTry, hdX, suB, exIn, qXf, qPOwn, qPWh, qSetOwn, qSetWh, qSetIx, fnE, startD, notDict, lcB, wipeD, qPn, qPc, qDct, qRetF, qCallF, qCallP, qBrk, qCnt, truthyD, lenOk, itemsD, seqD, oIn]
    rw [in_figs]
    exact hk
  rw [cAll_map]
  simp only [reduceCtorEq, false_implies, implies_true, true_and]
  rcases bool_cases (t.all fun c => decide (48 ≤ c ∧ c ≤ 57)) with ha | ha
  · rw [ha]
    have hA := (all_figs t).mp ha
    have hR : Canon t → (cInt [PyData.str (tx t)] fun d => if between d 0 (high : Int) = true then (match d with | PyData.dict kvs => False | x => True) ∧ R d else R PyData.none) := fun hc => by
      refine .inr (.inr ⟨tx t, _, rfl, intText_digits (x := tx t) (by simpa using hA) (by simpa using h0) (by rw [tx_len]; omega), by rw [tx_len]; omega, ?_⟩)
      have et := dg_of hc
      by_cases hb : NumText.digitsVal t ≤ high
      · have : between (.int (NumText.digitsVal (tx t).cps.toList : Nat)) 0 (high : Int) = true := by simp [between]; exact hb
        dsimp only
        rw [if_pos this]
        exact ⟨trivial, h1 _ (by simpa using et.symm) (by simpa using hb)⟩
      · have : ¬ between (.int (NumText.digitsVal (tx t).cps.toList : Nat)) 0 (high : Int) = true := by simp [between]; omega
        dsimp only
        rw [if_neg this]
        exact h2 fun n hn e => hb (by rw [e, dg_val]; exact hn)
    simp
    by_cases hl1 : t.length ≤ 1
    · have : t.length = 1 := by have := List.length_pos_iff.mpr h0; omega
      exact .inl ⟨by omega, hR ⟨hA, h0, .inl this⟩⟩
    · refine .inr ⟨by omega, ?_⟩
      cases t with
      | nil => exact absurd rfl h0
      | cons c r =>
        simp [oIx, atI, ixN, hS]
        refine ⟨by simpa using hS, rfl, ?_⟩
        have e3 : PyData.eqv (PyData.str ⟨#[c]⟩) (PyData.str (tx [48])) = decide (c = 48) := by rw [show (⟨#[c]⟩ : Str) = tx [c] from rfl, eqv_tx]; simp
        rw [e3]
        by_cases hc : c = 48
        · rw [if_pos (decide_eq_true hc)]
          refine h2 fun n _ e => ?_
          rcases (canon_dg n).head with z | ⟨d, s, z, hd2⟩
          · rw [← e] at z; omega
          · rw [← e] at z; simp at z; omega
        · rw [if_neg (by simpa using hc)]
          have := hA c List.mem_cons_self
          exact hR ⟨hA, h0, .inr ⟨c, r, rfl, by omega⟩⟩
  · rw [ha]
    simp
    refine h2 fun n _ e => ?_
    have : (t.all fun c => decide (48 ≤ c ∧ c ≤ 57)) = true := (all_figs t).mpr (by rw [e]; exact dg_all n)
    rw [this] at ha; cases ha
theorem sc_plain_number : FnScope ["text", "low", "high", "sign", "number"] ["text", "low", "high"] (defScope s_plain_number) := ⟨rfl, rfl, rfl, by decide +kernel, rfl, by decide +kernel, by decide +kernel⟩
theorem ok_plain_number {P : Program} {w : World} {K : Fg} {mg : Str → Option Value} {base : Heap} (T : Tx K mg) : HasD P w K mg base PJ "plain_number" (defArgs s_plain_number) 3 ["text", "low", "high"] P_plain_number := by
  obtain ⟨f, fd, hm0, F⟩ := T.d_plain_number
  exact ⟨f, fd, _, _, hm0, F, fnD_of (N := ["text", "low", "high", "sign", "number"]) F sc_plain_number fun cdv A outer s H E g Ex hr hG hm hP hE tk => ⟨t_plain_number Ex,
    (qss_cons (qs_if (qt_w (qw_or (qt_cmp (opd_eq (un_of hr)) (QE.bb (qe_v 0)) (QE.bb qe_str)) (qw_or (qt_cmp (opd_gt (un_of hr)) (QE.bb (by exact (qe_callB cad_len rfl T.n_len boot_len (qlb_cons (QE.bb (qe_v 0)) qlb_nil)))) (QE.bb (qe_glo T.c_LONGEST_NUMBER rfl))) (qw_or1 (qt_not (qt_of (QE.bb (by exact (qe_callB (cad_all rfl) rfl T.n_all boot_all (qlb_cons (QE.bb (by exact (QN.qe (qn_lc (own := [("sign", 3)]) rfl sc_plain_number.nd (by exact (qi_seq (qe_len (qe_v 0)))) (by exact blkOk_by (N := ["text", "low", "high", "sign", "number"]) (sc := defScope s_plain_number) (own := [("sign", 3)]) (by decide +kernel)) (fun s H C cl fp hd => by exact (qg_name 3 sc_plain_number.nd)) (fun s H C cl fp hd => by exact qts_nil) (fun s H C cl fp hd => by exact (qe_cmp (opd_in (un_of hr)) (QE.bb (qe_v 3)) (QE.bb (qe_glo T.c_FIGURES rfl)))))))) qlb_nil)))))))))) (qss_one (qs_ret (QE.bb qe_non))) qss_nil)
    (qss_cons (qs_if (qt_w (qw_and (qt_cmp (opd_gt (un_of hr)) (QE.bb (by exact (qe_callB cad_len rfl T.n_len boot_len (qlb_cons (QE.bb (qe_v 0)) qlb_nil)))) (QE.bb qe_int)) (qw_and1 (qt_cmp (opd_eq (un_of hr)) (QE.bb (qe_ix (QE.bb (qe_v 0)) (QE.bb qe_int) (fun _ _ => rfl))) (QE.bb qe_str))))) (qss_one (qs_ret (QE.bb qe_non))) qss_nil)
    (qss_cons (qs_set 4 (by exact (qe_callTy cad_int rfl T.n_int boot_int (qlb_cons (QE.bb (qe_v 0)) qlb_nil))) sc_plain_number.nd)
    (qss_one (qs_ret (QE.bb (qe_if (qt_of (QE.bb (by exact (qe_callH (ps := ["value", "low", "high"]) hE hP (ok_is_between T) bd_is_between (hr.mono (by decide)) hG hm tk rfl (qa_cons (qe_v 4) (qa_cons (qe_v 1) (qa_cons (qe_v 2) qa_nil))))))) (qe_v 4) qe_non))))))),
    fun as R hl h => pure_plain_number as R Ex hl h⟩⟩
/-! ### kind_ok -/
def P_kind_ok : FS := fun as R _ => ∃ d, as = [.val d] ∧ Gd d ∧ R (.bool (isKind d))
def t_kind_ok (Ex : Exc → Prop) : TrS := (qRet (qAndV (qIsi PyData.isStr (qV 0)) (qAndV (qOp oEq (qCa cLen (qCons (qV 0) qNil)) (qC (.int 1))) (qOp oIn (qV 0) (qC c_KINDS)))))
theorem pure_kind_ok (as : List Sl) (R : D → Prop) (Ex : Exc → Prop) (hl : as.length = 1) (h : P_kind_ok as R Ex) : t_kind_ok Ex (fnE R) (startD ["value"] as) := by
  obtain ⟨d, rfl, g, h⟩ := h
  simp [t_kind_ok, qRepL, qRev, qRet, qRetN, qAndV, qOrV, qNotV, qIsi, qV, qVB, qC, qNil, qCons, qANil, qACons, qAPrs, qTup, qLst, qOp, qBl, qChain, qUn, qTr, qAnd, qOr, qNot, qIf, qCa, qSl, qSo, qNo, qMt, qMt0, qCall, cal, qCallK, qNext, qSeq, qExp, qIfS, qAsg, and_assoc, qPar, qOwn, qFrz, qApp, qLstN, qListN, qLenE, qLenL, qLcE, qLcL, noOwn, iSeq, iRg1, iRg2, iZp, iEn, iEnT, qYes, qRaise, qTry, hdX, suB, exIn, qXf, qPOwn, qPWh, qSetOwn, qSetWh, qSetIx, fnE, startD, notDict, lcB, wipeD, qPn, qPc, qDct, qRetF, qCallF, qCallP, qBrk, qCnt, truthyD, lenOk, itemsD, seqD]
  cases d with
  | str x =>
    have hx : x.length ≤ 100000 := by simpa [good] using g.1
    have hs : x.length ≤ sizeLine := by rw [sizeLine_eq]; omega
    simp [PyData.isStr, cLen, oEq, oIn, PyData.plain, PyData.depth, PyData.eqv, c_KINDS, hs, isKind] at h ⊢
    by_cases h1 : x.length = 1
    · have h2 : (x.length : Int) = 1 := by omega
      simp [h1, h2] at h ⊢; exact h
    · have h2 : ¬ (x.length : Int) = 1 := by omega
      simp [h1, h2] at h ⊢; exact h
  | _ => simp_all [PyData.isStr, isKind]
theorem sc_kind_ok : FnScope ["value"] ["value"] (defScope s_kind_ok) := ⟨rfl, rfl, rfl, by decide +kernel, rfl, by decide +kernel, by decide +kernel⟩
theorem ok_kind_ok {P : Program} {w : World} {K : Fg} {mg : Str → Option Value} {base : Heap} (T : Tx K mg) : HasD P w K mg base PJ "kind_ok" (defArgs s_kind_ok) 1 ["value"] P_kind_ok := by
  obtain ⟨f, fd, hm0, F⟩ := T.d_kind_ok
  exact ⟨f, fd, _, _, hm0, F, fnD_of (N := ["value"]) F sc_kind_ok fun cdv A outer s H E g Ex hr hG hm hP hE tk => ⟨t_kind_ok Ex,
    (qss_one (qs_ret (QE.bb (qe_and (by exact (qe_isi (f := PyData.isStr) (QE.bb (qe_v 0)) rfl rfl T.n_isinstance rfl T.n_str boot_str fun _ _ _ _ _ _ r h => PySem.W.isinstance_str_data r h)) (qe_and (qe_cmp (opd_eq (un_of hr)) (QE.bb (by exact (qe_callB cad_len rfl T.n_len boot_len (qlb_cons (QE.bb (qe_v 0)) qlb_nil)))) (QE.bb qe_int)) (qe_one (qe_cmp (opd_in (un_of hr)) (QE.bb (qe_v 0)) (QE.bb (qe_glo T.c_KINDS rfl))))))))),
    fun as R hl h => pure_kind_ok as R Ex hl h⟩⟩
/-! ### is_aging -/
def P_is_aging : FS := fun as R _ => ∃ x, as = [.val (.str x)] ∧ R (.bool (isAging (.str x)))
def t_is_aging (Ex : Exc → Prop) : TrS := (qRet (qOp oIn (qV 0) (qC c_AGING)))
theorem pure_is_aging (as : List Sl) (R : D → Prop) (Ex : Exc → Prop) (hl : as.length = 1) (h : P_is_aging as R Ex) : t_is_aging Ex (fnE R) (startD ["kind"] as) := by
  obtain ⟨x, rfl, h⟩ := h
  simp [t_is_aging, qRepL, qRev, qRet, qRetN, qAndV, qOrV, qNotV, qIsi, qV, qVB, qC, qNil, qCons, qANil, qACons, qAPrs, qTup, qLst, qOp, qBl, qChain, qUn, qTr, qAnd, qOr, qNot, qIf, qCa, qSl, qSo, qNo, qMt, qMt0, qCall, cal, qCallK, qNext, qSeq, qExp, qIfS, qAsg, and_assoc, qPar, qOwn, qFrz, qApp, qLstN, qListN, qLenE, qLenL, qLcE, qLcL, noOwn, iSeq, iRg1, iRg2, iZp, iEn, iEnT, qYes, qRaise, qTry, hdX, suB, exIn, qXf, qPOwn, qPWh, qSetOwn, qSetWh, qSetIx, fnE, startD, notDict, lcB, wipeD, qPn, qPc, qDct, qRetF, qCallF, qCallP, qBrk, qCnt, truthyD, lenOk, itemsD, seqD, oIn, c_AGING]
  exact h
theorem sc_is_aging : FnScope ["kind"] ["kind"] (defScope s_is_aging) := ⟨rfl, rfl, rfl, by decide +kernel, rfl, by decide +kernel, by decide +kernel⟩
theorem ok_is_aging {P : Program} {w : World} {K : Fg} {mg : Str → Option Value} {base : Heap} (T : Tx K mg) : HasD P w K mg base PJ "is_aging" (defArgs s_is_aging) 1 ["kind"] P_is_aging := by
  obtain ⟨f, fd, hm0, F⟩ := T.d_is_aging
  exact ⟨f, fd, _, _, hm0, F, fnD_of (N := ["kind"]) F sc_is_aging fun cdv A outer s H E g Ex hr hG hm hP hE tk => ⟨t_is_aging Ex,
    (qss_one (qs_ret (QE.bb (qe_cmp (opd_in (un_of hr)) (QE.bb (qe_v 0)) (QE.bb (qe_glo T.c_AGING rfl)))))),
    fun as R hl h => pure_is_aging as R Ex hl h⟩⟩
/-! ### thing_ok -/
def P_thing_ok : FS := fun as R _ => ∃ d, ∃ most : Nat, as = [.val d, .val (.int most)] ∧ Gd d ∧ R (.bool (isThing most d))
def t_thing_ok (Ex : Exc → Prop) : TrS := (qSeq (qIfS (qOr (qNot (qTr (qIsi PyData.isTuple (qV 0)))) (qOr (qBl (qOp oNe (qCa cLen (qCons (qV 0) qNil)) (qC (.int 2)))) (qNot (qTr (qCall (fun _ => Ex) (cal 1 P_kind_ok) (qACons (qOp oIx (qV 0) (qC (.int 0))) qANil)))))) (qRet (qC (.bool false))) qNext)
    (qRet (qCall (fun _ => Ex) (cal 3 P_is_between) (qACons (qOp oIx (qV 0) (qC (.int 1))) (qACons (qC (.int 0)) (qACons (qIf (qTr (qCall (fun _ => Ex) (cal 1 P_is_aging) (qACons (qOp oIx (qV 0) (qC (.int 0))) qANil))) (qV 1) (qC (.int 0))) qANil))))))
theorem pure_thing_ok (as : List Sl) (R : D → Prop) (Ex : Exc → Prop) (hl : as.length = 2) (h : P_thing_ok as R Ex) : t_thing_ok Ex (fnE R) (startD ["value", "most"] as) := by
  obtain ⟨d, most, rfl, g, h⟩ := h
  simp [t_thing_ok, qRepL, qRev, qRet, qRetN, qAndV, qOrV, qNotV, qIsi, qV, qVB, qC, qNil, qCons, qANil, qACons, qAPrs, qTup, qLst, qOp, qBl, qChain, qUn, qTr, qAnd, qOr, qNot, qIf, qCa, qSl, qSo, qNo, qMt, qMt0, qCall, cal, qCallK, qNext, qSeq, qExp, qIfS, qAsg, and_assoc, qPar, qOwn, qFrz, qApp, qLstN, qListN, qLenE, qLenL, qLcE, qLcL, noOwn, iSeq, iRg1, iRg2, iZp, iEn, iEnT, qYes, qRaise, qTry, hdX, suB, exIn, qXf, qPOwn, qPWh, qSetOwn, qSetWh, qSetIx, fnE, startD, notDict, lcB, wipeD, qPn, qPc, qDct, qRetF, qCallF, qCallP, qBrk, qCnt, truthyD, lenOk, itemsD, seqD, P_kind_ok, P_is_between, P_is_aging]
  cases d with
  | tuple xs =>
    simp [PyData.isTuple, cLen, oNe, PyData.plain, PyData.depth, PyData.eqv]
    match xs, g, h with
    | [], g, h => simp_all [isThing]
    | [k], g, h => simp_all [isThing]
    | k :: v :: w :: r, g, h =>
      have : ¬ ((r.length : Int) + 1 + 1 + 1 = 2) := by omega
      simp_all [isThing]
    | [k, v], g, h =>
      have gk : Gd k := Gd.mem (.inl g) (by simp)
      simp [oIx, atI, ixN, gk] at h ⊢
      by_cases hk : isKind k = true
      · obtain ⟨c, rfl, _⟩ := isKind_sg hk
        simp [hk, isThing] at h ⊢
        by_cases ha : isAging (sg c) = true <;> simp [ha] at h ⊢ <;> exact h
      · simp [hk, isThing] at h ⊢
        exact h
  | _ => simp_all [PyData.isTuple, isThing]
theorem sc_thing_ok : FnScope ["value", "most"] ["value", "most"] (defScope s_thing_ok) := ⟨rfl, rfl, rfl, by decide +kernel, rfl, by decide +kernel, by decide +kernel⟩
theorem ok_thing_ok {P : Program} {w : World} {K : Fg} {mg : Str → Option Value} {base : Heap} (T : Tx K mg) : HasD P w K mg base PJ "thing_ok" (defArgs s_thing_ok) 3 ["value", "most"] P_thing_ok := by
  obtain ⟨f, fd, hm0, F⟩ := T.d_thing_ok
  exact ⟨f, fd, _, _, hm0, F, fnD_of (N := ["value", "most"]) F sc_thing_ok fun cdv A outer s H E g Ex hr hG hm hP hE tk => ⟨t_thing_ok Ex,
    (qss_cons (qs_if (qt_w (qw_or (qt_not (qt_of (QE.bb (by exact (qe_isi (f := PyData.isTuple) (QE.bb (qe_v 0)) rfl rfl T.n_isinstance rfl T.n_tuple boot_tuple fun _ _ _ _ _ _ r h => PySem.W.isinstance_tuple_data r h))))) (qw_or (qt_cmp (opd_ne (un_of hr)) (QE.bb (by exact (qe_callB cad_len rfl T.n_len boot_len (qlb_cons (QE.bb (qe_v 0)) qlb_nil)))) (QE.bb qe_int)) (qw_or1 (qt_not (qt_of (QE.bb (by exact (qe_callH (ps := ["value"]) hE hP (ok_kind_ok T) bd_kind_ok (hr.mono (by decide)) hG hm tk rfl (qa_cons (qe_ix (QE.bb (qe_v 0)) (QE.bb qe_int) (fun _ _ => rfl)) qa_nil)))))))))) (qss_one (qs_ret (QE.bb qe_bl))) qss_nil)
    (qss_one (qs_ret (QE.bb (by exact (qe_callH (ps := ["value", "low", "high"]) hE hP (ok_is_between T) bd_is_between (hr.mono (by decide)) hG hm tk rfl (qa_cons (qe_ix (QE.bb (qe_v 0)) (QE.bb qe_int) (fun _ _ => rfl)) (qa_cons qe_int (qa_cons (qe_if (qt_of (QE.bb (by exact (qe_callH (ps := ["kind"]) hE hP (ok_is_aging T) bd_is_aging (hr.mono (by decide)) hG hm tk rfl (qa_cons (qe_ix (QE.bb (qe_v 0)) (QE.bb qe_int) (fun _ _ => rfl)) qa_nil))))) (qe_v 1) qe_int) qa_nil))))))))),
    fun as R hl h => pure_thing_ok as R Ex hl h⟩⟩
/-! ### things_ok -/
def P_things_ok : FS := fun as R _ => ∃ d, ∃ many most : Nat, as = [.val d, .val (.int many), .val (.int most)] ∧ Gt d ∧ R (.bool (isThings most many d))
def t_things_ok (Ex : Exc → Prop) : TrS := (qSeq (qIfS (qOr (qNot (qTr (qIsi PyData.isTuple (qV 0)))) (qOr (qBl (qOp oGt (qCa cLen (qCons (qV 0) qNil)) (qV 1))) (qNot (qTr (qCa cAll (qCons (qLcE (qLcL [3] (iSeq (qLenE (qV 0))) (gNm 3) qYes (qCall E0 (cal 2 P_thing_ok) (qACons (qV 3) (qACons (qV 2) qANil))))) qNil)))))) (qRet (qC (.bool false))) qNext)
    (qRet (qCa cAll (qCons (qLcE (qLcL [4, 5] (iZp (qLenL (qCons (qV 0) (qCons (qSl (qV 0) (qSo (qC (.int 1))) qNo) qNil)))) (gTp 2 (gNc (gNm 4) (gNc (gNm 5) gN0))) qYes (qOp oLe (qV 4) (qV 5)))) qNil))))
theorem pure_things_ok (as : List Sl) (R : D → Prop) (Ex : Exc → Prop) (hl : as.length = 3) (h : P_things_ok as R Ex) : t_things_ok Ex (fnE R) (startD ["value", "many", "most", "thing", "one", "two"] as) := by
  obtain ⟨d, many, most, rfl, g, h⟩ := h
  simp [t_things_ok, qRepL, qRev, qRet, qRetN, qAndV, qOrV, qNotV, qIsi, qV, qVB, qC, qNil, qCons, qANil, qACons, qAPrs, qTup, qLst, qOp, qBl, qChain, qUn, qTr, qAnd, qOr, qNot, qIf, qCa, qSl, qSo, qNo, qMt, qMt0, qCall, cal, qCallK, qNext, qSeq, qExp, qIfS, qAsg, and_assoc, qPar, qOwn, qFrz, qApp, qLstN, qListN, qLenE, qLenL, qLcE, qLcL, noOwn, iSeq, iRg1, iRg2, iZp, iEn, iEnT, qYes, qRaise, qTry, hdX, suB, exIn, qXf, qPOwn, qPWh, qSetOwn, qSetWh, qSetIx, fnE, startD, notDict, lcB, wipeD, qPn, qPc, qDct, qRetF, qCallF, qCallP, qBrk, qCnt, truthyD, lenOk, itemsD, seqD, P_thing_ok]
  cases d with
  | tuple xs =>
    have hc : ∀ i j : Int, AlC (.int i) (.int j) := fun i j => ⟨rfl, by simp, by simp [PyData.depth]⟩
    have g : Gd (.tuple xs) := g xs rfl
    rw [all_isThings] at h
    simp [PyData.isTuple, cLen, oGt, hc, PySem.W.dataLt_int] at h ⊢
    by_cases h1 : many < xs.length
    · have : ¬ xs.length ≤ many := by omega
      simp [h1, this] at h ⊢; exact h
    have h1' : xs.length ≤ many := by omega
    simp [h1, h1'] at h ⊢
    intro hz
    refine ⟨hz, lcD_map id (fun d => .bool (isThing most d)) (ts := xs) (by simp) (fun d hd k hk => ?_) ?_⟩
    · simp [qRepL, qRev, qRet, qRetN, qAndV, qOrV, qNotV, qIsi, qV, qVB, qC, qNil, qCons, qANil, qACons, qAPrs, qTup, qLst, qOp, qBl, qChain, qUn, qTr, qAnd, qOr, qNot, qIf, qCa, qSl, qSo, qNo, qMt, qMt0, qCall, cal, qCallK, qNext, qSeq, qExp, qIfS, qAsg, and_assoc, qPar, qOwn, qFrz, qApp, qLstN, qListN, qLenE, qLenL, qLcE, qLcL, noOwn, iSeq, iRg1, iRg2, iZp, iEn, iEnT, qYes, qRaise, qTry, hdX, suB, exIn, qXf, qPOwn, qPWh, qSetOwn, qSetWh, qSetIx, fnE, startD, notDict, lcB, wipeD, qPn, qPc, qDct, qRetF, qCallF, qCallP, qBrk, qCnt, truthyD, lenOk, itemsD, seqD]
      exact ⟨d, most, rfl, Gd.mem (.inl g) hd, hk⟩
    · rw [cAll_map]
      simp only [reduceCtorEq, false_implies, implies_true, true_and]
      rcases bool_cases (xs.all (isThing most)) with h2 | h2
      · obtain ⟨ts, rfl, _⟩ := things_of h2
        rw [h2] at h ⊢
        simp only [Bool.true_and] at h
        simp [oSl, zip_cut]
        intro _ _
        refine ⟨_, _, ⟨rfl, rfl⟩, ?_⟩
        rw [zip_cut]
        refine ⟨by simp at hz ⊢; omega, lcD_map (fun p : D × D => .tuple [p.1, p.2]) (fun p => .bool (!PySem.W.dataLt p.2 p.1)) rfl (fun p hp k hk => ?_) ?_⟩
        · obtain ⟨a, b⟩ := p
          obtain ⟨p1, p2⟩ := zip_tail_mem hp
          obtain ⟨t, _, rfl⟩ := List.mem_map.mp p1
          obtain ⟨u, _, rfl⟩ := List.mem_map.mp p2
          simp [qRepL, qRev, qRet, qRetN, qAndV, qOrV, qNotV, qIsi, qV, qVB, qC, qNil, qCons, qANil, qACons, qAPrs, qTup, qLst, qOp, qBl, qChain, qUn, qTr, qAnd, qOr, qNot, qIf, qCa, qSl, qSo, qNo, qMt, qMt0, qCall, cal, qCallK, qNext, qSeq, qExp, qIfS, qAsg, and_assoc, qPar, qOwn, qFrz, qApp, qLstN, qListN, qLenE, qLenL, qLcE, qLcL, noOwn, iSeq, iRg1, iRg2, iZp, iEn, iEnT, qYes, qRaise, qTry, hdX, suB, exIn, qXf, qPOwn, qPWh, qSetOwn, qSetWh, qSetIx, fnE, startD, notDict, lcB, wipeD, qPn, qPc, qDct, qRetF, qCallF, qCallP, qBrk, qCnt, truthyD, lenOk, itemsD, seqD, oLe, thAlC]
          exact hk
        · rw [cAll_map]
          simp only [true_and]
          exact h
      · rw [h2] at h ⊢
        simp only [Bool.false_and] at h
        simp
        exact h
  | _ => simp_all [PyData.isTuple, isThings]
theorem sc_things_ok : FnScope ["value", "many", "most", "thing", "one", "two"] ["value", "many", "most"] (defScope s_things_ok) := ⟨rfl, rfl, rfl, by decide +kernel, rfl, by decide +kernel, by decide +kernel⟩
theorem ok_things_ok {P : Program} {w : World} {K : Fg} {mg : Str → Option Value} {base : Heap} (T : Tx K mg) : HasD P w K mg base PJ "things_ok" (defArgs s_things_ok) 4 ["value", "many", "most"] P_things_ok := by
  obtain ⟨f, fd, hm0, F⟩ := T.d_things_ok
  exact ⟨f, fd, _, _, hm0, F, fnD_of (N := ["value", "many", "most", "thing", "one", "two"]) F sc_things_ok fun cdv A outer s H E g Ex hr hG hm hP hE tk => ⟨t_things_ok Ex,
    (qss_cons (qs_if (qt_w (qw_or (qt_not (qt_of (QE.bb (by exact (qe_isi (f := PyData.isTuple) (QE.bb (qe_v 0)) rfl rfl T.n_isinstance rfl T.n_tuple boot_tuple fun _ _ _ _ _ _ r h => PySem.W.isinstance_tuple_data r h))))) (qw_or (qt_cmp (opd_gt (un_of hr)) (QE.bb (by exact (qe_callB cad_len rfl T.n_len boot_len (qlb_cons (QE.bb (qe_v 0)) qlb_nil)))) (QE.bb (qe_v 1))) (qw_or1 (qt_not (qt_of (QE.bb (by exact (qe_callB (cad_all rfl) rfl T.n_all boot_all (qlb_cons (QE.bb (by exact (QN.qe (qn_lc (own := [("thing", 3)]) rfl sc_things_ok.nd (by exact (qi_seq (qe_len (qe_v 0)))) (by exact blkOk_by (N := ["value", "many", "most", "thing", "one", "two"]) (sc := defScope s_things_ok) (own := [("thing", 3)]) (by decide +kernel)) (fun s H C cl fp hd => by exact (qg_name 3 sc_things_ok.nd)) (fun s H C cl fp hd => by exact qts_nil) (fun s H C cl fp hd => by exact (by exact (qe_callH (ps := ["value", "most"]) rfl hP (ok_thing_ok T) bd_thing_ok (hr.mono (by decide)) hG hm (takesE0 rfl) rfl (qa_cons (qe_v 3) (qa_cons (qe_v 2) qa_nil))))))))) qlb_nil)))))))))) (qss_one (qs_ret (QE.bb qe_bl))) qss_nil)
    (qss_one (qs_ret (QE.bb (by exact (qe_callB (cad_all rfl) rfl T.n_all boot_all (qlb_cons (QE.bb (by exact (QN.qe (qn_lc (own := [("one", 4), ("two", 5)]) rfl sc_things_ok.nd (by exact (qi_zip rfl T.n_zip (ql_len (ql_cons (qe_v 0) (ql_cons (qe_slice (QE.bb (qe_v 0)) (qo_some (QE.bb qe_int)) qo_none) ql_nil))))) (by exact blkOk_by (N := ["value", "many", "most", "thing", "one", "two"]) (sc := defScope s_things_ok) (own := [("one", 4), ("two", 5)]) (by decide +kernel)) (fun s H C cl fp hd => by exact (qgy_tup rfl (qgs_cons (qg_name 4 sc_things_ok.nd) (qgs_cons (qg_name 5 sc_things_ok.nd) qgs_nil)))) (fun s H C cl fp hd => by exact qts_nil) (fun s H C cl fp hd => by exact (qe_cmp (opd_le (un_of hr)) (QE.bb (qe_v 4)) (QE.bb (qe_v 5)))))))) qlb_nil))))))),
    fun as R hl h => pure_things_ok as R Ex hl h⟩⟩
/-! ### hall_ok -/
def P_hall_ok : FS := fun as R _ => ∃ d, as = [.val d] ∧ Gt d ∧ R (.bool (isThings 9999 60 d))
def t_hall_ok (Ex : Exc → Prop) : TrS := (qRet (qCall (fun _ => Ex) (cal 3 P_things_ok) (qACons (qV 0) (qACons (qC c_MOST_THINGS) (qACons (qC c_MOST_AGE) qANil)))))
theorem pure_hall_ok (as : List Sl) (R : D → Prop) (Ex : Exc → Prop) (hl : as.length = 1) (h : P_hall_ok as R Ex) : t_hall_ok Ex (fnE R) (startD ["value"] as) := by
  obtain ⟨d, rfl, g, h⟩ := h
  simp [t_hall_ok, qRepL, qRev, qRet, qRetN, qAndV, qOrV, qNotV, qIsi, qV, qVB, qC, qNil, qCons, qANil, qACons, qAPrs, qTup, qLst, qOp, qBl, qChain, qUn, qTr, qAnd, qOr, qNot, qIf, qCa, qSl, qSo, qNo, qMt, qMt0, qCall, cal, qCallK, qNext, qSeq, qExp, qIfS, qAsg, and_assoc, qPar, qOwn, qFrz, qApp, qLstN, qListN, qLenE, qLenL, qLcE, qLcL, noOwn, iSeq, iRg1, iRg2, iZp, iEn, iEnT, qYes, qRaise, qTry, hdX, suB, exIn, qXf, qPOwn, qPWh, qSetOwn, qSetWh, qSetIx, fnE, startD, notDict, lcB, wipeD, qPn, qPc, qDct, qRetF, qCallF, qCallP, qBrk, qCnt, truthyD, lenOk, itemsD, seqD, P_things_ok, c_MOST_THINGS, c_MOST_AGE]
  exact ⟨60, rfl, 9999, rfl, g, h⟩
theorem sc_hall_ok : FnScope ["value"] ["value"] (defScope s_hall_ok) := ⟨rfl, rfl, rfl, by decide +kernel, rfl, by decide +kernel, by decide +kernel⟩
theorem ok_hall_ok {P : Program} {w : World} {K : Fg} {mg : Str → Option Value} {base : Heap} (T : Tx K mg) : HasD P w K mg base PJ "hall_ok" (defArgs s_hall_ok) 5 ["value"] P_hall_ok := by
  obtain ⟨f, fd, hm0, F⟩ := T.d_hall_ok
  exact ⟨f, fd, _, _, hm0, F, fnD_of (N := ["value"]) F sc_hall_ok fun cdv A outer s H E g Ex hr hG hm hP hE tk => ⟨t_hall_ok Ex,
    (qss_one (qs_ret (QE.bb (by exact (qe_callH (ps := ["value", "many", "most"]) hE hP (ok_things_ok T) bd_things_ok (hr.mono (by decide)) hG hm tk rfl (qa_cons (qe_v 0) (qa_cons (qe_glo T.c_MOST_THINGS rfl) (qa_cons (qe_glo T.c_MOST_AGE rfl) qa_nil)))))))),
    fun as R hl h => pure_hall_ok as R Ex hl h⟩⟩
/-! ### bag_ok -/
def P_bag_ok : FS := fun as R _ => ∃ d, as = [.val d] ∧ Gt d ∧ R (.bool (isThings 4 20 d))
def t_bag_ok (Ex : Exc → Prop) : TrS := (qRet (qCall (fun _ => Ex) (cal 3 P_things_ok) (qACons (qV 0) (qACons (qC c_MOST_SORTS) (qACons (qC c_OLD) qANil)))))
theorem pure_bag_ok (as : List Sl) (R : D → Prop) (Ex : Exc → Prop) (hl : as.length = 1) (h : P_bag_ok as R Ex) : t_bag_ok Ex (fnE R) (startD ["value"] as) := by
  obtain ⟨d, rfl, g, h⟩ := h
  simp [t_bag_ok, qRepL, qRev, qRet, qRetN, qAndV, qOrV, qNotV, qIsi, qV, qVB, qC, qNil, qCons, qANil, qACons, qAPrs, qTup, qLst, qOp, qBl, qChain, qUn, qTr, qAnd, qOr, qNot, qIf, qCa, qSl, qSo, qNo, qMt, qMt0, qCall, cal, qCallK, qNext, qSeq, qExp, qIfS, qAsg, and_assoc, qPar, qOwn, qFrz, qApp, qLstN, qListN, qLenE, qLenL, qLcE, qLcL, noOwn, iSeq, iRg1, iRg2, iZp, iEn, iEnT, qYes, qRaise, qTry, hdX, suB, exIn, qXf, qPOwn, qPWh, qSetOwn, qSetWh, qSetIx, fnE, startD, notDict, lcB, wipeD, qPn, qPc, qDct, qRetF, qCallF, qCallP, qBrk, qCnt, truthyD, lenOk, itemsD, seqD, P_things_ok, c_MOST_SORTS, c_OLD]
  exact ⟨20, rfl, 4, rfl, g, h⟩
theorem sc_bag_ok : FnScope ["value"] ["value"] (defScope s_bag_ok) := ⟨rfl, rfl, rfl, by decide +kernel, rfl, by decide +kernel, by decide +kernel⟩
theorem ok_bag_ok {P : Program} {w : World} {K : Fg} {mg : Str → Option Value} {base : Heap} (T : Tx K mg) : HasD P w K mg base PJ "bag_ok" (defArgs s_bag_ok) 5 ["value"] P_bag_ok := by
  obtain ⟨f, fd, hm0, F⟩ := T.d_bag_ok
  exact ⟨f, fd, _, _, hm0, F, fnD_of (N := ["value"]) F sc_bag_ok fun cdv A outer s H E g Ex hr hG hm hP hE tk => ⟨t_bag_ok Ex,
    (qss_one (qs_ret (QE.bb (by exact (qe_callH (ps := ["value", "many", "most"]) hE hP (ok_things_ok T) bd_things_ok (hr.mono (by decide)) hG hm tk rfl (qa_cons (qe_v 0) (qa_cons (qe_glo T.c_MOST_SORTS rfl) (qa_cons (qe_glo T.c_OLD rfl) qa_nil)))))))),
    fun as R hl h => pure_bag_ok as R Ex hl h⟩⟩
/-! ### text_of_thing -/
def P_text_of_thing : FS := fun as R _ => ∃ (t : Th) (m : Nat), as = [.val (sg t.1), .val (.int t.2)] ∧ okT m t ∧ m < 10 ^ 6 ∧ R (stD (txtT t))
def t_text_of_thing (Ex : Exc → Prop) : TrS := (qRet (qIf (qTr (qCall (fun _ => Ex) (cal 1 P_is_aging) (qACons (qV 0) qANil))) (qJn [(qFmt (qV 0)), (qFmt (qV 1))] Str.empty) (qV 0)))
theorem pure_text_of_thing (as : List Sl) (R : D → Prop) (Ex : Exc → Prop) (hl : as.length = 2) (h : P_text_of_thing as R Ex) : t_text_of_thing Ex (fnE R) (startD ["kind", "age"] as) := by
  obtain ⟨t, m, rfl, ho, hm, h⟩ := h
  have hS : 100 ≤ sizeLine := by rw [sizeLine_eq]; decide
  simp [t_text_of_thing, qRepL, qRev, qRet, qRetN, qAndV, qOrV, qNotV, qIsi, qV, qVB, qC, qNil, qCons, qANil, qACons, qAPrs, qTup, qLst, qOp, qBl, qChain, qUn, qTr, qAnd, qOr, qNot, qIf, qCa, qSl, qSo, qNo, qMt, qMt0, qCall, cal, qCallK, qNext, qSeq, qExp, qIfS, qAsg, and_assoc, qPar, qOwn, qFrz, qApp, qLstN, qListN, qLenE, qLenL, qLcE, qLcL, noOwn, iSeq, iRg1, iRg2, iZp, iEn, iEnT, qYes, qRaise, qTry, hdX, suB, exIn, qXf, qPOwn, qPWh, qSetOwn, qSetWh, qSetIx, fnE, startD, notDict, lcB, wipeD, qPn, qPc, qDct, qRetF, qCallF, qCallP, qBrk, qCnt, truthyD, lenOk, itemsD, seqD, P_is_aging, isAging_ag, qJn, qFmt]
  rcases ok_ag ho with ⟨a, b⟩ | ⟨a, b⟩
  · rw [if_pos a]
    have d1 : (dg t.2).length ≤ 6 := dg_len (by decide) (by omega)
    have g1 : t.2.log2 < 1920 := log2_lt (by omega)
    have e : (⟨#[t.1]⟩ : Str) = tx [t.1] := rfl
    rw [txtT_ag a] at h
    have h1S : 1 ≤ sizeLine := by omega
    have h2S : (dg t.2).length + 1 ≤ sizeLine := by omega
    simp [e, g1, h1S, h2S]
    exact h
  · rw [if_neg (by rw [a]; exact Bool.false_ne_true)]
    rw [txtT_sg a] at h
    exact h
theorem sc_text_of_thing : FnScope ["kind", "age"] ["kind", "age"] (defScope s_text_of_thing) := ⟨rfl, rfl, rfl, by decide +kernel, rfl, by decide +kernel, by decide +kernel⟩
theorem ok_text_of_thing {P : Program} {w : World} {K : Fg} {mg : Str → Option Value} {base : Heap} (T : Tx K mg) : HasD P w K mg base PJ "text_of_thing" (defArgs s_text_of_thing) 2 ["kind", "age"] P_text_of_thing := by
  obtain ⟨f, fd, hm0, F⟩ := T.d_text_of_thing
  exact ⟨f, fd, _, _, hm0, F, fnD_of (N := ["kind", "age"]) F sc_text_of_thing fun cdv A outer s H E g Ex hr hG hm hP hE tk => ⟨t_text_of_thing Ex,
    (qss_one (qs_ret (QE.bb (qe_if (qt_of (QE.bb (by exact (qe_callH (ps := ["kind"]) hE hP (ok_is_aging T) bd_is_aging (hr.mono (by decide)) hG hm tk rfl (qa_cons (qe_v 0) qa_nil))))) (qe_joined (.cons (qe_fmt (qe_v 0)) (.cons (qe_fmt (qe_v 1)) .nil))) (qe_v 0))))),
    fun as R hl h => pure_text_of_thing as R Ex hl h⟩⟩
/-! ### text_of_sort -/
def P_text_of_sort : FS := fun as R _ => ∃ (t : Th), as = [.val (sg t.1), .val (.int t.2)] ∧ okT 4 t ∧ R (stD (txtS t))
def t_text_of_sort (Ex : Exc → Prop) : TrS := (qRet (qIf (qAnd (qTr (qCall (fun _ => Ex) (cal 1 P_is_aging) (qACons (qV 0) qANil))) (qBl (qOp oEq (qV 1) (qC c_OLD)))) (qJn [(qFmt (qV 0)), (qFmt (qC c_OLD_TEXT))] Str.empty) (qCall (fun _ => Ex) (cal 2 P_text_of_thing) (qACons (qV 0) (qACons (qV 1) qANil)))))
theorem pure_text_of_sort (as : List Sl) (R : D → Prop) (Ex : Exc → Prop) (hl : as.length = 2) (h : P_text_of_sort as R Ex) : t_text_of_sort Ex (fnE R) (startD ["kind", "age"] as) := by
  obtain ⟨t, rfl, ho, h⟩ := h
  have hS : 100 ≤ sizeLine := by rw [sizeLine_eq]; decide
  have e : (⟨#[t.1]⟩ : Str) = tx [t.1] := rfl
  simp [t_text_of_sort, qRepL, qRev, qRet, qRetN, qAndV, qOrV, qNotV, qIsi, qV, qVB, qC, qNil, qCons, qANil, qACons, qAPrs, qTup, qLst, qOp, qBl, qChain, qUn, qTr, qAnd, qOr, qNot, qIf, qCa, qSl, qSo, qNo, qMt, qMt0, qCall, cal, qCallK, qNext, qSeq, qExp, qIfS, qAsg, and_assoc, qPar, qOwn, qFrz, qApp, qLstN, qListN, qLenE, qLenL, qLcE, qLcL, noOwn, iSeq, iRg1, iRg2, iZp, iEn, iEnT, qYes, qRaise, qTry, hdX, suB, exIn, qXf, qPOwn, qPWh, qSetOwn, qSetWh, qSetIx, fnE, startD, notDict, lcB, wipeD, qPn, qPc, qDct, qRetF, qCallF, qCallP, qBrk, qCnt, truthyD, lenOk, itemsD, seqD, P_is_aging, isAging_ag, qJn, qFmt, c_OLD, c_OLD_TEXT, st_0, st_1, st_2, st_3, st_4, st_5, st_6, st_7, st_8, st_9, st_10, st_11, st_12, st_13, st_14, st_15, st_16, st_17, st_18, st_19, st_20, st_21, st_22, st_23, st_24, st_25, st_26, st_27, st_28, st_29, st_30, st_31, st_32, st_33, st_34, st_35, st_36, st_37, st_38, st_39, st_40, st_41, st_42, st_43, st_44, st_45, st_46, st_47, st_48, st_49, st_50, st_51, st_52, st_53, st_54, st_55]
  have h1S : 1 ≤ sizeLine := by omega
  have h2S : 2 ≤ sizeLine := by omega
  have h3S : 3 ≤ sizeLine := by omega
  by_cases h4 : ag t.1 = true ∧ t.2 = 4
  · rw [if_pos h4.1]
    rw [txtS_4 h4.1 h4.2] at h
    exact .inr ⟨by omega, h1S, h2S, h3S, h⟩
  · rw [txtS_n h4] at h
    have k : P_text_of_thing [.val (sg t.1), .val (.int t.2)] (fun d => notDict d ∧ R d) Ex := ⟨t, 4, rfl, ho, by decide, trivial, h⟩
    by_cases ha : ag t.1 = true
    · rw [if_pos ha]
      exact .inl ⟨fun z => h4 ⟨ha, by omega⟩, k⟩
    · rw [if_neg ha]
      exact k
theorem sc_text_of_sort : FnScope ["kind", "age"] ["kind", "age"] (defScope s_text_of_sort) := ⟨rfl, rfl, rfl, by decide +kernel, rfl, by decide +kernel, by decide +kernel⟩
theorem ok_text_of_sort {P : Program} {w : World} {K : Fg} {mg : Str → Option Value} {base : Heap} (T : Tx K mg) : HasD P w K mg base PJ "text_of_sort" (defArgs s_text_of_sort) 3 ["kind", "age"] P_text_of_sort := by
  obtain ⟨f, fd, hm0, F⟩ := T.d_text_of_sort
  exact ⟨f, fd, _, _, hm0, F, fnD_of (N := ["kind", "age"]) F sc_text_of_sort fun cdv A outer s H E g Ex hr hG hm hP hE tk => ⟨t_text_of_sort Ex,
    (qss_one (qs_ret (QE.bb (qe_if (qt_w (qw_and (qt_of (QE.bb (by exact (qe_callH (ps := ["kind"]) hE hP (ok_is_aging T) bd_is_aging (hr.mono (by decide)) hG hm tk rfl (qa_cons (qe_v 0) qa_nil))))) (qw_and1 (qt_cmp (opd_eq (un_of hr)) (QE.bb (qe_v 1)) (QE.bb (qe_glo T.c_OLD rfl)))))) (qe_joined (.cons (qe_fmt (qe_v 0)) (.cons (qe_fmt (qe_glo T.c_OLD_TEXT rfl)) .nil))) (by exact (qe_callH (ps := ["kind", "age"]) hE hP (ok_text_of_thing T) bd_text_of_thing (hr.mono (by decide)) hG hm tk rfl (qa_cons (qe_v 0) (qa_cons (qe_v 1) qa_nil)))))))),
    fun as R hl h => pure_text_of_sort as R Ex hl h⟩⟩
/-! ### joined_texts -/
def P_joined_texts : FS := fun as R _ => ∃ ws : List (List Nat), as = [.val (.list (ws.map stD))] ∧ ws.length ≤ 100 ∧ (∀ w ∈ ws, w.length ≤ 1000) ∧ R (stD (if ws = [] then [45] else joinL 32 ws))
def t_joined_texts (Ex : Exc → Prop) : TrS := (qRet (qIf (qBl (qOp oGt (qCa cLen (qCons (qV 0) qNil)) (qC (.int 0)))) (qMt "str" m_join (qC c_BLANK) (qCons (qV 0) qNil)) (qC c_NOTHING)))
theorem join32_of {ws : List (List Nat)} {R : D → Prop} (h1 : ws.length ≤ 1000) (h2 : ∀ w ∈ ws, w.length ≤ 1000) (r : R (stD (joinL 32 ws))) (e : D) (he : e = .list (ws.map stD) ∨ e = .tuple (ws.map stD)) : m_join (.str (tx [32])) [e] R := by
  refine ⟨tx [32], e, ws.map tx, rfl, rfl, ?_, ?_, ?_⟩
  · rcases he with rfl | rfl <;> simp [itemsD]
  · have := sum_le (B := 1000) (ns := (ws.map tx).map (·.length)) (by simpa using h2)
    simp at this ⊢
    omega
  · rw [show Txt.join (tx [32]) (ws.map tx) = Str.join (tx [32]) (ws.map tx) from StrLaws.glued_eq_join _ _]
    rw [str_join]; exact r
theorem pure_joined_texts (as : List Sl) (R : D → Prop) (Ex : Exc → Prop) (hl : as.length = 1) (h : P_joined_texts as R Ex) : t_joined_texts Ex (fnE R) (startD ["texts"] as) := by
  obtain ⟨ws, rfl, hn, hw, h⟩ := h
  simp [t_joined_texts, qRepL, qRev, qRet, qRetN, qAndV, qOrV, qNotV, qIsi, qV, qVB, qC, qNil, qCons, qANil, qACons, qAPrs, qTup, qLst, qOp, qBl, qChain, qUn, qTr, qAnd, qOr, qNot, qIf, qCa, qSl, qSo, qNo, qMt, qMt0, qCall, cal, qCallK, qNext, qSeq, qExp, qIfS, qAsg, and_assoc, qPar, qOwn, qFrz, qApp, qLstN, qListN, qLenE, qLenL, qLcE, qLcL, noOwn, iSeq, iRg1, iRg2, iZp, iEn, iEnT, qYes, qRaise, qTry, hdX, suB, exIn, qXf, qPOwn, qPWh, qSetOwn, qSetWh, qSetIx, fnE, startD, notDict, lcB, wipeD, qPn, qPc, qDct, qRetF, qCallF, qCallP, qBrk, qCnt, truthyD, lenOk, itemsD, seqD, c_BLANK, c_NOTHING, st_0, st_1, st_2, st_3, st_4, st_5, st_6, st_7, st_8, st_9, st_10, st_11, st_12, st_13, st_14, st_15, st_16, st_17, st_18, st_19, st_20, st_21, st_22, st_23, st_24, st_25, st_26, st_27, st_28, st_29, st_30, st_31, st_32, st_33, st_34, st_35, st_36, st_37, st_38, st_39, st_40, st_41, st_42, st_43, st_44, st_45, st_46, st_47, st_48, st_49, st_50, st_51, st_52, st_53, st_54, st_55, tyD]
  by_cases hz : ws = []
  · subst hz
    simp at h ⊢
    exact h
  · rw [if_neg hz] at h
    have : 0 < ws.length := List.length_pos_iff.mpr hz
    exact .inr ⟨by omega, join32_of (by omega) hw ⟨trivial, h⟩ _ (.inl rfl)⟩
theorem sc_joined_texts : FnScope ["texts"] ["texts"] (defScope s_joined_texts) := ⟨rfl, rfl, rfl, by decide +kernel, rfl, by decide +kernel, by decide +kernel⟩
theorem ok_joined_texts {P : Program} {w : World} {K : Fg} {mg : Str → Option Value} {base : Heap} (T : Tx K mg) : HasD P w K mg base PJ "joined_texts" (defArgs s_joined_texts) 1 ["texts"] P_joined_texts := by
  obtain ⟨f, fd, hm0, F⟩ := T.d_joined_texts
  exact ⟨f, fd, _, _, hm0, F, fnD_of (N := ["texts"]) F sc_joined_texts fun cdv A outer s H E g Ex hr hG hm hP hE tk => ⟨t_joined_texts Ex,
    (qss_one (qs_ret (QE.bb (qe_if (qt_cmp (opd_gt (un_of hr)) (QE.bb (by exact (qe_callB cad_len rfl T.n_len boot_len (qlb_cons (QE.bb (qe_v 0)) qlb_nil)))) (QE.bb qe_int)) (by exact (qe_bm mtd_join (QE.bb (qe_glo T.c_BLANK rfl)) (qlb_cons (QE.bb (qe_v 0)) qlb_nil) PySem.F.plainAttrs_str PySem.F.slot_str_join PySem.F.type_str_join)) (qe_glo T.c_NOTHING rfl))))),
    fun as R hl h => pure_joined_texts as R Ex hl h⟩⟩
/-! ### text_of_bag -/
def P_text_of_bag : FS := fun as R _ => ∃ ts, as = [.val (hallD ts)] ∧ Hall 4 20 ts ∧ R (stD (hallTx txtS ts))
def t_text_of_bag (Ex : Exc → Prop) : TrS := (qRet (qCall (fun _ => Ex) (cal 1 P_joined_texts) (qACons (qLcE (qLcL [1, 2] (iSeq (qLenE (qV 0))) (gTp 2 (gNc (gNm 1) (gNc (gNm 2) gN0))) qYes (qCall E0 (cal 2 P_text_of_sort) (qACons (qV 1) (qACons (qV 2) qANil))))) qANil)))
theorem pure_text_of_bag (as : List Sl) (R : D → Prop) (Ex : Exc → Prop) (hl : as.length = 1) (h : P_text_of_bag as R Ex) : t_text_of_bag Ex (fnE R) (startD ["bag", "kind", "age"] as) := by
  obtain ⟨ts, rfl, hh, h⟩ := h
  simp [t_text_of_bag, qRepL, qRev, qRet, qRetN, qAndV, qOrV, qNotV, qIsi, qV, qVB, qC, qNil, qCons, qANil, qACons, qAPrs, qTup, qLst, qOp, qBl, qChain, qUn, qTr, qAnd, qOr, qNot, qIf, qCa, qSl, qSo, qNo, qMt, qMt0, qCall, cal, qCallK, qNext, qSeq, qExp, qIfS, qAsg, and_assoc, qPar, qOwn, qFrz, qApp, qLstN, qListN, qLenE, qLenL, qLcE, qLcL, noOwn, iSeq, iRg1, iRg2, iZp, iEn, iEnT, qYes, qRaise, qTry, hdX, suB, exIn, qXf, qPOwn, qPWh, qSetOwn, qSetWh, qSetIx, fnE, startD, notDict, lcB, wipeD, qPn, qPc, qDct, qRetF, qCallF, qCallP, qBrk, qCnt, truthyD, lenOk, itemsD, seqD, P_joined_texts, hallD]
  have hlen := hh.len
  refine fun hz => ⟨hz, lcD_map thD (fun t => stD (txtS t)) rfl (fun t ht k hk => ?_) ?_⟩
  · simp [qRepL, qRev, qRet, qRetN, qAndV, qOrV, qNotV, qIsi, qV, qVB, qC, qNil, qCons, qANil, qACons, qAPrs, qTup, qLst, qOp, qBl, qChain, qUn, qTr, qAnd, qOr, qNot, qIf, qCa, qSl, qSo, qNo, qMt, qMt0, qCall, cal, qCallK, qNext, qSeq, qExp, qIfS, qAsg, and_assoc, qPar, qOwn, qFrz, qApp, qLstN, qListN, qLenE, qLenL, qLcE, qLcL, noOwn, iSeq, iRg1, iRg2, iZp, iEn, iEnT, qYes, qRaise, qTry, hdX, suB, exIn, qXf, qPOwn, qPWh, qSetOwn, qSetWh, qSetIx, fnE, startD, notDict, lcB, wipeD, qPn, qPc, qDct, qRetF, qCallF, qCallP, qBrk, qCnt, truthyD, lenOk, itemsD, seqD, thD]
    exact ⟨t, rfl, hh.ok t ht, hk⟩
  · refine ⟨ts.map txtS, by simp, by simp; omega, fun w hw => ?_, ?_⟩
    · obtain ⟨t, ht, rfl⟩ := List.mem_map.mp hw
      obtain ⟨r, e, _, hl, _⟩ := wrS.hd t (hh.ok t ht)
      rw [e]; simp; omega
    · unfold hallTx at h
      simpa using h
theorem sc_text_of_bag : FnScope ["bag", "kind", "age"] ["bag"] (defScope s_text_of_bag) := ⟨rfl, rfl, rfl, by decide +kernel, rfl, by decide +kernel, by decide +kernel⟩
theorem ok_text_of_bag {P : Program} {w : World} {K : Fg} {mg : Str → Option Value} {base : Heap} (T : Tx K mg) : HasD P w K mg base PJ "text_of_bag" (defArgs s_text_of_bag) 4 ["bag"] P_text_of_bag := by
  obtain ⟨f, fd, hm0, F⟩ := T.d_text_of_bag
  exact ⟨f, fd, _, _, hm0, F, fnD_of (N := ["bag", "kind", "age"]) F sc_text_of_bag fun cdv A outer s H E g Ex hr hG hm hP hE tk => ⟨t_text_of_bag Ex,
    (qss_one (qs_ret (QE.bb (by exact (qe_callH (ps := ["texts"]) hE hP (ok_joined_texts T) bd_joined_texts (hr.mono (by decide)) hG hm tk rfl (qa_cons (by exact (QN.qe (qn_lc (own := [("kind", 1), ("age", 2)]) rfl sc_text_of_bag.nd (by exact (QI.y (qi_seq (qe_len (qe_v 0))))) (by exact blkOk_by (N := ["bag", "kind", "age"]) (sc := defScope s_text_of_bag) (own := [("kind", 1), ("age", 2)]) (by decide +kernel)) (fun s H C cl fp hd => by exact (qgy_tup rfl (qgs_cons (qg_name 1 sc_text_of_bag.nd) (qgs_cons (qg_name 2 sc_text_of_bag.nd) qgs_nil)))) (fun s H C cl fp hd => by exact qts_nil) (fun s H C cl fp hd => by exact (by exact (qe_callH (ps := ["kind", "age"]) rfl hP (ok_text_of_sort T) bd_text_of_sort (hr.mono (by decide)) hG hm (takesE0 rfl) rfl (qa_cons (qe_v 1) (qa_cons (qe_v 2) qa_nil)))))))) qa_nil)))))),
    fun as R hl h => pure_text_of_bag as R Ex hl h⟩⟩
/-! ### thing_from -/
def P_thing_from : FS := fun as R _ => ∃ (l : List Nat) (m : Nat), as = [.val (stD l), .val (.int m)] ∧ l.length ≤ 100000 ∧ m < 10 ^ 6 ∧ (∀ t, okT m t → l = txtT t → R (thD t)) ∧ ((∀ t, okT m t → l ≠ txtT t) → R .none)
def t_thing_from (Ex : Exc → Prop) : TrS := (qSeq (qPar 2 3 (qCons (qSl (qV 0) qNo (qSo (qC (.int 1)))) (qCons (qSl (qV 0) (qSo (qC (.int 1))) qNo) qNil)))
    (qSeq (qIfS (qNot (qTr (qCall (fun _ => Ex) (cal 1 P_kind_ok) (qACons (qV 2) qANil)))) (qRet (qC .none)) qNext)
    (qSeq (qIfS (qNot (qTr (qCall (fun _ => Ex) (cal 1 P_is_aging) (qACons (qV 2) qANil)))) (qRet (qIf (qBl (qOp oEq (qV 3) (qC (.str "")))) (qTup (qCons (qV 2) (qCons (qC c_YOUNG) qNil))) (qC .none))) qNext)
    (qSeq (qAsg (qCall (fun _ => Ex) (cal 3 P_plain_number) (qACons (qV 3) (qACons (qC (.int 0)) (qACons (qV 1) qANil)))) (gNm 4))
    (qRet (qIf (qBl (qOp oIsNotN (qV 4) (qC .none))) (qTup (qCons (qV 2) (qCons (qV 4) qNil))) (qC .none)))))))
theorem pure_thing_from (as : List Sl) (R : D → Prop) (Ex : Exc → Prop) (hl : as.length = 2) (h : P_thing_from as R Ex) : t_thing_from Ex (fnE R) (startD ["text", "most", "kind", "figures", "age"] as) := by
  obtain ⟨l, m, rfl, hz, hm, h1, h2⟩ := h
  have hS : l.length ≤ sizeLine := by rw [sizeLine_eq]; omega
  have hS2 : 2 ≤ sizeLine := by rw [sizeLine_eq]; decide
  have ht1 : oSl (stD l) none (some 1) = fun R => (l.length ≤ sizeLine ∧ R (stD (l.take 1))) := by funext R; exact propext (oSl_to l 1 R)
  have hd1 : oSl (stD l) (some 1) none = fun R => (l.length ≤ sizeLine ∧ R (stD (l.drop 1))) := by funext R; exact propext (oSl_from l 1 R)
  simp [t_thing_from, qRepL, qRev, qRet, qRetN, qAndV, qOrV, qNotV, qIsi, qV, qVB, qC, qNil, qCons, qANil, qACons, qAPrs, qTup, qLst, qOp, qBl, qChain, qUn, qTr, qAnd, qOr, qNot, qIf, qCa, qSl, qSo, qNo, qMt, qMt0, qCall, cal, qCallK, qNext, qSeq, qExp, qIfS, qAsg, and_assoc, qPar, qOwn, qFrz, qApp, qLstN, qListN, qLenE, qLenL, qLcE, qLcL, noOwn, iSeq, iRg1, iRg2, iZp, iEn, iEnT, qYes, qRaise, qTry, hdX, suB, exIn, qXf, qPOwn, qPWh, qSetOwn, qSetWh, qSetIx, fnE, startD, notDict, lcB, wipeD, qPn, qPc, qDct, qRetF, qCallF, qCallP, qBrk, qCnt, truthyD, lenOk, itemsD, seqD, ht1, hd1, hS, P_kind_ok, P_is_aging, c_YOUNG, st_0, st_1, st_2, st_3, st_4, st_5, st_6, st_7, st_8, st_9, st_10, st_11, st_12, st_13, st_14, st_15, st_16, st_17, st_18, st_19, st_20, st_21, st_22, st_23, st_24, st_25, st_26, st_27, st_28, st_29, st_30, st_31, st_32, st_33, st_34, st_35, st_36, st_37, st_38, st_39, st_40, st_41, st_42, st_43, st_44, st_45, st_46, st_47, st_48, st_49, st_50, st_51, st_52, st_53, st_54, st_55, oEq_st]
  refine ⟨gd_st (by simp; omega), ?_⟩
  cases l with
  | nil =>
    have e : isKind (stD []) = false := by decide
    simp [e]
    refine h2 fun t ht e => ?_
    obtain ⟨r, e2, _⟩ := (wrT hm).hd t ht
    rw [e2] at e; cases e
  | cons c r =>
    have ek : isKind (PyData.str (tx [c])) = knd c := isKind_of c
    have ea : isAging (PyData.str (tx [c])) = ag c := isAging_ag c
    have hz' : r.length ≤ 100000 := by simp at hz; omega
    rcases bool_cases (knd c) with hk | hk
    · rcases bool_cases (ag c) with ha | ha
      · simp [ek, ea, hk, ha]
        refine ⟨r, m, rfl, by omega, by omega, fun n e hn => ?_, fun hn => ?_⟩
        · have := h1 (c, n) (.inl ⟨by unfold ag at ha; simpa using ha, hn⟩) (by rw [txtT_ag (t := (c, n)) ha, e])
          simp [oIsNotN, isN, hS2]
          exact this
        · simp [oIsNotN, isN]
          refine h2 fun t ht e => ?_
          rcases ok_ag ht with ⟨a, b⟩ | ⟨a, b⟩
          · rw [txtT_ag a] at e
            injection e with e1 e2
            exact hn _ b e2
          · rw [txtT_sg a] at e
            injection e with e1 e2
            rw [e1, a] at ha; cases ha
      · simp [ek, ea, hk, ha]
        have hc : c ∈ [120, 121, 122] := by
          unfold knd at hk; unfold ag at ha
          simp at hk ha ⊢; omega
        by_cases hr : r = []
        · subst hr
          exact .inr ⟨rfl, hS2, h1 (c, 0) (.inr ⟨hc, rfl⟩) (txtT_sg (t := (c, 0)) ha).symm⟩
        · refine .inl ⟨hr, h2 fun t ht e => ?_⟩
          rcases ok_ag ht with ⟨a, b⟩ | ⟨a, b⟩
          · rw [txtT_ag a] at e
            injection e with e1 e2
            rw [e1, a] at ha; cases ha
          · rw [txtT_sg a] at e
            injection e with e1 e2
            exact hr e2
    · simp [ek, ea, hk]
      refine h2 fun t ht e => ?_
      obtain ⟨r2, e2, _⟩ := (wrT hm).hd t ht
      rw [e2] at e
      injection e with e1 _
      rw [e1, knd_ok ht] at hk; cases hk
theorem sc_thing_from : FnScope ["text", "most", "kind", "figures", "age"] ["text", "most"] (defScope s_thing_from) := ⟨rfl, rfl, rfl, by decide +kernel, rfl, by decide +kernel, by decide +kernel⟩
theorem ok_thing_from {P : Program} {w : World} {K : Fg} {mg : Str → Option Value} {base : Heap} (T : Tx K mg) : HasD P w K mg base PJ "thing_from" (defArgs s_thing_from) 4 ["text", "most"] P_thing_from := by
  obtain ⟨f, fd, hm0, F⟩ := T.d_thing_from
  exact ⟨f, fd, _, _, hm0, F, fnD_of (N := ["text", "most", "kind", "figures", "age"]) F sc_thing_from fun cdv A outer s H E g Ex hr hG hm hP hE tk => ⟨t_thing_from Ex,
    (qss_cons (qs_par 2 3 rfl sc_thing_from.nd (ql_cons (qe_slice (QE.bb (qe_v 0)) qo_none (qo_some (QE.bb qe_int))) (ql_cons (qe_slice (QE.bb (qe_v 0)) (qo_some (QE.bb qe_int)) qo_none) ql_nil)) rfl)
    (qss_cons (qs_if (qt_not (qt_of (QE.bb (by exact (qe_callH (ps := ["value"]) hE hP (ok_kind_ok T) bd_kind_ok (hr.mono (by decide)) hG hm tk rfl (qa_cons (qe_v 2) qa_nil)))))) (qss_one (qs_ret (QE.bb qe_non))) qss_nil)
    (qss_cons (qs_if (qt_not (qt_of (QE.bb (by exact (qe_callH (ps := ["kind"]) hE hP (ok_is_aging T) bd_is_aging (hr.mono (by decide)) hG hm tk rfl (qa_cons (qe_v 2) qa_nil)))))) (qss_one (qs_ret (QE.bb (qe_if (qt_cmp (opd_eq (un_of hr)) (QE.bb (qe_v 3)) (QE.bb qe_str)) (qe_tup (ql_cons (qe_v 2) (ql_cons (qe_glo T.c_YOUNG rfl) ql_nil))) qe_non)))) qss_nil)
    (qss_cons (qs_set 4 (by exact (qe_callH (ps := ["text", "low", "high"]) hE hP (ok_plain_number T) bd_plain_number (hr.mono (by decide)) hG hm tk rfl (qa_cons (qe_v 3) (qa_cons qe_int (qa_cons (qe_v 1) qa_nil))))) sc_thing_from.nd)
    (qss_one (qs_ret (QE.bb (qe_if (qt_cmp opd_isnotN (QE.bb (qe_v 4)) (QE.bb qe_non)) (qe_tup (ql_cons (qe_v 2) (ql_cons (qe_v 4) ql_nil))) qe_non)))))))),
    fun as R hl h => pure_thing_from as R Ex hl h⟩⟩
/-! ### sort_from -/
def P_sort_from : FS := fun as R _ => ∃ (l : List Nat), as = [.val (stD l)] ∧ l.length ≤ 100000 ∧ (∀ t, okT 4 t → l = txtS t → R (thD t)) ∧ ((∀ t, okT 4 t → l ≠ txtS t) → R .none)
def t_sort_from (Ex : Exc → Prop) : TrS := (qSeq (qPar 1 2 (qCons (qSl (qV 0) qNo (qSo (qC (.int 1)))) (qCons (qSl (qV 0) (qSo (qC (.int 1))) qNo) qNil)))
    (qSeq (qIfS (qBl (qOp oEq (qV 2) (qC c_OLD_TEXT))) (qRet (qIf (qAnd (qTr (qCall (fun _ => Ex) (cal 1 P_kind_ok) (qACons (qV 1) qANil))) (qTr (qCall (fun _ => Ex) (cal 1 P_is_aging) (qACons (qV 1) qANil)))) (qTup (qCons (qV 1) (qCons (qC c_OLD) qNil))) (qC .none))) qNext)
    (qRet (qCall (fun _ => Ex) (cal 2 P_thing_from) (qACons (qV 0) (qACons (qOp (oInt fun i j => i - j) (qC c_OLD) (qC (.int 1))) qANil))))))
theorem pure_sort_from (as : List Sl) (R : D → Prop) (Ex : Exc → Prop) (hl : as.length = 1) (h : P_sort_from as R Ex) : t_sort_from Ex (fnE R) (startD ["text", "kind", "behind"] as) := by
  obtain ⟨l, rfl, hz, h1, h2⟩ := h
  have hS : l.length ≤ sizeLine := by rw [sizeLine_eq]; omega
  have hS2 : 2 ≤ sizeLine := by rw [sizeLine_eq]; decide
  have ht1 : oSl (stD l) none (some 1) = fun R => (l.length ≤ sizeLine ∧ R (stD (l.take 1))) := by funext R; exact propext (oSl_to l 1 R)
  have hd1 : oSl (stD l) (some 1) none = fun R => (l.length ≤ sizeLine ∧ R (stD (l.drop 1))) := by funext R; exact propext (oSl_from l 1 R)
  simp [t_sort_from, qRepL, qRev, qRet, qRetN, qAndV, qOrV, qNotV, qIsi, qV, qVB, qC, qNil, qCons, qANil, qACons, qAPrs, qTup, qLst, qOp, qBl, qChain, qUn, qTr, qAnd, qOr, qNot, qIf, qCa, qSl, qSo, qNo, qMt, qMt0, qCall, cal, qCallK, qNext, qSeq, qExp, qIfS, qAsg, and_assoc, qPar, qOwn, qFrz, qApp, qLstN, qListN, qLenE, qLenL, qLcE, qLcL, noOwn, iSeq, iRg1, iRg2, iZp, iEn, iEnT, qYes, qRaise, qTry, hdX, suB, exIn, qXf, qPOwn, qPWh, qSetOwn, qSetWh, qSetIx, fnE, startD, notDict, lcB, wipeD, qPn, qPc, qDct, qRetF, qCallF, qCallP, qBrk, qCnt, truthyD, lenOk, itemsD, seqD, ht1, hd1, hS, P_kind_ok, P_is_aging, c_OLD, c_OLD_TEXT, st_0, st_1, st_2, st_3, st_4, st_5, st_6, st_7, st_8, st_9, st_10, st_11, st_12, st_13, st_14, st_15, st_16, st_17, st_18, st_19, st_20, st_21, st_22, st_23, st_24, st_25, st_26, st_27, st_28, st_29, st_30, st_31, st_32, st_33, st_34, st_35, st_36, st_37, st_38, st_39, st_40, st_41, st_42, st_43, st_44, st_45, st_46, st_47, st_48, st_49, st_50, st_51, st_52, st_53, st_54, st_55, oEq_st]
  by_cases hp : l.tail = [52, 43]
  · refine .inr ⟨hp, gd_st (by simp; omega), ?_⟩
    obtain ⟨c, rfl⟩ : ∃ c, l = [c, 52, 43] := by
      cases l with
      | nil => simp at hp
      | cons c r => simp at hp; exact ⟨c, by rw [hp]⟩
    have ek : isKind (PyData.str (tx [c])) = knd c := isKind_of c
    have ea : isAging (PyData.str (tx [c])) = ag c := isAging_ag c
    have no : ¬ (knd c = true ∧ ag c = true) → ∀ t, okT 4 t → [c, 52, 43] ≠ txtS t := fun hn t ht e => by
      obtain ⟨r2, e2, _⟩ := wrS.hd t ht
      by_cases h4 : ag t.1 = true ∧ t.2 = 4
      · rw [txtS_4 h4.1 h4.2] at e
        injection e with e1 _
        exact hn (by rw [e1]; exact ⟨knd_ok ht, h4.1⟩)
      · rw [txtS_n h4] at e
        rcases ok_ag ht with ⟨a, b⟩ | ⟨a, b⟩
        · rw [txtT_ag a] at e; injection e with e1 e2; exact plus_dg _ e2.symm
        · rw [txtT_sg a] at e; injection e with e1 e2; cases e2
    rcases bool_cases (knd c) with hk | hk
    · rcases bool_cases (ag c) with ha | ha
      · simp [ek, ea, hk, ha, hS2]
        exact h1 (c, 4) (.inl ⟨by unfold ag at ha; simpa using ha, Nat.le_refl 4⟩) (txtS_4 (t := (c, 4)) ha rfl).symm
      · simp [ek, ea, hk, ha]
        exact h2 (no fun z => by rw [ha] at z; cases z.2)
    · simp [ek, ea, hk]
      exact h2 (no fun z => by rw [hk] at z; cases z.1)
  · refine .inl ⟨hp, l, 3, rfl, hz, by decide, fun t ht e => ?_, fun hn => ?_⟩
    · have h4 : ¬ (ag t.1 = true ∧ t.2 = 4) := fun z => by
        rcases ht with ⟨_, q⟩ | ⟨_, q⟩ <;> omega
      exact ⟨trivial, h1 t (okT_mono (by decide) ht) (by rw [txtS_n h4]; exact e)⟩
    · refine ⟨trivial, h2 fun t ht e => ?_⟩
      by_cases h4 : ag t.1 = true ∧ t.2 = 4
      · rw [txtS_4 h4.1 h4.2] at e
        exact hp (by rw [e]; rfl)
      · rw [txtS_n h4] at e
        refine hn t ?_ e
        rcases ht with ⟨q1, q2⟩ | q
        · refine .inl ⟨q1, ?_⟩
          have : t.2 ≠ 4 := fun z => h4 ⟨ag_yes q1, z⟩
          omega
        · exact .inr q
theorem sc_sort_from : FnScope ["text", "kind", "behind"] ["text"] (defScope s_sort_from) := ⟨rfl, rfl, rfl, by decide +kernel, rfl, by decide +kernel, by decide +kernel⟩
theorem ok_sort_from {P : Program} {w : World} {K : Fg} {mg : Str → Option Value} {base : Heap} (T : Tx K mg) : HasD P w K mg base PJ "sort_from" (defArgs s_sort_from) 5 ["text"] P_sort_from := by
  obtain ⟨f, fd, hm0, F⟩ := T.d_sort_from
  exact ⟨f, fd, _, _, hm0, F, fnD_of (N := ["text", "kind", "behind"]) F sc_sort_from fun cdv A outer s H E g Ex hr hG hm hP hE tk => ⟨t_sort_from Ex,
    (qss_cons (qs_par 1 2 rfl sc_sort_from.nd (ql_cons (qe_slice (QE.bb (qe_v 0)) qo_none (qo_some (QE.bb qe_int))) (ql_cons (qe_slice (QE.bb (qe_v 0)) (qo_some (QE.bb qe_int)) qo_none) ql_nil)) rfl)
    (qss_cons (qs_if (qt_cmp (opd_eq (un_of hr)) (QE.bb (qe_v 2)) (QE.bb (qe_glo T.c_OLD_TEXT rfl))) (qss_one (qs_ret (QE.bb (qe_if (qt_w (qw_and (qt_of (QE.bb (by exact (qe_callH (ps := ["value"]) hE hP (ok_kind_ok T) bd_kind_ok (hr.mono (by decide)) hG hm tk rfl (qa_cons (qe_v 1) qa_nil))))) (qw_and1 (qt_of (QE.bb (by exact (qe_callH (ps := ["kind"]) hE hP (ok_is_aging T) bd_is_aging (hr.mono (by decide)) hG hm tk rfl (qa_cons (qe_v 1) qa_nil)))))))) (qe_tup (ql_cons (qe_v 1) (ql_cons (qe_glo T.c_OLD rfl) ql_nil))) qe_non)))) qss_nil)
    (qss_one (qs_ret (QE.bb (by exact (qe_callH (ps := ["text", "most"]) hE hP (ok_thing_from T) bd_thing_from (hr.mono (by decide)) hG hm tk rfl (qa_cons (qe_v 0) (qa_cons (qe_op opd_sub (QE.bb (qe_glo T.c_OLD rfl)) (QE.bb qe_int)) qa_nil))))))))),
    fun as R hl h => pure_sort_from as R Ex hl h⟩⟩
/-! ### bag_from -/
def P_bag_from : FS := fun as R _ => ∃ (l : List Nat), as = [.val (stD l)] ∧ l.length ≤ 100000 ∧ (∀ ts, Hall 4 20 ts → l = hallTx txtS ts → R (hallD ts)) ∧ ((∀ ts, Hall 4 20 ts → l ≠ hallTx txtS ts) → R .none)
def t_bag_from (Ex : Exc → Prop) : TrS := (qSeq (qAsg (qIf (qBl (qOp oNe (qV 0) (qC c_NOTHING))) (qCa cTup (qCons (qLcE (qLcL [2] (iSeq (qLenE (qMt "str" m_split (qV 0) (qCons (qC c_BLANK) qNil)))) (gNm 2) qYes (qCall E0 (cal 1 P_sort_from) (qACons (qV 2) qANil)))) qNil)) (qTup qNil)) (gNm 1))
    (qRet (qIf (qAnd (qBl (qOp oNotIn (qC .none) (qV 1))) (qTr (qCall (fun _ => Ex) (cal 1 P_bag_ok) (qACons (qV 1) qANil)))) (qV 1) (qC .none))))
theorem pure_bag_from (as : List Sl) (R : D → Prop) (Ex : Exc → Prop) (hl : as.length = 1) (h : P_bag_from as R Ex) : t_bag_from Ex (fnE R) (startD ["text", "part", "found"] as) := by
  obtain ⟨l, rfl, hz, h1, h2⟩ := h
  have hS : 1000000 ≤ sizeLine := by rw [sizeLine_eq]; decide
  have hz1 : l.length + 2 ≤ sizeLine := by omega
  have h0S : 0 ≤ sizeLine := by omega
  unfold t_bag_from
  refine asg_of (fun d => (l = [45] ∧ d = .tuple []) ∨ (l ≠ [45] ∧ d = .tuple ((splitL 32 l).map fun w => (wrd 4 txtS w).elim .none thD))) (fun K hK => ?_) ?_
  · simp [qRepL, qRev, qRet, qRetN, qAndV, qOrV, qNotV, qIsi, qV, qVB, qC, qNil, qCons, qANil, qACons, qAPrs, qTup, qLst, qOp, qBl, qChain, qUn, qTr, qAnd, qOr, qNot, qIf, qCa, qSl, qSo, qNo, qMt, qMt0, qCall, cal, qCallK, qNext, qSeq, qExp, qIfS, qAsg, and_assoc, qPar, qOwn, qFrz, qApp, qLstN, qListN, qLenE, qLenL, qLcE, qLcL, noOwn, iSeq, iRg1, iRg2, iZp, iEn, iEnT, qYes, qRaise, qTry, hdX, suB, exIn, qXf, qPOwn, qPWh, qSetOwn, qSetWh, qSetIx, fnE, startD, notDict, lcB, wipeD, qPn, qPc, qDct, qRetF, qCallF, qCallP, qBrk, qCnt, truthyD, lenOk, itemsD, seqD, c_BLANK, c_NOTHING, st_0, st_1, st_2, st_3, st_4, st_5, st_6, st_7, st_8, st_9, st_10, st_11, st_12, st_13, st_14, st_15, st_16, st_17, st_18, st_19, st_20, st_21, st_22, st_23, st_24, st_25, st_26, st_27, st_28, st_29, st_30, st_31, st_32, st_33, st_34, st_35, st_36, st_37, st_38, st_39, st_40, st_41, st_42, st_43, st_44, st_45, st_46, st_47, st_48, st_49, st_50, st_51, st_52, st_53, st_54, st_55, oNe_st, tyD, m_split, hz1, split_eq, P_sort_from]
    by_cases h45 : l = [45]
    · exact .inl ⟨h45, hK _ (.inl ⟨h45, rfl⟩)⟩
    · refine .inr ⟨h45, fun hq => ⟨hq, ?_⟩⟩
      refine lcD_map stD (fun w => (wrd 4 txtS w).elim .none thD) (ts := splitL 32 l) rfl (fun w hw k hk => ?_) ?_
      · refine lcB_of ?_
        have hwl : w.length ≤ 100000 := by
          have h9 := join_len (c := 32) hw
          rw [join_splitL] at h9
          omega
        simp [qRepL, qRev, qRet, qRetN, qAndV, qOrV, qNotV, qIsi, qV, qVB, qC, qNil, qCons, qANil, qACons, qAPrs, qTup, qLst, qOp, qBl, qChain, qUn, qTr, qAnd, qOr, qNot, qIf, qCa, qSl, qSo, qNo, qMt, qMt0, qCall, cal, qCallK, qNext, qSeq, qExp, qIfS, qAsg, and_assoc, qPar, qOwn, qFrz, qApp, qLstN, qListN, qLenE, qLenL, qLcE, qLcL, noOwn, iSeq, iRg1, iRg2, iZp, iEn, iEnT, qYes, qRaise, qTry, hdX, suB, exIn, qXf, qPOwn, qPWh, qSetOwn, qSetWh, qSetIx, fnE, startD, notDict, lcB, wipeD, qPn, qPc, qDct, qRetF, qCallF, qCallP, qBrk, qCnt, truthyD, lenOk, itemsD, seqD]
        refine ⟨w, rfl, hwl, fun t ht e => ?_, fun hn => ?_⟩
        · rw [wrd_some wrS ht e] at hk; exact hk
        · rw [wrd_none hn] at hk; exact hk
      · exact hK _ (.inr ⟨h45, rfl⟩)
  rintro _ (⟨h45, rfl⟩ | ⟨h45, rfl⟩)
  · have ok0 : isThings 4 20 (.tuple []) = true := by decide
    have hh : Hall 4 20 [] := ⟨by simp, by simp, by simp⟩
    simp [qRepL, qRev, qRet, qRetN, qAndV, qOrV, qNotV, qIsi, qV, qVB, qC, qNil, qCons, qANil, qACons, qAPrs, qTup, qLst, qOp, qBl, qChain, qUn, qTr, qAnd, qOr, qNot, qIf, qCa, qSl, qSo, qNo, qMt, qMt0, qCall, cal, qCallK, qNext, qSeq, qExp, qIfS, qAsg, and_assoc, qPar, qOwn, qFrz, qApp, qLstN, qListN, qLenE, qLenL, qLcE, qLcL, noOwn, iSeq, iRg1, iRg2, iZp, iEn, iEnT, qYes, qRaise, qTry, hdX, suB, exIn, qXf, qPOwn, qPWh, qSetOwn, qSetWh, qSetIx, fnE, startD, notDict, lcB, wipeD, qPn, qPc, qDct, qRetF, qCallF, qCallP, qBrk, qCnt, truthyD, lenOk, itemsD, seqD, oNotIn, P_bag_ok, ok0, PyData.plainAll, PyData.plain, PyData.depth]
    exact ⟨(Gd.t ⟨rfl, by decide⟩), h1 [] hh (by rw [h45]; rfl)⟩
  · obtain ⟨ws, hws⟩ : ∃ ws, ws = splitL 32 l := ⟨_, rfl⟩
    rw [← hws]
    have pl : PyData.plainAll (ws.map fun w => (wrd 4 txtS w).elim PyData.none thD) = true := by
      have : ∀ ws : List (List Nat), PyData.plainAll (ws.map fun w => (wrd 4 txtS w).elim PyData.none thD) = true := fun ws => by
        induction ws with
        | nil => rfl
        | cons w ws ih =>
          simp only [List.map_cons, PyData.plainAll, ih, Bool.and_true]
          cases wrd 4 txtS w with
          | none => rfl
          | some t => exact plain_th t
      exact this ws
    rcases wrds_cases 4 txtS ws with ⟨ts, e, ho⟩ | hno
    · have em : (ws.map fun w => (wrd 4 txtS w).elim PyData.none thD) = ts.map thD := by
        rw [e, List.map_map]
        refine List.map_congr_left fun t ht => ?_
        show (wrd 4 txtS (txtS t)).elim _ _ = _
        rw [wrd_some wrS (ho t ht) rfl]; rfl
      rw [em] at pl ⊢
      simp [qRepL, qRev, qRet, qRetN, qAndV, qOrV, qNotV, qIsi, qV, qVB, qC, qNil, qCons, qANil, qACons, qAPrs, qTup, qLst, qOp, qBl, qChain, qUn, qTr, qAnd, qOr, qNot, qIf, qCa, qSl, qSo, qNo, qMt, qMt0, qCall, cal, qCallK, qNext, qSeq, qExp, qIfS, qAsg, and_assoc, qPar, qOwn, qFrz, qApp, qLstN, qListN, qLenE, qLenL, qLcE, qLcL, noOwn, iSeq, iRg1, iRg2, iZp, iEn, iEnT, qYes, qRaise, qTry, hdX, suB, exIn, qXf, qPOwn, qPWh, qSetOwn, qSetWh, qSetIx, fnE, startD, notDict, lcB, wipeD, qPn, qPc, qDct, qRetF, qCallF, qCallP, qBrk, qCnt, truthyD, lenOk, itemsD, seqD, oNotIn, P_bag_ok, pl, PyData.plain, PyData.depth]
      refine .inr ⟨fun x a b _ e => by subst e; rfl, fun xs e => ?_, ?_⟩
      · exact good_hall (most := 4) (ts := ts)
      · show if isThings 4 20 (hallD ts) = true then _ else _
        by_cases hh : Hall 4 20 ts
        · rw [if_pos ((isThings_hall _ _ _).mpr hh)]
          exact h1 ts hh (wrS.told (by rw [← hws]; exact e))
        · rw [if_neg (fun z => hh ((isThings_hall _ _ _).mp z))]
          refine h2 fun us hu el => hh ?_
          have := wrS.tells h45 hu.ok el
          rw [← hws, e] at this
          rw [wrS.map_inj ho hu.ok this]
          exact hu
    · simp [qRepL, qRev, qRet, qRetN, qAndV, qOrV, qNotV, qIsi, qV, qVB, qC, qNil, qCons, qANil, qACons, qAPrs, qTup, qLst, qOp, qBl, qChain, qUn, qTr, qAnd, qOr, qNot, qIf, qCa, qSl, qSo, qNo, qMt, qMt0, qCall, cal, qCallK, qNext, qSeq, qExp, qIfS, qAsg, and_assoc, qPar, qOwn, qFrz, qApp, qLstN, qListN, qLenE, qLenL, qLcE, qLcL, noOwn, iSeq, iRg1, iRg2, iZp, iEn, iEnT, qYes, qRaise, qTry, hdX, suB, exIn, qXf, qPOwn, qPWh, qSetOwn, qSetWh, qSetIx, fnE, startD, notDict, lcB, wipeD, qPn, qPc, qDct, qRetF, qCallF, qCallP, qBrk, qCnt, truthyD, lenOk, itemsD, seqD, oNotIn, pl, PyData.plain, PyData.depth]
      obtain ⟨w, hw, e⟩ := hno
      refine .inl ⟨⟨.none, ⟨w, hw, by rw [e]; rfl⟩, rfl⟩, ?_⟩
      refine h2 fun us hu el => ?_
      have := wrS.tells h45 hu.ok el
      rw [← hws] at this
      rw [this] at hw
      obtain ⟨t, ht, rfl⟩ := List.mem_map.mp hw
      rw [wrd_some wrS (hu.ok t ht) rfl] at e
      cases e
theorem sc_bag_from : FnScope ["text", "found", "part"] ["text"] (defScope s_bag_from) := ⟨rfl, rfl, rfl, by decide +kernel, rfl, by decide +kernel, by decide +kernel⟩
theorem ok_bag_from {P : Program} {w : World} {K : Fg} {mg : Str → Option Value} {base : Heap} (T : Tx K mg) : HasD P w K mg base PJ "bag_from" (defArgs s_bag_from) 6 ["text"] P_bag_from := by
  obtain ⟨f, fd, hm0, F⟩ := T.d_bag_from
  exact ⟨f, fd, _, _, hm0, F, fnD_of (N := ["text", "found", "part"]) F sc_bag_from fun cdv A outer s H E g Ex hr hG hm hP hE tk => ⟨t_bag_from Ex,
    (qss_cons (qs_set 1 (qe_if (qt_cmp (opd_ne (un_of hr)) (QE.bb (qe_v 0)) (QE.bb (qe_glo T.c_NOTHING rfl))) (by exact (qe_callTy cad_tuple rfl T.n_tuple boot_tuple (qlb_cons (QE.bb (by exact (QN.qe (qn_lc (own := [("part", 2)]) rfl sc_bag_from.nd (by exact (qi_seq (qe_len (by exact (qe_bm mtd_split (QE.bb (qe_v 0)) (qlb_cons (QE.bb (qe_glo T.c_BLANK rfl)) qlb_nil) PySem.F.plainAttrs_str PySem.F.slot_str_split PySem.F.type_str_split))))) (by exact blkOk_by (N := ["text", "found", "part"]) (sc := defScope s_bag_from) (own := [("part", 2)]) (by decide +kernel)) (fun s H C cl fp hd => by exact (qg_name 2 sc_bag_from.nd)) (fun s H C cl fp hd => by exact qts_nil) (fun s H C cl fp hd => by exact (by exact (qe_callH (ps := ["text"]) rfl hP (ok_sort_from T) bd_sort_from (hr.mono (by decide)) hG hm (takesE0 rfl) rfl (qa_cons (qe_v 2) qa_nil)))))))) qlb_nil))) (qe_tup ql_nil)) sc_bag_from.nd)
    (qss_one (qs_ret (QE.bb (qe_if (qt_w (qw_and (qt_cmp (opd_notIn (un_of hr)) (QE.bb qe_non) (QE.bb (qe_v 1))) (qw_and1 (qt_of (QE.bb (by exact (qe_callH (ps := ["value"]) hE hP (ok_bag_ok T) bd_bag_ok (hr.mono (by decide)) hG hm tk rfl (qa_cons (qe_v 1) qa_nil)))))))) (qe_v 1) qe_non))))),
    fun as R hl h => pure_bag_from as R Ex hl h⟩⟩
/-! ### bag_by -/
def P_bag_by : FS := fun as R _ => ∃ ts, as = [.val (hallD ts)] ∧ R (hallD (bagT ts))
def t_bag_by (Ex : Exc → Prop) : TrS := (qRet (qCa cTup (qCons (qCa cSorted (qCons (qLcE (qLcL [1, 2] (iSeq (qLenE (qV 0))) (gTp 2 (gNc (gNm 1) (gNc (gNm 2) gN0))) qYes (qTup (qCons (qV 1) (qCons (qCa cMin2 (qCons (qV 2) (qCons (qC c_OLD) qNil))) qNil))))) qNil)) qNil)))
theorem pure_bag_by (as : List Sl) (R : D → Prop) (Ex : Exc → Prop) (hl : as.length = 1) (h : P_bag_by as R Ex) : t_bag_by Ex (fnE R) (startD ["hall", "kind", "age"] as) := by
  obtain ⟨ts, rfl, h⟩ := h
  simp [t_bag_by, qRepL, qRev, qRet, qRetN, qAndV, qOrV, qNotV, qIsi, qV, qVB, qC, qNil, qCons, qANil, qACons, qAPrs, qTup, qLst, qOp, qBl, qChain, qUn, qTr, qAnd, qOr, qNot, qIf, qCa, qSl, qSo, qNo, qMt, qMt0, qCall, cal, qCallK, qNext, qSeq, qExp, qIfS, qAsg, and_assoc, qPar, qOwn, qFrz, qApp, qLstN, qListN, qLenE, qLenL, qLcE, qLcL, noOwn, iSeq, iRg1, iRg2, iZp, iEn, iEnT, qYes, qRaise, qTry, hdX, suB, exIn, qXf, qPOwn, qPWh, qSetOwn, qSetWh, qSetIx, fnE, startD, notDict, lcB, wipeD, qPn, qPc, qDct, qRetF, qCallF, qCallP, qBrk, qCnt, truthyD, lenOk, itemsD, seqD, hallD]
  intro hz
  refine ⟨hz, lcD_map thD (fun x => thD (bag1 x)) rfl (fun x hx k hk => ?_) ?_⟩
  · simp [qRepL, qRev, qRet, qRetN, qAndV, qOrV, qNotV, qIsi, qV, qVB, qC, qNil, qCons, qANil, qACons, qAPrs, qTup, qLst, qOp, qBl, qChain, qUn, qTr, qAnd, qOr, qNot, qIf, qCa, qSl, qSo, qNo, qMt, qMt0, qCall, cal, qCallK, qNext, qSeq, qExp, qIfS, qAsg, and_assoc, qPar, qOwn, qFrz, qApp, qLstN, qListN, qLenE, qLenL, qLcE, qLcL, noOwn, iSeq, iRg1, iRg2, iZp, iEn, iEnT, qYes, qRaise, qTry, hdX, suB, exIn, qXf, qPOwn, qPWh, qSetOwn, qSetWh, qSetIx, fnE, startD, notDict, lcB, wipeD, qPn, qPc, qDct, qRetF, qCallF, qCallP, qBrk, qCnt, truthyD, lenOk, itemsD, seqD, thD, c_OLD, cMin2]
    refine ⟨by rw [sizeLine_eq]; decide, ?_⟩
    have e : ((min x.2 4 : Nat) : Int) = min (x.2 : Int) 4 := by omega
    rw [← e]; exact hk
  · exact cSort_of (ts := ts.map bag1) (.inl (by simp)) (by simpa [hallD, bagT] using h)
theorem sc_bag_by : FnScope ["hall", "kind", "age"] ["hall"] (defScope s_bag_by) := ⟨rfl, rfl, rfl, by decide +kernel, rfl, by decide +kernel, by decide +kernel⟩
theorem ok_bag_by {P : Program} {w : World} {K : Fg} {mg : Str → Option Value} {base : Heap} (T : Tx K mg) : HasD P w K mg base PJ "bag_by" (defArgs s_bag_by) 1 ["hall"] P_bag_by := by
  obtain ⟨f, fd, hm0, F⟩ := T.d_bag_by
  exact ⟨f, fd, _, _, hm0, F, fnD_of (N := ["hall", "kind", "age"]) F sc_bag_by fun cdv A outer s H E g Ex hr hG hm hP hE tk => ⟨t_bag_by Ex,
    (qss_one (qs_ret (QE.bb (by exact (qe_callTy cad_tuple rfl T.n_tuple boot_tuple (qlb_cons (QE.bb (by exact (qe_callB (cad_sorted (un_of hr)) rfl T.n_sorted boot_sorted (qlb_cons (QE.bb (by exact (QN.qe (qn_lc (own := [("kind", 1), ("age", 2)]) rfl sc_bag_by.nd (by exact (QI.y (qi_seq (qe_len (qe_v 0))))) (by exact blkOk_by (N := ["hall", "kind", "age"]) (sc := defScope s_bag_by) (own := [("kind", 1), ("age", 2)]) (by decide +kernel)) (fun s H C cl fp hd => by exact (qgy_tup rfl (qgs_cons (qg_name 1 sc_bag_by.nd) (qgs_cons (qg_name 2 sc_bag_by.nd) qgs_nil)))) (fun s H C cl fp hd => by exact qts_nil) (fun s H C cl fp hd => by exact (qe_tup (ql_cons (qe_v 1) (ql_cons (by exact (qe_callB (cad_min2 rfl) rfl T.n_min boot_min (qlb_cons (QE.bb (qe_v 2)) (qlb_cons (QE.bb (qe_glo T.c_OLD rfl)) qlb_nil)))) ql_nil)))))))) qlb_nil)))) qlb_nil)))))),
    fun as R hl h => pure_bag_by as R Ex hl h⟩⟩
/-! ### numbers_of -/
def P_numbers_of : FS := fun as R _ => ∃ ts, as = [.val (hallD ts)] ∧ R (.tuple (SORTS.map fun s => .int (ts.count s)))
def t_numbers_of (Ex : Exc → Prop) : TrS := (qRet (qCa cTup (qCons (qLcE (qLcL [1] (iSeq (qLenE (qC c_SORTS))) (gNm 1) qYes (qMt "tuple" mCountT (qV 0) (qCons (qV 1) qNil)))) qNil)))
theorem pure_numbers_of (as : List Sl) (R : D → Prop) (Ex : Exc → Prop) (hl : as.length = 1) (h : P_numbers_of as R Ex) : t_numbers_of Ex (fnE R) (startD ["bag", "sort"] as) := by
  obtain ⟨ts, rfl, h⟩ := h
  have hs : c_SORTS = hallD SORTS := by rfl
  simp [t_numbers_of, qRepL, qRev, qRet, qRetN, qAndV, qOrV, qNotV, qIsi, qV, qVB, qC, qNil, qCons, qANil, qACons, qAPrs, qTup, qLst, qOp, qBl, qChain, qUn, qTr, qAnd, qOr, qNot, qIf, qCa, qSl, qSo, qNo, qMt, qMt0, qCall, cal, qCallK, qNext, qSeq, qExp, qIfS, qAsg, and_assoc, qPar, qOwn, qFrz, qApp, qLstN, qListN, qLenE, qLenL, qLcE, qLcL, noOwn, iSeq, iRg1, iRg2, iZp, iEn, iEnT, qYes, qRaise, qTry, hdX, suB, exIn, qXf, qPOwn, qPWh, qSetOwn, qSetWh, qSetIx, fnE, startD, notDict, lcB, wipeD, qPn, qPc, qDct, qRetF, qCallF, qCallP, qBrk, qCnt, truthyD, lenOk, itemsD, seqD, hs, hallD]
  intro hz
  refine ⟨hz, lcD_map thD (fun s => .int (ts.count s)) rfl (fun x hx k hk => ?_) ?_⟩
  · simp [qRepL, qRev, qRet, qRetN, qAndV, qOrV, qNotV, qIsi, qV, qVB, qC, qNil, qCons, qANil, qACons, qAPrs, qTup, qLst, qOp, qBl, qChain, qUn, qTr, qAnd, qOr, qNot, qIf, qCa, qSl, qSo, qNo, qMt, qMt0, qCall, cal, qCallK, qNext, qSeq, qExp, qIfS, qAsg, and_assoc, qPar, qOwn, qFrz, qApp, qLstN, qListN, qLenE, qLenL, qLcE, qLcL, noOwn, iSeq, iRg1, iRg2, iZp, iEn, iEnT, qYes, qRaise, qTry, hdX, suB, exIn, qXf, qPOwn, qPWh, qSetOwn, qSetWh, qSetIx, fnE, startD, notDict, lcB, wipeD, qPn, qPc, qDct, qRetF, qCallF, qCallP, qBrk, qCnt, truthyD, lenOk, itemsD, seqD, tyD, mCountT]
    exact ⟨plainAll_th ts, plain_th x, by rw [depth_th]; decide, by have := count_th x ts; rw [List.countP_map] at this; rw [this]; exact hk⟩
  · simpa using h
theorem sc_numbers_of : FnScope ["bag", "sort"] ["bag"] (defScope s_numbers_of) := ⟨rfl, rfl, rfl, by decide +kernel, rfl, by decide +kernel, by decide +kernel⟩
theorem ok_numbers_of {P : Program} {w : World} {K : Fg} {mg : Str → Option Value} {base : Heap} (T : Tx K mg) : HasD P w K mg base PJ "numbers_of" (defArgs s_numbers_of) 1 ["bag"] P_numbers_of := by
  obtain ⟨f, fd, hm0, F⟩ := T.d_numbers_of
  exact ⟨f, fd, _, _, hm0, F, fnD_of (N := ["bag", "sort"]) F sc_numbers_of fun cdv A outer s H E g Ex hr hG hm hP hE tk => ⟨t_numbers_of Ex,
    (qss_one (qs_ret (QE.bb (by exact (qe_callTy cad_tuple rfl T.n_tuple boot_tuple (qlb_cons (QE.bb (by exact (QN.qe (qn_lc (own := [("sort", 1)]) rfl sc_numbers_of.nd (by exact (qi_seq (qe_len (qe_glo T.c_SORTS rfl)))) (by exact blkOk_by (N := ["bag", "sort"]) (sc := defScope s_numbers_of) (own := [("sort", 1)]) (by decide +kernel)) (fun s H C cl fp hd => by exact (qg_name 1 sc_numbers_of.nd)) (fun s H C cl fp hd => by exact qts_nil) (fun s H C cl fp hd => by exact (by exact (qe_bm (mtd_countT (un_of hr)) (QE.bb (qe_v 0)) (qlb_cons (QE.bb (qe_v 1)) qlb_nil) PySem.F.plainAttrs_tuple PySem.F.slot_tuple_count PySem.F.type_tuple_count))))))) qlb_nil)))))),
    fun as R hl h => pure_numbers_of as R Ex hl h⟩⟩
/-! ### are_within -/
def P_are_within : FS := fun as R _ => ∃ f m : Th → Nat, as = [.val (.tuple (SORTS.map fun s => .int (f s))), .val (.tuple (SORTS.map fun s => .int (m s)))] ∧ R (.bool (SORTS.all fun s => decide (f s ≤ m s)))
def t_are_within (Ex : Exc → Prop) : TrS := (qRet (qCa cAll (qCons (qLcE (qLcL [2, 3] (iZp (qLenL (qCons (qV 0) (qCons (qV 1) qNil)))) (gTp 2 (gNc (gNm 2) (gNc (gNm 3) gN0))) qYes (qOp oLe (qV 2) (qV 3)))) qNil)))
theorem pure_are_within (as : List Sl) (R : D → Prop) (Ex : Exc → Prop) (hl : as.length = 2) (h : P_are_within as R Ex) : t_are_within Ex (fnE R) (startD ["few", "many", "one", "other"] as) := by
  obtain ⟨f, m, rfl, h⟩ := h
  simp only [t_are_within, qRepL, qRev, qRet, qRetN, qAndV, qOrV, qNotV, qIsi, qV, qVB, qC, qNil, qCons, qANil, qACons, qAPrs, qTup, qLst, qOp, qBl, qChain, qUn, qTr, qAnd, qOr, qNot, qIf, qCa, qSl, qSo, qNo, qMt, qMt0, qCall, cal, qCallK, qNext, qSeq, qExp, qIfS, qAsg, and_assoc, qPar, qOwn, qFrz, qApp, qLstN, qListN, qLenE, qLenL, qLcE, qLcL, noOwn, iSeq, iRg1, iRg2, iZp, iEn, iEnT, qYes, qRaise, qTry, hdX, suB, exIn, qXf, qPOwn, qPWh, qSetOwn, qSetWh, qSetIx, fnE, startD, notDict, lcB, wipeD, qPn, qPc, qDct, qRetF, qCallF, qCallP, qBrk, qCnt, truthyD, lenOk, itemsD, seqD]
  refine ⟨_, rfl, _, rfl, fun _ => ?_⟩
  refine ⟨_, _, .inr rfl, ?_, ?_, lcD_map (fun s => .tuple [.int (f s), .int (m s)]) (fun s => .bool (decide (f s ≤ m s))) (zipD_map _ _ _) (fun x hx k hk => ?_) ?_⟩
  · intro i hi ds
    simp at hi ⊢
    rcases hi with rfl | rfl <;> simp
  · rw [zipD_map, List.length_map]; decide
  · simp [qRepL, qRev, qRet, qRetN, qAndV, qOrV, qNotV, qIsi, qV, qVB, qC, qNil, qCons, qANil, qACons, qAPrs, qTup, qLst, qOp, qBl, qChain, qUn, qTr, qAnd, qOr, qNot, qIf, qCa, qSl, qSo, qNo, qMt, qMt0, qCall, cal, qCallK, qNext, qSeq, qExp, qIfS, qAsg, and_assoc, qPar, qOwn, qFrz, qApp, qLstN, qListN, qLenE, qLenL, qLcE, qLcL, noOwn, iSeq, iRg1, iRg2, iZp, iEn, iEnT, qYes, qRaise, qTry, hdX, suB, exIn, qXf, qPOwn, qPWh, qSetOwn, qSetWh, qSetIx, fnE, startD, notDict, lcB, wipeD, qPn, qPc, qDct, qRetF, qCallF, qCallP, qBrk, qCnt, truthyD, lenOk, itemsD, seqD]
    exact hk
  · rw [cAll_map]
    exact ⟨trivial, h⟩
theorem sc_are_within : FnScope ["few", "many", "one", "other"] ["few", "many"] (defScope s_are_within) := ⟨rfl, rfl, rfl, by decide +kernel, rfl, by decide +kernel, by decide +kernel⟩
theorem ok_are_within {P : Program} {w : World} {K : Fg} {mg : Str → Option Value} {base : Heap} (T : Tx K mg) : HasD P w K mg base PJ "are_within" (defArgs s_are_within) 1 ["few", "many"] P_are_within := by
  obtain ⟨f, fd, hm0, F⟩ := T.d_are_within
  exact ⟨f, fd, _, _, hm0, F, fnD_of (N := ["few", "many", "one", "other"]) F sc_are_within fun cdv A outer s H E g Ex hr hG hm hP hE tk => ⟨t_are_within Ex,
    (qss_one (qs_ret (QE.bb (by exact (qe_callB (cad_all rfl) rfl T.n_all boot_all (qlb_cons (QE.bb (by exact (QN.qe (qn_lc (own := [("one", 2), ("other", 3)]) rfl sc_are_within.nd (by exact (qi_zip rfl T.n_zip (ql_len (ql_cons (qe_v 0) (ql_cons (qe_v 1) ql_nil))))) (by exact blkOk_by (N := ["few", "many", "one", "other"]) (sc := defScope s_are_within) (own := [("one", 2), ("other", 3)]) (by decide +kernel)) (fun s H C cl fp hd => by exact (qgy_tup rfl (qgs_cons (qg_name 2 sc_are_within.nd) (qgs_cons (qg_name 3 sc_are_within.nd) qgs_nil)))) (fun s H C cl fp hd => by exact qts_nil) (fun s H C cl fp hd => by exact (qe_cmp (opd_le (un_of hr)) (QE.bb (qe_v 2)) (QE.bb (qe_v 3)))))))) qlb_nil)))))),
    fun as R hl h => pure_are_within as R Ex hl h⟩⟩
/-! ### has_by -/
def P_has_by : FS := fun as R _ => ∃ hs bs, as = [.val (hallD hs), .val (hallD bs)] ∧ R (.bool (hasT hs bs))
def t_has_by (Ex : Exc → Prop) : TrS := (qRet (qCall (fun _ => Ex) (cal 2 P_are_within) (qACons (qCall (fun _ => Ex) (cal 1 P_numbers_of) (qACons (qV 1) qANil)) (qACons (qCall (fun _ => Ex) (cal 1 P_numbers_of) (qACons (qCall (fun _ => Ex) (cal 1 P_bag_by) (qACons (qV 0) qANil)) qANil)) qANil))))
theorem pure_has_by (as : List Sl) (R : D → Prop) (Ex : Exc → Prop) (hl : as.length = 2) (h : P_has_by as R Ex) : t_has_by Ex (fnE R) (startD ["hall", "bag"] as) := by
  obtain ⟨hs, bs, rfl, h⟩ := h
  simp only [t_has_by, qRepL, qRev, qRet, qRetN, qAndV, qOrV, qNotV, qIsi, qV, qVB, qC, qNil, qCons, qANil, qACons, qAPrs, qTup, qLst, qOp, qBl, qChain, qUn, qTr, qAnd, qOr, qNot, qIf, qCa, qSl, qSo, qNo, qMt, qMt0, qCall, cal, qCallK, qNext, qSeq, qExp, qIfS, qAsg, and_assoc, qPar, qOwn, qFrz, qApp, qLstN, qListN, qLenE, qLenL, qLcE, qLcL, noOwn, iSeq, iRg1, iRg2, iZp, iEn, iEnT, qYes, qRaise, qTry, hdX, suB, exIn, qXf, qPOwn, qPWh, qSetOwn, qSetWh, qSetIx, fnE, startD, notDict, lcB, wipeD, qPn, qPc, qDct, qRetF, qCallF, qCallP, qBrk, qCnt, truthyD, lenOk, itemsD, seqD, P_are_within, P_numbers_of, P_bag_by]
  exact ⟨_, rfl, rfl, _, rfl, _, rfl, rfl, _, rfl, rfl, _, rfl, rfl, _, _, rfl, trivial, h⟩
theorem sc_has_by : FnScope ["hall", "bag"] ["hall", "bag"] (defScope s_has_by) := ⟨rfl, rfl, rfl, by decide +kernel, rfl, by decide +kernel, by decide +kernel⟩
theorem ok_has_by {P : Program} {w : World} {K : Fg} {mg : Str → Option Value} {base : Heap} (T : Tx K mg) : HasD P w K mg base PJ "has_by" (defArgs s_has_by) 2 ["hall", "bag"] P_has_by := by
  obtain ⟨f, fd, hm0, F⟩ := T.d_has_by
  exact ⟨f, fd, _, _, hm0, F, fnD_of (N := ["hall", "bag"]) F sc_has_by fun cdv A outer s H E g Ex hr hG hm hP hE tk => ⟨t_has_by Ex,
    (qss_one (qs_ret (QE.bb (by exact (qe_callH (ps := ["few", "many"]) hE hP (ok_are_within T) bd_are_within (hr.mono (by decide)) hG hm tk rfl (qa_cons (by exact (qe_callH (ps := ["bag"]) hE hP (ok_numbers_of T) bd_numbers_of (hr.mono (by decide)) hG hm tk rfl (qa_cons (qe_v 1) qa_nil))) (qa_cons (by exact (qe_callH (ps := ["bag"]) hE hP (ok_numbers_of T) bd_numbers_of (hr.mono (by decide)) hG hm tk rfl (qa_cons (by exact (qe_callH (ps := ["hall"]) hE hP (ok_bag_by T) bd_bag_by (hr.mono (by decide)) hG hm tk rfl (qa_cons (qe_v 0) qa_nil))) qa_nil))) qa_nil))))))),
    fun as R hl h => pure_has_by as R Ex hl h⟩⟩
/-! ### check_hall -/
def P_check_hall : FS := fun as R Ex => ∃ d, as = [.val d] ∧ Gt d ∧ (isThings 9999 60 d = true → R .none) ∧ (isThings 9999 60 d = false → Ex ⟨"InvalidHall", "given", d⟩)
def t_check_hall (Ex : Exc → Prop) : TrS := (qIfS (qNot (qTr (qCall (fun _ => Ex) (cal 1 P_hall_ok) (qACons (qV 0) qANil)))) (qRaise (fun _ => Ex) "InvalidHall" "given" (qV 0)) qNext)
theorem pure_check_hall (as : List Sl) (R : D → Prop) (Ex : Exc → Prop) (hl : as.length = 1) (h : P_check_hall as R Ex) : t_check_hall Ex (fnE R) (startD ["hall"] as) := by
  obtain ⟨d, rfl, g, h1, h2⟩ := h
  simp [t_check_hall, qRepL, qRev, qRet, qRetN, qAndV, qOrV, qNotV, qIsi, qV, qVB, qC, qNil, qCons, qANil, qACons, qAPrs, qTup, qLst, qOp, qBl, qChain, qUn, qTr, qAnd, qOr, qNot, qIf, qCa, qSl, qSo, qNo, qMt, qMt0, qCall, cal, qCallK, qNext, qSeq, qExp, qIfS, qAsg, and_assoc, qPar, qOwn, qFrz, qApp, qLstN, qListN, qLenE, qLenL, qLcE, qLcL, noOwn, iSeq, iRg1, iRg2, iZp, iEn, iEnT, qYes, qRaise, qTry, hdX, suB, exIn, qXf, qPOwn, qPWh, qSetOwn, qSetWh, qSetIx, fnE, startD, notDict, lcB, wipeD, qPn, qPc, qDct, qRetF, qCallF, qCallP, qBrk, qCnt, truthyD, lenOk, itemsD, seqD, P_hall_ok]
  refine ⟨g, ?_⟩
  rcases bool_cases (isThings 9999 60 d) with h | h
  · simp [h]; exact h1 h
  · simp [h]; exact h2 h
theorem sc_check_hall : FnScope ["hall"] ["hall"] (defScope s_check_hall) := ⟨rfl, rfl, rfl, by decide +kernel, rfl, by decide +kernel, by decide +kernel⟩
theorem ok_check_hall {P : Program} {w : World} {K : Fg} {mg : Str → Option Value} {base : Heap} (T : Tx K mg) : HasD P w K mg base PJ "check_hall" (defArgs s_check_hall) 6 ["hall"] P_check_hall := by
  obtain ⟨f, fd, hm0, F⟩ := T.d_check_hall
  exact ⟨f, fd, _, _, hm0, F, fnD_of (N := ["hall"]) F sc_check_hall fun cdv A outer s H E g Ex hr hG hm hP hE tk => ⟨t_check_hall Ex,
    (qss_one (qs_if (qt_not (qt_of (QE.bb (by exact (qe_callH (ps := ["value"]) hE hP (ok_hall_ok T) bd_hall_ok (hr.mono (by decide)) hG hm tk rfl (qa_cons (qe_v 0) qa_nil)))))) (qss_one (qs_raiseH hE (T.x_InvalidHall P w base) rfl (hr.mono (by decide)) hm tk (qe_v 0) rfl)) qss_nil)),
    fun as R hl h => pure_check_hall as R Ex hl h⟩⟩
/-! ### check_bag -/
def P_check_bag : FS := fun as R Ex => ∃ d, as = [.val d] ∧ Gt d ∧ (isThings 4 20 d = true → R .none) ∧ (isThings 4 20 d = false → Ex ⟨"InvalidBag", "given", d⟩)
def t_check_bag (Ex : Exc → Prop) : TrS := (qIfS (qNot (qTr (qCall (fun _ => Ex) (cal 1 P_bag_ok) (qACons (qV 0) qANil)))) (qRaise (fun _ => Ex) "InvalidBag" "given" (qV 0)) qNext)
theorem pure_check_bag (as : List Sl) (R : D → Prop) (Ex : Exc → Prop) (hl : as.length = 1) (h : P_check_bag as R Ex) : t_check_bag Ex (fnE R) (startD ["bag"] as) := by
  obtain ⟨d, rfl, g, h1, h2⟩ := h
  simp [t_check_bag, qRepL, qRev, qRet, qRetN, qAndV, qOrV, qNotV, qIsi, qV, qVB, qC, qNil, qCons, qANil, qACons, qAPrs, qTup, qLst, qOp, qBl, qChain, qUn, qTr, qAnd, qOr, qNot, qIf, qCa, qSl, qSo, qNo, qMt, qMt0, qCall, cal, qCallK, qNext, qSeq, qExp, qIfS, qAsg, and_assoc, qPar, qOwn, qFrz, qApp, qLstN, qListN, qLenE, qLenL, qLcE, qLcL, noOwn, iSeq, iRg1, iRg2, iZp, iEn, iEnT, qYes, qRaise, qTry, hdX, suB, exIn, qXf, qPOwn, qPWh, qSetOwn, qSetWh, qSetIx, fnE, startD, notDict, lcB, wipeD, qPn, qPc, qDct, qRetF, qCallF, qCallP, qBrk, qCnt, truthyD, lenOk, itemsD, seqD, P_bag_ok]
  refine ⟨g, ?_⟩
  rcases bool_cases (isThings 4 20 d) with h | h
  · simp [h]; exact h1 h
  · simp [h]; exact h2 h
theorem sc_check_bag : FnScope ["bag"] ["bag"] (defScope s_check_bag) := ⟨rfl, rfl, rfl, by decide +kernel, rfl, by decide +kernel, by decide +kernel⟩
theorem ok_check_bag {P : Program} {w : World} {K : Fg} {mg : Str → Option Value} {base : Heap} (T : Tx K mg) : HasD P w K mg base PJ "check_bag" (defArgs s_check_bag) 6 ["bag"] P_check_bag := by
  obtain ⟨f, fd, hm0, F⟩ := T.d_check_bag
  exact ⟨f, fd, _, _, hm0, F, fnD_of (N := ["bag"]) F sc_check_bag fun cdv A outer s H E g Ex hr hG hm hP hE tk => ⟨t_check_bag Ex,
    (qss_one (qs_if (qt_not (qt_of (QE.bb (by exact (qe_callH (ps := ["value"]) hE hP (ok_bag_ok T) bd_bag_ok (hr.mono (by decide)) hG hm tk rfl (qa_cons (qe_v 0) qa_nil)))))) (qss_one (qs_raiseH hE (T.x_InvalidBag P w base) rfl (hr.mono (by decide)) hm tk (qe_v 0) rfl)) qss_nil)),
    fun as R hl h => pure_check_bag as R Ex hl h⟩⟩
/-! ### check_text -/
def P_check_text : FS := fun as R Ex => ∃ d, as = [.val d] ∧ (d.isStr = true → R .none) ∧ (d.isStr = false → Ex ⟨"InvalidText", "given", d⟩)
def t_check_text (Ex : Exc → Prop) : TrS := (qIfS (qNot (qTr (qIsi PyData.isStr (qV 0)))) (qRaise (fun _ => Ex) "InvalidText" "given" (qV 0)) qNext)
theorem pure_check_text (as : List Sl) (R : D → Prop) (Ex : Exc → Prop) (hl : as.length = 1) (h : P_check_text as R Ex) : t_check_text Ex (fnE R) (startD ["text"] as) := by
  obtain ⟨d, rfl, h1, h2⟩ := h
  simp [t_check_text, qRepL, qRev, qRet, qRetN, qAndV, qOrV, qNotV, qIsi, qV, qVB, qC, qNil, qCons, qANil, qACons, qAPrs, qTup, qLst, qOp, qBl, qChain, qUn, qTr, qAnd, qOr, qNot, qIf, qCa, qSl, qSo, qNo, qMt, qMt0, qCall, cal, qCallK, qNext, qSeq, qExp, qIfS, qAsg, and_assoc, qPar, qOwn, qFrz, qApp, qLstN, qListN, qLenE, qLenL, qLcE, qLcL, noOwn, iSeq, iRg1, iRg2, iZp, iEn, iEnT, qYes, qRaise, qTry, hdX, suB, exIn, qXf, qPOwn, qPWh, qSetOwn, qSetWh, qSetIx, fnE, startD, notDict, lcB, wipeD, qPn, qPc, qDct, qRetF, qCallF, qCallP, qBrk, qCnt, truthyD, lenOk, itemsD, seqD]
  rcases bool_cases d.isStr with e | e
  · simp [e]; exact h1 e
  · simp [e]; exact h2 e
theorem sc_check_text : FnScope ["text"] ["text"] (defScope s_check_text) := ⟨rfl, rfl, rfl, by decide +kernel, rfl, by decide +kernel, by decide +kernel⟩
theorem ok_check_text {P : Program} {w : World} {K : Fg} {mg : Str → Option Value} {base : Heap} (T : Tx K mg) : HasD P w K mg base PJ "check_text" (defArgs s_check_text) 3 ["text"] P_check_text := by
  obtain ⟨f, fd, hm0, F⟩ := T.d_check_text
  exact ⟨f, fd, _, _, hm0, F, fnD_of (N := ["text"]) F sc_check_text fun cdv A outer s H E g Ex hr hG hm hP hE tk => ⟨t_check_text Ex,
    (qss_one (qs_if (qt_not (qt_of (QE.bb (by exact (qe_isi (f := PyData.isStr) (QE.bb (qe_v 0)) rfl rfl T.n_isinstance rfl T.n_str boot_str fun _ _ _ _ _ _ r h => PySem.W.isinstance_str_data r h))))) (qss_one (qs_raiseH hE (T.x_InvalidText P w base) rfl (hr.mono (by decide)) hm tk (qe_v 0) rfl)) qss_nil)),
    fun as R hl h => pure_check_text as R Ex hl h⟩⟩
/-! ### is_hall -/
def P_is_hall : FS := fun as R _ => ∃ d, as = [.val d] ∧ Gt d ∧ R (.bool (isThings 9999 60 d))
def t_is_hall (Ex : Exc → Prop) : TrS := (qRet (qCall (fun _ => Ex) (cal 1 P_hall_ok) (qACons (qV 0) qANil)))
theorem pure_is_hall (as : List Sl) (R : D → Prop) (Ex : Exc → Prop) (hl : as.length = 1) (h : P_is_hall as R Ex) : t_is_hall Ex (fnE R) (startD ["value"] as) := by
  obtain ⟨d, rfl, g, h⟩ := h
  simp [t_is_hall, qRepL, qRev, qRet, qRetN, qAndV, qOrV, qNotV, qIsi, qV, qVB, qC, qNil, qCons, qANil, qACons, qAPrs, qTup, qLst, qOp, qBl, qChain, qUn, qTr, qAnd, qOr, qNot, qIf, qCa, qSl, qSo, qNo, qMt, qMt0, qCall, cal, qCallK, qNext, qSeq, qExp, qIfS, qAsg, and_assoc, qPar, qOwn, qFrz, qApp, qLstN, qListN, qLenE, qLenL, qLcE, qLcL, noOwn, iSeq, iRg1, iRg2, iZp, iEn, iEnT, qYes, qRaise, qTry, hdX, suB, exIn, qXf, qPOwn, qPWh, qSetOwn, qSetWh, qSetIx, fnE, startD, notDict, lcB, wipeD, qPn, qPc, qDct, qRetF, qCallF, qCallP, qBrk, qCnt, truthyD, lenOk, itemsD, seqD, P_hall_ok]
  exact ⟨g, h⟩
theorem sc_is_hall : FnScope ["value"] ["value"] (defScope s_is_hall) := ⟨rfl, rfl, rfl, by decide +kernel, rfl, by decide +kernel, by decide +kernel⟩
theorem ok_is_hall {P : Program} {w : World} {K : Fg} {mg : Str → Option Value} {base : Heap} (T : Tx K mg) : HasD P w K mg base PJ "is_hall" (defArgs s_is_hall) 6 ["value"] P_is_hall := by
  obtain ⟨f, fd, hm0, F⟩ := T.d_is_hall
  exact ⟨f, fd, _, _, hm0, F, fnD_of (N := ["value"]) F sc_is_hall fun cdv A outer s H E g Ex hr hG hm hP hE tk => ⟨t_is_hall Ex,
    (qss_one (qs_ret (QE.bb (by exact (qe_callH (ps := ["value"]) hE hP (ok_hall_ok T) bd_hall_ok (hr.mono (by decide)) hG hm tk rfl (qa_cons (qe_v 0) qa_nil)))))),
    fun as R hl h => pure_is_hall as R Ex hl h⟩⟩
/-! ### is_bag -/
def P_is_bag : FS := fun as R _ => ∃ d, as = [.val d] ∧ Gt d ∧ R (.bool (isThings 4 20 d))
def t_is_bag (Ex : Exc → Prop) : TrS := (qRet (qCall (fun _ => Ex) (cal 1 P_bag_ok) (qACons (qV 0) qANil)))
theorem pure_is_bag (as : List Sl) (R : D → Prop) (Ex : Exc → Prop) (hl : as.length = 1) (h : P_is_bag as R Ex) : t_is_bag Ex (fnE R) (startD ["value"] as) := by
  obtain ⟨d, rfl, g, h⟩ := h
  simp [t_is_bag, qRepL, qRev, qRet, qRetN, qAndV, qOrV, qNotV, qIsi, qV, qVB, qC, qNil, qCons, qANil, qACons, qAPrs, qTup, qLst, qOp, qBl, qChain, qUn, qTr, qAnd, qOr, qNot, qIf, qCa, qSl, qSo, qNo, qMt, qMt0, qCall, cal, qCallK, qNext, qSeq, qExp, qIfS, qAsg, and_assoc, qPar, qOwn, qFrz, qApp, qLstN, qListN, qLenE, qLenL, qLcE, qLcL, noOwn, iSeq, iRg1, iRg2, iZp, iEn, iEnT, qYes, qRaise, qTry, hdX, suB, exIn, qXf, qPOwn, qPWh, qSetOwn, qSetWh, qSetIx, fnE, startD, notDict, lcB, wipeD, qPn, qPc, qDct, qRetF, qCallF, qCallP, qBrk, qCnt, truthyD, lenOk, itemsD, seqD, P_bag_ok]
  exact ⟨g, h⟩
theorem sc_is_bag : FnScope ["value"] ["value"] (defScope s_is_bag) := ⟨rfl, rfl, rfl, by decide +kernel, rfl, by decide +kernel, by decide +kernel⟩
theorem ok_is_bag {P : Program} {w : World} {K : Fg} {mg : Str → Option Value} {base : Heap} (T : Tx K mg) : HasD P w K mg base PJ "is_bag" (defArgs s_is_bag) 6 ["value"] P_is_bag := by
  obtain ⟨f, fd, hm0, F⟩ := T.d_is_bag
  exact ⟨f, fd, _, _, hm0, F, fnD_of (N := ["value"]) F sc_is_bag fun cdv A outer s H E g Ex hr hG hm hP hE tk => ⟨t_is_bag Ex,
    (qss_one (qs_ret (QE.bb (by exact (qe_callH (ps := ["value"]) hE hP (ok_bag_ok T) bd_bag_ok (hr.mono (by decide)) hG hm tk rfl (qa_cons (qe_v 0) qa_nil)))))),
    fun as R hl h => pure_is_bag as R Ex hl h⟩⟩
/-! ### bag_text -/
def P_bag_text : FS := fun as R Ex => ∃ d, as = [.val d] ∧ Gt d ∧ (∀ ts, d = hallD ts → Hall 4 20 ts → R (stD (hallTx txtS ts))) ∧ (isThings 4 20 d = false → Ex ⟨"InvalidBag", "given", d⟩)
def t_bag_text (Ex : Exc → Prop) : TrS := (qSeq (qExp (qCall (fun _ => Ex) (cal 1 P_check_bag) (qACons (qV 0) qANil)))
    (qRet (qCall (fun _ => Ex) (cal 1 P_text_of_bag) (qACons (qV 0) qANil))))
theorem pure_bag_text (as : List Sl) (R : D → Prop) (Ex : Exc → Prop) (hl : as.length = 1) (h : P_bag_text as R Ex) : t_bag_text Ex (fnE R) (startD ["bag"] as) := by
  obtain ⟨d, rfl, g, h1, h2⟩ := h
  simp [t_bag_text, qRepL, qRev, qRet, qRetN, qAndV, qOrV, qNotV, qIsi, qV, qVB, qC, qNil, qCons, qANil, qACons, qAPrs, qTup, qLst, qOp, qBl, qChain, qUn, qTr, qAnd, qOr, qNot, qIf, qCa, qSl, qSo, qNo, qMt, qMt0, qCall, cal, qCallK, qNext, qSeq, qExp, qIfS, qAsg, and_assoc, qPar, qOwn, qFrz, qApp, qLstN, qListN, qLenE, qLenL, qLcE, qLcL, noOwn, iSeq, iRg1, iRg2, iZp, iEn, iEnT, qYes, qRaise, qTry, hdX, suB, exIn, qXf, qPOwn, qPWh, qSetOwn, qSetWh, qSetIx, fnE, startD, notDict, lcB, wipeD, qPn, qPc, qDct, qRetF, qCallF, qCallP, qBrk, qCnt, truthyD, lenOk, itemsD, seqD, P_check_bag, P_text_of_bag]
  refine ⟨g, fun i => ?_, h2⟩
  obtain ⟨ts, rfl, hh⟩ := hall_of i
  exact ⟨ts, rfl, hh, h1 ts rfl hh⟩
theorem sc_bag_text : FnScope ["bag"] ["bag"] (defScope s_bag_text) := ⟨rfl, rfl, rfl, by decide +kernel, rfl, by decide +kernel, by decide +kernel⟩
theorem ok_bag_text {P : Program} {w : World} {K : Fg} {mg : Str → Option Value} {base : Heap} (T : Tx K mg) : HasD P w K mg base PJ "bag_text" (defArgs s_bag_text) 7 ["bag"] P_bag_text := by
  obtain ⟨f, fd, hm0, F⟩ := T.d_bag_text
  exact ⟨f, fd, _, _, hm0, F, fnD_of (N := ["bag"]) F sc_bag_text fun cdv A outer s H E g Ex hr hG hm hP hE tk => ⟨t_bag_text Ex,
    (qss_cons (qs_expr (by exact (qe_callH (ps := ["bag"]) hE hP (ok_check_bag T) bd_check_bag (hr.mono (by decide)) hG hm tk rfl (qa_cons (qe_v 0) qa_nil))))
    (qss_one (qs_ret (QE.bb (by exact (qe_callH (ps := ["bag"]) hE hP (ok_text_of_bag T) bd_text_of_bag (hr.mono (by decide)) hG hm tk rfl (qa_cons (qe_v 0) qa_nil))))))),
    fun as R hl h => pure_bag_text as R Ex hl h⟩⟩
/-! ### read_bag -/
def P_read_bag : FS := fun as R Ex => ∃ d, as = [.val d] ∧ (∀ l, d = stD l → l.length ≤ 100000 ∧ (∀ ts, Hall 4 20 ts → l = hallTx txtS ts → R (hallD ts)) ∧ ((∀ ts, Hall 4 20 ts → l ≠ hallTx txtS ts) → Ex ⟨"InvalidText", "given", d⟩)) ∧ (d.isStr = false → Ex ⟨"InvalidText", "given", d⟩)
def t_read_bag (Ex : Exc → Prop) : TrS := (qSeq (qExp (qCall (fun _ => Ex) (cal 1 P_check_text) (qACons (qV 0) qANil)))
    (qSeq (qAsg (qCall (fun _ => Ex) (cal 1 P_bag_from) (qACons (qV 0) qANil)) (gNm 1))
    (qSeq (qIfS (qBl (qOp oIsN (qV 1) (qC .none))) (qRaise (fun _ => Ex) "InvalidText" "given" (qV 0)) qNext)
    (qRet (qV 1)))))
theorem pure_read_bag (as : List Sl) (R : D → Prop) (Ex : Exc → Prop) (hl : as.length = 1) (h : P_read_bag as R Ex) : t_read_bag Ex (fnE R) (startD ["text", "bag"] as) := by
  obtain ⟨d, rfl, h1, h2⟩ := h
  cases d with
  | str x =>
    obtain ⟨l, rfl⟩ := tx_ex x
    obtain ⟨hz, h1, h3⟩ := h1 l rfl
    simp [t_read_bag, qRepL, qRev, qRet, qRetN, qAndV, qOrV, qNotV, qIsi, qV, qVB, qC, qNil, qCons, qANil, qACons, qAPrs, qTup, qLst, qOp, qBl, qChain, qUn, qTr, qAnd, qOr, qNot, qIf, qCa, qSl, qSo, qNo, qMt, qMt0, qCall, cal, qCallK, qNext, qSeq, qExp, qIfS, qAsg, and_assoc, qPar, qOwn, qFrz, qApp, qLstN, qListN, qLenE, qLenL, qLcE, qLcL, noOwn, iSeq, iRg1, iRg2, iZp, iEn, iEnT, qYes, qRaise, qTry, hdX, suB, exIn, qXf, qPOwn, qPWh, qSetOwn, qSetWh, qSetIx, fnE, startD, notDict, lcB, wipeD, qPn, qPc, qDct, qRetF, qCallF, qCallP, qBrk, qCnt, truthyD, lenOk, itemsD, seqD, P_check_text, P_bag_from, PyData.isStr]
    refine ⟨hz, fun ts hh e => ?_, fun hn => ?_⟩
    · simp [oIsN, isN, hallD]
      exact h1 ts hh e
    · simp [oIsN, isN]
      exact h3 hn
  | _ =>
    simp [t_read_bag, qRepL, qRev, qRet, qRetN, qAndV, qOrV, qNotV, qIsi, qV, qVB, qC, qNil, qCons, qANil, qACons, qAPrs, qTup, qLst, qOp, qBl, qChain, qUn, qTr, qAnd, qOr, qNot, qIf, qCa, qSl, qSo, qNo, qMt, qMt0, qCall, cal, qCallK, qNext, qSeq, qExp, qIfS, qAsg, and_assoc, qPar, qOwn, qFrz, qApp, qLstN, qListN, qLenE, qLenL, qLcE, qLcL, noOwn, iSeq, iRg1, iRg2, iZp, iEn, iEnT, qYes, qRaise, qTry, hdX, suB, exIn, qXf, qPOwn, qPWh, qSetOwn, qSetWh, qSetIx, fnE, startD, notDict, lcB, wipeD, qPn, qPc, qDct, qRetF, qCallF, qCallP, qBrk, qCnt, truthyD, lenOk, itemsD, seqD, P_check_text, PyData.isStr]
    exact h2 rfl
theorem sc_read_bag : FnScope ["text", "bag"] ["text"] (defScope s_read_bag) := ⟨rfl, rfl, rfl, by decide +kernel, rfl, by decide +kernel, by decide +kernel⟩
theorem ok_read_bag {P : Program} {w : World} {K : Fg} {mg : Str → Option Value} {base : Heap} (T : Tx K mg) : HasD P w K mg base PJ "read_bag" (defArgs s_read_bag) 7 ["text"] P_read_bag := by
  obtain ⟨f, fd, hm0, F⟩ := T.d_read_bag
  exact ⟨f, fd, _, _, hm0, F, fnD_of (N := ["text", "bag"]) F sc_read_bag fun cdv A outer s H E g Ex hr hG hm hP hE tk => ⟨t_read_bag Ex,
    (qss_cons (qs_expr (by exact (qe_callH (ps := ["text"]) hE hP (ok_check_text T) bd_check_text (hr.mono (by decide)) hG hm tk rfl (qa_cons (qe_v 0) qa_nil))))
    (qss_cons (qs_set 1 (by exact (qe_callH (ps := ["text"]) hE hP (ok_bag_from T) bd_bag_from (hr.mono (by decide)) hG hm tk rfl (qa_cons (qe_v 0) qa_nil))) sc_read_bag.nd)
    (qss_cons (qs_if (qt_cmp opd_isN (QE.bb (qe_v 1)) (QE.bb qe_non)) (qss_one (qs_raiseH hE (T.x_InvalidText P w base) rfl (hr.mono (by decide)) hm tk (qe_v 0) rfl)) qss_nil)
    (qss_one (qs_ret (QE.bb (qe_v 1))))))),
    fun as R hl h => pure_read_bag as R Ex hl h⟩⟩
/-! ### bag_of -/
def P_bag_of : FS := fun as R _ => ∃ ts, as = [.val (hallD ts)] ∧ Hall 9999 60 ts ∧ R (hallD (bagT ts))
def t_bag_of (Ex : Exc → Prop) : TrS := (qSeq (qExp (qCall (fun _ => Ex) (cal 1 P_check_hall) (qACons (qV 0) qANil)))
    (qRet (qCall (fun _ => Ex) (cal 1 P_bag_by) (qACons (qV 0) qANil))))
theorem pure_bag_of (as : List Sl) (R : D → Prop) (Ex : Exc → Prop) (hl : as.length = 1) (h : P_bag_of as R Ex) : t_bag_of Ex (fnE R) (startD ["hall"] as) := by
  obtain ⟨ts, rfl, hh, h⟩ := h
  have hi := (isThings_hall 9999 60 ts).mpr hh
  simp [t_bag_of, qRepL, qRev, qRet, qRetN, qAndV, qOrV, qNotV, qIsi, qV, qVB, qC, qNil, qCons, qANil, qACons, qAPrs, qTup, qLst, qOp, qBl, qChain, qUn, qTr, qAnd, qOr, qNot, qIf, qCa, qSl, qSo, qNo, qMt, qMt0, qCall, cal, qCallK, qNext, qSeq, qExp, qIfS, qAsg, and_assoc, qPar, qOwn, qFrz, qApp, qLstN, qListN, qLenE, qLenL, qLcE, qLcL, noOwn, iSeq, iRg1, iRg2, iZp, iEn, iEnT, qYes, qRaise, qTry, hdX, suB, exIn, qXf, qPOwn, qPWh, qSetOwn, qSetWh, qSetIx, fnE, startD, notDict, lcB, wipeD, qPn, qPc, qDct, qRetF, qCallF, qCallP, qBrk, qCnt, truthyD, lenOk, itemsD, seqD, P_check_hall, P_bag_by, hi]
  exact ⟨good_hall (most := 9999).t, _, rfl, trivial, h⟩
theorem bag_of_ok {hs : List Th} {R : D → Prop} {Ex : Exc → Prop} (h1 : Hall 9999 60 hs) (r : R (hallD (bagT hs))) : P_bag_of [.val (hallD hs)] R Ex := ⟨hs, rfl, h1, r⟩
theorem is_bag_ok {hs : List Th} {R : D → Prop} {Ex : Exc → Prop} (h1 : Hall 9999 60 hs) (r : R (.bool (decide ((hs.length : Int) < 21)))) : P_is_bag [.val (hallD (bagT hs))] R Ex := ⟨_, rfl, good_hall (most := 9999).t, by rw [is_bag h1]; exact r⟩
theorem sc_bag_of : FnScope ["hall"] ["hall"] (defScope s_bag_of) := ⟨rfl, rfl, rfl, by decide +kernel, rfl, by decide +kernel, by decide +kernel⟩
theorem ok_bag_of {P : Program} {w : World} {K : Fg} {mg : Str → Option Value} {base : Heap} (T : Tx K mg) : HasD P w K mg base PJ "bag_of" (defArgs s_bag_of) 7 ["hall"] P_bag_of := by
  obtain ⟨f, fd, hm0, F⟩ := T.d_bag_of
  exact ⟨f, fd, _, _, hm0, F, fnD_of (N := ["hall"]) F sc_bag_of fun cdv A outer s H E g Ex hr hG hm hP hE tk => ⟨t_bag_of Ex,
    (qss_cons (qs_expr (by exact (qe_callH (ps := ["hall"]) hE hP (ok_check_hall T) bd_check_hall (hr.mono (by decide)) hG hm tk rfl (qa_cons (qe_v 0) qa_nil))))
    (qss_one (qs_ret (QE.bb (by exact (qe_callH (ps := ["hall"]) hE hP (ok_bag_by T) bd_bag_by (hr.mono (by decide)) hG hm tk rfl (qa_cons (qe_v 0) qa_nil))))))),
    fun as R hl h => pure_bag_of as R Ex hl h⟩⟩
/-! ### has -/
def P_has : FS := fun as R Ex => ∃ d e, as = [.val d, .val e] ∧ Gd d ∧ Gd e ∧ (isThings 9999 60 d = false → Ex ⟨"InvalidHall", "given", d⟩) ∧ (isThings 9999 60 d = true → isThings 4 20 e = false → Ex ⟨"InvalidBag", "given", e⟩) ∧ (∀ hs bs, d = hallD hs → e = hallD bs → Hall 9999 60 hs → Hall 4 20 bs → R (.bool (hasT hs bs)))
def t_has (Ex : Exc → Prop) : TrS := (qSeq (qExp (qCall (fun _ => Ex) (cal 1 P_check_hall) (qACons (qV 0) qANil)))
    (qSeq (qExp (qCall (fun _ => Ex) (cal 1 P_check_bag) (qACons (qV 1) qANil)))
    (qRet (qCall (fun _ => Ex) (cal 2 P_has_by) (qACons (qV 0) (qACons (qV 1) qANil))))))
theorem pure_has (as : List Sl) (R : D → Prop) (Ex : Exc → Prop) (hl : as.length = 2) (h : P_has as R Ex) : t_has Ex (fnE R) (startD ["hall", "bag"] as) := by
  obtain ⟨d, e, rfl, gd, ge, h1, h2, h3⟩ := h
  simp [t_has, qRepL, qRev, qRet, qRetN, qAndV, qOrV, qNotV, qIsi, qV, qVB, qC, qNil, qCons, qANil, qACons, qAPrs, qTup, qLst, qOp, qBl, qChain, qUn, qTr, qAnd, qOr, qNot, qIf, qCa, qSl, qSo, qNo, qMt, qMt0, qCall, cal, qCallK, qNext, qSeq, qExp, qIfS, qAsg, and_assoc, qPar, qOwn, qFrz, qApp, qLstN, qListN, qLenE, qLenL, qLcE, qLcL, noOwn, iSeq, iRg1, iRg2, iZp, iEn, iEnT, qYes, qRaise, qTry, hdX, suB, exIn, qXf, qPOwn, qPWh, qSetOwn, qSetWh, qSetIx, fnE, startD, notDict, lcB, wipeD, qPn, qPc, qDct, qRetF, qCallF, qCallP, qBrk, qCnt, truthyD, lenOk, itemsD, seqD, P_check_hall, P_check_bag, P_has_by]
  refine ⟨gd.t, fun i1 => ⟨ge.t, fun i2 => ?_, fun i2 => h2 i1 i2⟩, h1⟩
  obtain ⟨hs, rfl, hh⟩ := hall_of i1
  obtain ⟨bs, rfl, hb⟩ := hall_of i2
  exact ⟨hs, rfl, bs, rfl, h3 hs bs rfl rfl hh hb⟩
theorem has_ok {hs bs : List Th} {R : D → Prop} {Ex : Exc → Prop} (h1 : Hall 9999 60 hs) (h2 : Hall 4 20 bs) (r : R (.bool (hasL hs bs))) : P_has [.val (hallD hs), .val (hallD bs)] R Ex := by
  have e1 := (isThings_hall 9999 60 hs).mpr h1
  have e2 := (isThings_hall 4 20 bs).mpr h2
  refine ⟨_, _, rfl, good_hall (most := 9999), good_hall (most := 9999), fun z => ?_, fun _ z => ?_, fun a b ea eb _ _ => ?_⟩
  · rw [e1] at z; cases z
  · rw [e2] at z; cases z
  · rw [← hallD_inj ea, ← hallD_inj eb, hasT_hasL h2.ok]; exact r
theorem sc_has : FnScope ["hall", "bag"] ["hall", "bag"] (defScope s_has) := ⟨rfl, rfl, rfl, by decide +kernel, rfl, by decide +kernel, by decide +kernel⟩
theorem ok_has {P : Program} {w : World} {K : Fg} {mg : Str → Option Value} {base : Heap} (T : Tx K mg) : HasD P w K mg base PJ "has" (defArgs s_has) 7 ["hall", "bag"] P_has := by
  obtain ⟨f, fd, hm0, F⟩ := T.d_has
  exact ⟨f, fd, _, _, hm0, F, fnD_of (N := ["hall", "bag"]) F sc_has fun cdv A outer s H E g Ex hr hG hm hP hE tk => ⟨t_has Ex,
    (qss_cons (qs_expr (by exact (qe_callH (ps := ["hall"]) hE hP (ok_check_hall T) bd_check_hall (hr.mono (by decide)) hG hm tk rfl (qa_cons (qe_v 0) qa_nil))))
    (qss_cons (qs_expr (by exact (qe_callH (ps := ["bag"]) hE hP (ok_check_bag T) bd_check_bag (hr.mono (by decide)) hG hm tk rfl (qa_cons (qe_v 1) qa_nil))))
    (qss_one (qs_ret (QE.bb (by exact (qe_callH (ps := ["hall", "bag"]) hE hP (ok_has_by T) bd_has_by (hr.mono (by decide)) hG hm tk rfl (qa_cons (qe_v 0) (qa_cons (qe_v 1) qa_nil))))))))),
    fun as R hl h => pure_has as R Ex hl h⟩⟩
/-! ### _law_press -/
def pressD (n i j : Int) : D := .dict [(.str "own", .int n), (.str "wheels", .list [.int i, .int j])]
def P__law_press : FS := fun as R _ => ∃ (xs : List Int) (lap : Nat), as = [.val (.list (xs.map .int)), .val (.int lap)] ∧ lap < 2 ^ 30 ∧ xs.length ≤ 1000 ∧ ∀ n i j : Int, 0 ≤ n → R (pressD n i j)
def t__law_press (Ex : Exc → Prop) : TrS := (qSeq (qAsg (qIf (qBl (qOp oLt (qV 1) (qCa cLen (qCons (qV 0) qNil)))) (qCa cInt (qCons (qOp oIx (qV 0) (qV 1)) qNil)) (qOp oAdd (qC (.int 3430)) (qOp (oIntC CMul fun i j => i * j) (qC (.int 29)) (qV 1)))) (gNm 2))
    (qSeq (qOwn 3 (qLstN (qCons (qOp oAdd (qC (.int 80201)) (qV 1)) (qCons (qOp (oInt fun i j => i - j) (qC (.int 84202)) (qV 1)) qNil))))
    (qSeq (qFor (iEn (qLenL (qCons (qOp oAdd (qCa cLst (qCons (qSl (qV 0) qNo (qSo (qC (.int 8)))) qNil)) (qLst (qCons (qV 2) (qCons (qC (.int 7)) qNil)))) qNil))) (gTp 2 (gNc (gNm 4) (gNc (gNm 5) gN0))) (qSeq (qAsg (qOp (oIntC (fun _ j => 0 < j) fun i j => i % j) (qCa cInt (qCons (qV 4) qNil)) (qC (.int 2))) (gNm 6))
    (qSetIx 3 (qOp (oIntC (fun _ j => 0 < j) fun i j => i % j) (qCa cInt (qCons (qOp oAdd (qOp oAdd (qOp (oIntC CMul fun i j => i * j) (qOp oIx (qVB 3) (qV 6)) (qC (.int 45013))) (qOp oIx (qVB 3) (qOp (oInt fun i j => i - j) (qC (.int 1)) (qV 6)))) (qOp (oIntC (fun _ j => 0 < j) fun i j => i % j) (qCa cInt (qCons (qV 5) qNil)) (qC (.int 1000151)))) qNil)) (qC (.int 2147483629))) (qV 6))))
    (qFrz 3 (qRetF (qDct (qPc "own" (qIf (qOr (qBl (qOp oLt (qV 2) (qC (.int 0)))) (qBl (qOp oGe (qV 2) (qOp (oIntC CPow fun i j => i ^ j.toNat) (qC (.int 10)) (qC (.int 16)))))) (qOp (oIntC (fun _ j => 0 < j) fun i j => i % j) (qCa cInt (qCons (qCa cAbs (qCons (qV 2) qNil)) qNil)) (qOp (oIntC CPow fun i j => i ^ j.toNat) (qC (.int 10)) (qC (.int 57)))) (qC (.int 0))) (qPc "wheels" (qV 3) qPn))))))))
theorem ixN_two (s : Int) : ixN 2 (s % 2) = some (s % 2).toNat := by
  unfold ixN
  have h1 : 0 ≤ s % 2 := Int.emod_nonneg _ (by omega)
  have h2 : s % 2 < 2 := Int.emod_lt_of_pos _ (by omega)
  rw [if_pos h1, if_pos (by exact h2)]
theorem ixN_two' (s : Int) : ixN 2 (1 - s % 2) = some (1 - s % 2).toNat := by
  unfold ixN
  have h1 : 0 ≤ s % 2 := Int.emod_nonneg _ (by omega)
  have h2 : s % 2 < 2 := Int.emod_lt_of_pos _ (by omega)
  rw [if_pos (by omega), if_pos (by exact (by omega : 1 - s % 2 < 2))]
theorem pure__law_press (as : List Sl) (R : D → Prop) (Ex : Exc → Prop) (hl : as.length = 2) (h : P__law_press as R Ex) : t__law_press Ex (fnE R) (startD ["script", "lap", "own", "wheels", "spot", "part", "at"] as) := by
  obtain ⟨xs, lap, rfl, hlap, hx, h⟩ := h
  have h2 : 2 ≤ sizeLine := by rw [sizeLine_eq]; decide
  simp only [t__law_press, qSeq, qAsg, startD]
  refine any_val (fun d => ∃ o : Int, d = .int o) (fun K hK => ?_) ?_
  · rcases Nat.lt_or_ge lap xs.length with hlt | hge
    · simp [qRepL, qRev, qRet, qRetN, qAndV, qOrV, qNotV, qIsi, qV, qVB, qC, qNil, qCons, qANil, qACons, qAPrs, qTup, qLst, qOp, qBl, qChain, qUn, qTr, qAnd, qOr, qNot, qIf, qCa, qSl, qSo, qNo, qMt, qMt0, qCall, cal, qCallK, qNext, qSeq, qExp, qIfS, qAsg, and_assoc, qPar, qOwn, qFrz, qApp, qLstN, qListN, qLenE, qLenL, qLcE, qLcL, noOwn, iSeq, iRg1, iRg2, iZp, iEn, iEnT, qYes, qRaise, qTry, hdX, suB, exIn, qXf, qPOwn, qPWh, qSetOwn, qSetWh, qSetIx, fnE, startD, notDict, lcB, wipeD, qPn, qPc, qDct, qRetF, qCallF, qCallP, qBrk, qCnt, truthyD, lenOk, itemsD, seqD, CMul]
      refine .inr ⟨hlt, ?_⟩
      simp [oIx, atI, ixN, hlt]
      exact hK _ ⟨_, rfl⟩
    · simp [qRepL, qRev, qRet, qRetN, qAndV, qOrV, qNotV, qIsi, qV, qVB, qC, qNil, qCons, qANil, qACons, qAPrs, qTup, qLst, qOp, qBl, qChain, qUn, qTr, qAnd, qOr, qNot, qIf, qCa, qSl, qSo, qNo, qMt, qMt0, qCall, cal, qCallK, qNext, qSeq, qExp, qIfS, qAsg, and_assoc, qPar, qOwn, qFrz, qApp, qLstN, qListN, qLenE, qLenL, qLcE, qLcL, noOwn, iSeq, iRg1, iRg2, iZp, iEn, iEnT, qYes, qRaise, qTry, hdX, suB, exIn, qXf, qPOwn, qPWh, qSetOwn, qSetWh, qSetIx, fnE, startD, notDict, lcB, wipeD, qPn, qPc, qDct, qRetF, qCallF, qCallP, qBrk, qCnt, truthyD, lenOk, itemsD, seqD, CMul]
      exact .inl ⟨hge, hK _ ⟨_, rfl⟩⟩
  rintro _ ⟨o, rfl⟩
  simp [qRepL, qRev, qRet, qRetN, qAndV, qOrV, qNotV, qIsi, qV, qVB, qC, qNil, qCons, qANil, qACons, qAPrs, qTup, qLst, qOp, qBl, qChain, qUn, qTr, qAnd, qOr, qNot, qIf, qCa, qSl, qSo, qNo, qMt, qMt0, qCall, cal, qCallK, qNext, qSeq, qExp, qIfS, qAsg, and_assoc, qPar, qOwn, qFrz, qApp, qLstN, qListN, qLenE, qLenL, qLcE, qLcL, noOwn, iSeq, iRg1, iRg2, iZp, iEn, iEnT, qYes, qRaise, qTry, hdX, suB, exIn, qXf, qPOwn, qPWh, qSetOwn, qSetWh, qSetIx, fnE, startD, notDict, lcB, wipeD, qPn, qPc, qDct, qRetF, qCallF, qCallP, qBrk, qCnt, truthyD, lenOk, itemsD, seqD, h2]
  refine for_of (fun ds => ∀ d ∈ ds, ∃ u v : Int, d = .tuple [.int u, .int v]) (fun rest ρ => (∀ d ∈ rest, ∃ u v : Int, d = .tuple [.int u, .int v]) ∧ ∃ (a b : Int) (s4 s5 s6 : Sl), ρ = [.val (.list (xs.map .int)), .val (.int lap), .val (.int o), .own [.int a, .int b], s4, s5, s6]) (fun J hJ => ?_) (fun ds hd => ?_) (fun ρ' h' => ?_) (fun d rest ρ' h' => ?_)
  · simp [qRepL, qRev, qRet, qRetN, qAndV, qOrV, qNotV, qIsi, qV, qVB, qC, qNil, qCons, qANil, qACons, qAPrs, qTup, qLst, qOp, qBl, qChain, qUn, qTr, qAnd, qOr, qNot, qIf, qCa, qSl, qSo, qNo, qMt, qMt0, qCall, cal, qCallK, qNext, qSeq, qExp, qIfS, qAsg, and_assoc, qPar, qOwn, qFrz, qApp, qLstN, qListN, qLenE, qLenL, qLcE, qLcL, noOwn, iSeq, iRg1, iRg2, iZp, iEn, iEnT, qYes, qRaise, qTry, hdX, suB, exIn, qXf, qPOwn, qPWh, qSetOwn, qSetWh, qSetIx, fnE, startD, notDict, lcB, wipeD, qPn, qPc, qDct, qRetF, qCallF, qCallP, qBrk, qCnt, truthyD, lenOk, itemsD, seqD, oSl, oAdd, h2]
    have hc := cut_len (xs.map .int) none (some 8)
    rw [List.length_map] at hc
    have hs : 1002 ≤ sizeLine := by rw [sizeLine_eq]; decide
    refine ⟨by omega, fun _ => hJ _ (enumD_ints fun d hd => ?_)⟩
    rcases List.mem_append.mp hd with hd | hd
    · obtain ⟨i, _, rfl⟩ := List.mem_map.mp (cut_sub hd)
      exact ⟨i, rfl⟩
    · simp at hd
      rcases hd with rfl | rfl
      · exact ⟨o, rfl⟩
      · exact ⟨7, rfl⟩
  · simp
    exact hd
  · obtain ⟨_, a, b, s4, s5, s6, rfl⟩ := h'
    simp [qRepL, qRev, qRet, qRetN, qAndV, qOrV, qNotV, qIsi, qV, qVB, qC, qNil, qCons, qANil, qACons, qAPrs, qTup, qLst, qOp, qBl, qChain, qUn, qTr, qAnd, qOr, qNot, qIf, qCa, qSl, qSo, qNo, qMt, qMt0, qCall, cal, qCallK, qNext, qSeq, qExp, qIfS, qAsg, and_assoc, qPar, qOwn, qFrz, qApp, qLstN, qListN, qLenE, qLenL, qLcE, qLcL, noOwn, iSeq, iRg1, iRg2, iZp, iEn, iEnT, qYes, qRaise, qTry, hdX, suB, exIn, qXf, qPOwn, qPWh, qSetOwn, qSetWh, qSetIx, fnE, startD, notDict, lcB, wipeD, qPn, qPc, qDct, qRetF, qCallF, qCallP, qBrk, qCnt, truthyD, lenOk, itemsD, seqD, CPow]
    have hne : ¬ Str.ofString "own" = Str.ofString "wheels" := by decide
    have hw : ∀ n, 0 ≤ n → R (dctD [(Str.ofString "own", .int n), (Str.ofString "wheels", .list [.int a, .int b])]) := fun n hn => h n a b hn
    have hm : (0 : Int) ≤ (o.natAbs : Int) % 1000000000000000000000000000000000000000000000000000000000 := Int.emod_nonneg _ (by omega)
    rcases (by omega : o < 0 ∨ (0 ≤ o ∧ o < 10000000000000000) ∨ (0 ≤ o ∧ 10000000000000000 ≤ o)) with h1 | ⟨h1, h3⟩ | ⟨h1, h3⟩
    · exact .inr ⟨h1, hne, hw _ hm⟩
    · exact .inl ⟨h1, .inl ⟨h3, hne, hw 0 (by omega)⟩⟩
    · exact .inl ⟨h1, .inr ⟨h3, hne, hw _ hm⟩⟩
  · obtain ⟨hr, a, b, s4, s5, s6, rfl⟩ := h'
    obtain ⟨u, v, rfl⟩ := hr d List.mem_cons_self
    simp [qRepL, qRev, qRet, qRetN, qAndV, qOrV, qNotV, qIsi, qV, qVB, qC, qNil, qCons, qANil, qACons, qAPrs, qTup, qLst, qOp, qBl, qChain, qUn, qTr, qAnd, qOr, qNot, qIf, qCa, qSl, qSo, qNo, qMt, qMt0, qCall, cal, qCallK, qNext, qSeq, qExp, qIfS, qAsg, and_assoc, qPar, qOwn, qFrz, qApp, qLstN, qListN, qLenE, qLenL, qLcE, qLcL, noOwn, iSeq, iRg1, iRg2, iZp, iEn, iEnT, qYes, qRaise, qTry, hdX, suB, exIn, qXf, qPOwn, qPWh, qSetOwn, qSetWh, qSetIx, fnE, startD, notDict, lcB, wipeD, qPn, qPc, qDct, qRetF, qCallF, qCallP, qBrk, qCnt, truthyD, lenOk, itemsD, seqD, CMul]
    have hr' := fun d hd => hr d (List.mem_cons_of_mem _ hd)
    rcases (by omega : u % 2 = 0 ∨ u % 2 = 1) with e | e <;> rw [e] <;> simp [oIx, atI, ixN, CMul] <;> exact hr'
theorem sc__law_press : FnScope ["script", "lap", "own", "wheels", "spot", "part", "at"] ["script", "lap"] (defScope s__law_press) := ⟨rfl, rfl, rfl, by decide +kernel, rfl, by decide +kernel, by decide +kernel⟩
theorem ok__law_press {P : Program} {w : World} {K : Fg} {mg : Str → Option Value} {base : Heap} (T : Tx K mg) : HasD P w K mg base PJ "_law_press" (defArgs s__law_press) 1 ["script", "lap"] P__law_press := by
  obtain ⟨f, fd, hm0, F⟩ := T.d__law_press
  exact ⟨f, fd, _, _, hm0, F, fnD_of (N := ["script", "lap", "own", "wheels", "spot", "part", "at"]) F sc__law_press fun cdv A outer s H E g Ex hr hG hm hP hE tk => ⟨t__law_press Ex,
    (qss_cons (qs_set 2 (qe_if (qt_cmp (opd_lt (un_of hr)) (QE.bb (qe_v 1)) (QE.bb (by exact (qe_callB cad_len rfl T.n_len boot_len (qlb_cons (QE.bb (qe_v 0)) qlb_nil))))) (by exact (qe_callTy cad_int rfl T.n_int boot_int (qlb_cons (QE.bb (qe_ix (QE.bb (qe_v 0)) (QE.bb (qe_v 1)) (fun _ _ => rfl))) qlb_nil))) (qe_op opd_add (QE.bb qe_int) (QE.bb (qe_op opd_mul (QE.bb qe_int) (QE.bb (qe_v 1)))))) sc__law_press.nd)
    (qss_cons (qs_own 3 (qn_lst (ql_cons (qe_op opd_add (QE.bb qe_int) (QE.bb (qe_v 1))) (ql_cons (qe_op opd_sub (QE.bb qe_int) (QE.bb (qe_v 1))) ql_nil))) sc__law_press.nd)
    (qss_cons (qs_for (passes_of rfl) rfl (qi_enum rfl T.n_enumerate (ql_len (ql_cons (qe_op opd_add (QE.bb (by exact (qe_callTy cad_list rfl T.n_list boot_list (qlb_cons (QE.bb (qe_slice (QE.bb (qe_v 0)) qo_none (qo_some (QE.bb qe_int)))) qlb_nil)))) (QE.bb (qe_lst (ql_cons (qe_v 2) (ql_cons qe_int ql_nil))))) ql_nil))) (qgy_tup rfl (qgs_cons (qg_name 4 sc__law_press.nd) (qgs_cons (qg_name 5 sc__law_press.nd) qgs_nil))) (qss_cons (qs_set 6 (qe_op opd_mod (QE.bb (by exact (qe_callTy cad_int rfl T.n_int boot_int (qlb_cons (QE.bb (qe_v 4)) qlb_nil)))) (QE.bb qe_int)) sc__law_press.nd)
    (qss_one (qs_setIx 3 (qe_op opd_mod (QE.bb (by exact (qe_callTy cad_int rfl T.n_int boot_int (qlb_cons (QE.bb (qe_op opd_add (QE.bb (qe_op opd_add (QE.bb (qe_op opd_mul (QE.bb (qe_ix (qb_v 3) (QE.bb (qe_v 6)) (fun _ _ => rfl))) (QE.bb qe_int))) (QE.bb (qe_ix (qb_v 3) (QE.bb (qe_op opd_sub (QE.bb qe_int) (QE.bb (qe_v 6)))) (fun _ _ => rfl))))) (QE.bb (qe_op opd_mod (QE.bb (by exact (qe_callTy cad_int rfl T.n_int boot_int (qlb_cons (QE.bb (qe_v 5)) qlb_nil)))) (QE.bb qe_int))))) qlb_nil)))) (QE.bb qe_int)) (qe_v 6)))))
    (qss_frz 3 (qss_one (qs_retF (qf_dict (qp_cons (fun hd => (qe_if (qt_w (qw_or (qt_cmp (opd_lt (un_of hr)) (QE.bb (qe_v 2)) (QE.bb qe_int)) (qw_or1 (qt_cmp (opd_ge (un_of hr)) (QE.bb (qe_v 2)) (QE.bb (qe_op opd_pow (QE.bb qe_int) (QE.bb qe_int))))))) (qe_op opd_mod (QE.bb (by exact (qe_callTy cad_int rfl T.n_int boot_int (qlb_cons (QE.bb (by exact (qe_callB cad_abs rfl T.n_abs boot_abs (qlb_cons (QE.bb (qe_v 2)) qlb_nil)))) qlb_nil)))) (QE.bb (qe_op opd_pow (QE.bb qe_int) (QE.bb qe_int)))) qe_int)) (qp_cons (fun hd => (qe_v 3)) qp_nil))))))))),
    fun as R hl h => pure__law_press as R Ex hl h⟩⟩
/-! ### _law_out -/
def P__law_out : FS := fun as R _ => ∃ many : Int, as = [.prs, .val (.int many)] ∧ 0 < many ∧ many < 2 ^ 30 ∧ ∀ r : Int, 0 ≤ r → r < many → R (.int r)
def t__law_out (Ex : Exc → Prop) : TrS := (qSeq (qIfS (qBl (qOp oGt (qPOwn 0) (qC (.int 0)))) (qSeq (qAsg (qOp (oIntC (fun _ j => 0 < j) fun i j => i % j) (qCa cInt (qCons (qPOwn 0) qNil)) (qV 1)) (gNm 2))
    (qSeq (qSetOwn 0 (qOp (oIntC CDiv fun i j => i / j) (qPOwn 0) (qV 1)))
    (qRet (qV 2)))) qNext)
    (qSeq (qAsg (qPWh 0) (gLs 2 (gNc (gNm 3) (gNc (gNm 4) gN0))))
    (qSeq (qAsg (qOp (oIntC (fun _ j => 0 < j) fun i j => i % j) (qCa cInt (qCons (qOp oAdd (qOp (oIntC CMul fun i j => i * j) (qV 3) (qC (.int 45013))) (qC (.int 91))) qNil)) (qC (.int 2147483629))) (gNm 3))
    (qSeq (qAsg (qOp (oIntC (fun _ j => 0 < j) fun i j => i % j) (qCa cInt (qCons (qOp oAdd (qOp oAdd (qOp (oIntC CMul fun i j => i * j) (qV 4) (qC (.int 36269))) (qOp (oIntC (fun _ j => 0 < j) fun i j => i % j) (qV 3) (qC (.int 8191)))) (qC (.int 1))) qNil)) (qC (.int 2147483563))) (gNm 4))
    (qSeq (qSetWh 0 (qLst (qCons (qV 3) (qCons (qV 4) qNil))))
    (qRet (qOp (oIntC (fun _ j => 0 < j) fun i j => i % j) (qCa cInt (qCons (qOp (oIntC CDiv fun i j => i / j) (qOp oAdd (qV 3) (qV 4)) (qC (.int 128))) qNil)) (qV 1))))))))
theorem pure__law_out (as : List Sl) (R : D → Prop) (Ex : Exc → Prop) (hl : as.length = 2) (h : P__law_out as R Ex) : t__law_out Ex (fnE R) (startD ["press", "many", "found", "one", "two"] as) := by
  obtain ⟨many, rfl, h1, h2, h⟩ := h
  simp [t__law_out, qRepL, qRev, qRet, qRetN, qAndV, qOrV, qNotV, qIsi, qV, qVB, qC, qNil, qCons, qANil, qACons, qAPrs, qTup, qLst, qOp, qBl, qChain, qUn, qTr, qAnd, qOr, qNot, qIf, qCa, qSl, qSo, qNo, qMt, qMt0, qCall, cal, qCallK, qNext, qSeq, qExp, qIfS, qAsg, and_assoc, qPar, qOwn, qFrz, qApp, qLstN, qListN, qLenE, qLenL, qLcE, qLcL, noOwn, iSeq, iRg1, iRg2, iZp, iEn, iEnT, qYes, qRaise, qTry, hdX, suB, exIn, qXf, qPOwn, qPWh, qSetOwn, qSetWh, qSetIx, fnE, startD, notDict, lcB, wipeD, qPn, qPc, qDct, qRetF, qCallF, qCallP, qBrk, qCnt, truthyD, lenOk, itemsD, seqD, CMul]
  intro n hn
  rcases (by omega : 0 < n ∨ n ≤ 0) with hp | hp
  · refine .inr ⟨hp, fun n hn => ⟨h1, fun m hm => ⟨⟨h1, by omega⟩, Int.ediv_nonneg hm (by omega), h _ (Int.emod_nonneg _ (by omega)) (Int.emod_lt_of_pos _ h1)⟩⟩⟩
  · refine .inl ⟨hp, fun a b => ?_⟩
    simp [CDiv, h1]
    refine ⟨by rw [sizeLine_eq]; decide, h _ (Int.emod_nonneg _ (by omega)) (Int.emod_lt_of_pos _ h1)⟩
theorem sc__law_out : FnScope ["press", "many", "found", "one", "two"] ["press", "many"] (defScope s__law_out) := ⟨rfl, rfl, rfl, by decide +kernel, rfl, by decide +kernel, by decide +kernel⟩
theorem ok__law_out {P : Program} {w : World} {K : Fg} {mg : Str → Option Value} {base : Heap} (T : Tx K mg) : HasD P w K mg base PJ "_law_out" (defArgs s__law_out) 1 ["press", "many"] P__law_out := by
  obtain ⟨f, fd, hm0, F⟩ := T.d__law_out
  exact ⟨f, fd, _, _, hm0, F, fnD_of (N := ["press", "many", "found", "one", "two"]) F sc__law_out fun cdv A outer s H E g Ex hr hG hm hP hE tk => ⟨t__law_out Ex,
    (qss_cons (qs_if (qt_cmp (opd_gt (un_of hr)) (QE.bb (qe_pown 0 hP (un_of hr))) (QE.bb qe_int)) (qss_cons (qs_set 2 (qe_op opd_mod (QE.bb (by exact (qe_callTy cad_int rfl T.n_int boot_int (qlb_cons (QE.bb (qe_pown 0 hP (un_of hr))) qlb_nil)))) (QE.bb (qe_v 1))) sc__law_out.nd)
    (qss_cons (qs_pown 0 hP (un_of hr) (qe_op opd_fdiv (QE.bb (qe_pown 0 hP (un_of hr))) (QE.bb (qe_v 1))))
    (qss_one (qs_ret (QE.bb (qe_v 2)))))) qss_nil)
    (qss_cons (qs_asg (qe_pwh 0 hP (un_of hr)) (qg_lst rfl (qgs_cons (qg_name 3 sc__law_out.nd) (qgs_cons (qg_name 4 sc__law_out.nd) qgs_nil))))
    (qss_cons (qs_set 3 (qe_op opd_mod (QE.bb (by exact (qe_callTy cad_int rfl T.n_int boot_int (qlb_cons (QE.bb (qe_op opd_add (QE.bb (qe_op opd_mul (QE.bb (qe_v 3)) (QE.bb qe_int))) (QE.bb qe_int))) qlb_nil)))) (QE.bb qe_int)) sc__law_out.nd)
    (qss_cons (qs_set 4 (qe_op opd_mod (QE.bb (by exact (qe_callTy cad_int rfl T.n_int boot_int (qlb_cons (QE.bb (qe_op opd_add (QE.bb (qe_op opd_add (QE.bb (qe_op opd_mul (QE.bb (qe_v 4)) (QE.bb qe_int))) (QE.bb (qe_op opd_mod (QE.bb (qe_v 3)) (QE.bb qe_int))))) (QE.bb qe_int))) qlb_nil)))) (QE.bb qe_int)) sc__law_out.nd)
    (qss_cons (qs_pwh 0 hP (un_of hr) (qe_lst (ql_cons (qe_v 3) (ql_cons (qe_v 4) ql_nil))))
    (qss_one (qs_ret (QE.bb (qe_op opd_mod (QE.bb (by exact (qe_callTy cad_int rfl T.n_int boot_int (qlb_cons (QE.bb (qe_op opd_fdiv (QE.bb (qe_op opd_add (QE.bb (qe_v 3)) (QE.bb (qe_v 4)))) (QE.bb qe_int))) qlb_nil)))) (QE.bb (qe_v 1))))))))))),
    fun as R hl h => pure__law_out as R Ex hl h⟩⟩
/-! ### _law_of -/
def P__law_of : FS := fun as R _ => ∃ d xs, as = [.prs, .val d] ∧ seqD d = some xs ∧ 0 < xs.length ∧ xs.length ≤ 1000000 ∧ ∀ x ∈ xs, notDict x ∧ R x
def t__law_of (Ex : Exc → Prop) : TrS := (qRet (qOp oIx (qV 1) (qCall (fun _ => Ex) (cal 2 P__law_out) (qAPrs 0 (qACons (qCa cLen (qCons (qV 1) qNil)) qANil)))))
theorem pure__law_of (as : List Sl) (R : D → Prop) (Ex : Exc → Prop) (hl : as.length = 2) (h : P__law_of as R Ex) : t__law_of Ex (fnE R) (startD ["press", "things"] as) := by
  obtain ⟨d, xs, rfl, hs, h0, h1, h⟩ := h
  simp [t__law_of, qRepL, qRev, qRet, qRetN, qAndV, qOrV, qNotV, qIsi, qV, qVB, qC, qNil, qCons, qANil, qACons, qAPrs, qTup, qLst, qOp, qBl, qChain, qUn, qTr, qAnd, qOr, qNot, qIf, qCa, qSl, qSo, qNo, qMt, qMt0, qCall, cal, qCallK, qNext, qSeq, qExp, qIfS, qAsg, and_assoc, qPar, qOwn, qFrz, qApp, qLstN, qListN, qLenE, qLenL, qLcE, qLcL, noOwn, iSeq, iRg1, iRg2, iZp, iEn, iEnT, qYes, qRaise, qTry, hdX, suB, exIn, qXf, qPOwn, qPWh, qSetOwn, qSetWh, qSetIx, fnE, startD, notDict, lcB, wipeD, qPn, qPc, qDct, qRetF, qCallF, qCallP, qBrk, qCnt, truthyD, lenOk, itemsD, seqD, P__law_out]
  cases d with
  | list ys =>
    obtain rfl : ys = xs := by simpa [seqD] using hs
    simp
    refine ⟨by omega, by omega, fun r h2 h3 => ?_⟩
    obtain ⟨x, hx, hm⟩ := atI_lt h2 h3
    simp [oIx, hx]
    exact h x hm
  | tuple ys =>
    obtain rfl : ys = xs := by simpa [seqD] using hs
    simp
    refine ⟨by omega, by omega, fun r h2 h3 => ?_⟩
    obtain ⟨x, hx, hm⟩ := atI_lt h2 h3
    simp [oIx, hx]
    exact h x hm
  | str z =>
    obtain rfl : sgns z = xs := by simpa [seqD] using hs
    have hz : (sgns z).length = z.length := by simp [sgns, Str.length]
    rw [hz] at h0 h1
    have hz2 : z.length ≤ sizeLine := by rw [sizeLine_eq]; omega
    simp [cLen, hz2]
    refine ⟨by omega, by omega, fun r h2 h3 => ?_⟩
    obtain ⟨c, hc, hm⟩ := atI_lt (xs := z.cps.toList) h2 (by simpa [Str.length] using h3)
    simp [oIx, hc, hz2]
    exact (h _ (by unfold sgns; exact List.mem_map.mpr ⟨c, hm, rfl⟩)).2
  | _ => simp [seqD] at hs
theorem sc__law_of : FnScope ["press", "things"] ["press", "things"] (defScope s__law_of) := ⟨rfl, rfl, rfl, by decide +kernel, rfl, by decide +kernel, by decide +kernel⟩
theorem ok__law_of {P : Program} {w : World} {K : Fg} {mg : Str → Option Value} {base : Heap} (T : Tx K mg) : HasD P w K mg base PJ "_law_of" (defArgs s__law_of) 2 ["press", "things"] P__law_of := by
  obtain ⟨f, fd, hm0, F⟩ := T.d__law_of
  exact ⟨f, fd, _, _, hm0, F, fnD_of (N := ["press", "things"]) F sc__law_of fun cdv A outer s H E g Ex hr hG hm hP hE tk => ⟨t__law_of Ex,
    (qss_one (qs_ret (QE.bb (qe_ix (QE.bb (qe_v 1)) (QE.bb (by exact (qe_callH (ps := ["press", "many"]) hE hP (ok__law_out T) bd__law_out (hr.mono (by decide)) hG hm tk rfl (qa_prs 0 (qa_cons (by exact (qe_callB cad_len rfl T.n_len boot_len (qlb_cons (QE.bb (qe_v 1)) qlb_nil))) qa_nil))))) (fun _ _ => rfl))))),
    fun as R hl h => pure__law_of as R Ex hl h⟩⟩
/-! ### _law_even -/
def P__law_even : FS := fun as R _ => ∃ d, as = [.val d, .val d] ∧ evenK d ∧ R (.bool true)
def t__law_even (Ex : Exc → Prop) : TrS := (qRet (qAndV (qOp oEqZ (qV 0) (qV 1)) (qOp oEqZ (qCa cReprZ (qCons (qV 0) qNil)) (qCa cReprZ (qCons (qV 1) qNil)))))
theorem even_if {ta tb : TrE} {B : EnB} {ρ : En} {Ew : En → Exc → Prop} (C : D → Prop) (ha : ∀ K : D → Prop, (∀ d, C d → K d) → ta ρ K) (hb : ∀ d, C d → evenK d ∧ ∀ K : D → Prop, K d → tb ρ K) (hr : B.nx ρ) :
    qIfS (qNot (qTr (qCall Ew (cal 2 P__law_even) (qACons ta (qACons tb qANil))))) (qRet (qC (.bool false))) qNext B ρ := by
  refine ha _ fun d hd => (hb d hd).2 _ ?_
  simp [qRepL, qRev, qRet, qRetN, qAndV, qOrV, qNotV, qIsi, qV, qVB, qC, qNil, qCons, qANil, qACons, qAPrs, qTup, qLst, qOp, qBl, qChain, qUn, qTr, qAnd, qOr, qNot, qIf, qCa, qSl, qSo, qNo, qMt, qMt0, qCall, cal, qCallK, qNext, qSeq, qExp, qIfS, qAsg, and_assoc, qPar, qOwn, qFrz, qApp, qLstN, qListN, qLenE, qLenL, qLcE, qLcL, noOwn, iSeq, iRg1, iRg2, iZp, iEn, iEnT, qYes, qRaise, qTry, hdX, suB, exIn, qXf, qPOwn, qPWh, qSetOwn, qSetWh, qSetIx, fnE, startD, notDict, lcB, wipeD, qPn, qPc, qDct, qRetF, qCallF, qCallP, qBrk, qCnt, truthyD, lenOk, itemsD, seqD, P__law_even]
  exact ⟨(hb d hd).1, hr⟩
theorem even_seq {ta tb : TrE} {rest : TrS} {B : EnB} {ρ : En} {Ew : En → Exc → Prop} (C : D → Prop) (ha : ∀ K : D → Prop, (∀ d, C d → K d) → ta ρ K) (hb : ∀ d, C d → evenK d ∧ ∀ K : D → Prop, K d → tb ρ K) (hr : rest B ρ) :
    qSeq (qIfS (qNot (qTr (qCall Ew (cal 2 P__law_even) (qACons ta (qACons tb qANil))))) (qRet (qC (.bool false))) qNext) rest B ρ := even_if (B := { B with nx := rest B }) C ha hb hr
theorem even_e {ta tb : TrE} {R : D → Prop} {ρ : En} {Ew : En → Exc → Prop} (C : D → Prop) (ha : ∀ K : D → Prop, (∀ d, C d → K d) → ta ρ K) (hb : ∀ d, C d → evenK d ∧ ∀ K : D → Prop, K d → tb ρ K) (hr : R (.bool true)) :
    qCall Ew (cal 2 P__law_even) (qACons ta (qACons tb qANil)) ρ R := by
  refine ha _ fun d hd => (hb d hd).2 _ ?_
  simp [qRepL, qRev, qRet, qRetN, qAndV, qOrV, qNotV, qIsi, qV, qVB, qC, qNil, qCons, qANil, qACons, qAPrs, qTup, qLst, qOp, qBl, qChain, qUn, qTr, qAnd, qOr, qNot, qIf, qCa, qSl, qSo, qNo, qMt, qMt0, qCall, cal, qCallK, qNext, qSeq, qExp, qIfS, qAsg, and_assoc, qPar, qOwn, qFrz, qApp, qLstN, qListN, qLenE, qLenL, qLcE, qLcL, noOwn, iSeq, iRg1, iRg2, iZp, iEn, iEnT, qYes, qRaise, qTry, hdX, suB, exIn, qXf, qPOwn, qPWh, qSetOwn, qSetWh, qSetIx, fnE, startD, notDict, lcB, wipeD, qPn, qPc, qDct, qRetF, qCallF, qCallP, qBrk, qCnt, truthyD, lenOk, itemsD, seqD, P__law_even]
  exact ⟨(hb d hd).1, hr⟩
theorem pure__law_even (as : List Sl) (R : D → Prop) (Ex : Exc → Prop) (hl : as.length = 2) (h : P__law_even as R Ex) : t__law_even Ex (fnE R) (startD ["told", "due"] as) := by
  obtain ⟨d, rfl, h0, h⟩ := h
  rcases h0 with ⟨h1, h2, h3, h4, h5⟩ | ⟨h1, h2, h3, h4, h5⟩
  · have e := eqv_self d h1
    have pre : oEqZ d d = fun R => (oEq d d R ∨ _) := rfl
    simp [t__law_even, qRepL, qRev, qRet, qRetN, qAndV, qOrV, qNotV, qIsi, qV, qVB, qC, qNil, qCons, qANil, qACons, qAPrs, qTup, qLst, qOp, qBl, qChain, qUn, qTr, qAnd, qOr, qNot, qIf, qCa, qSl, qSo, qNo, qMt, qMt0, qCall, cal, qCallK, qNext, qSeq, qExp, qIfS, qAsg, and_assoc, qPar, qOwn, qFrz, qApp, qLstN, qListN, qLenE, qLenL, qLcE, qLcL, noOwn, iSeq, iRg1, iRg2, iZp, iEn, iEnT, qYes, qRaise, qTry, hdX, suB, exIn, qXf, qPOwn, qPWh, qSetOwn, qSetWh, qSetIx, fnE, startD, notDict, lcB, wipeD, qPn, qPc, qDct, qRetF, qCallF, qCallP, qBrk, qCnt, truthyD, lenOk, itemsD, seqD, cReprZ, cRepr, h4, h2, h5, h3]
    refine .inl ⟨⟨h1, h1, by omega⟩, ?_⟩
    rw [e]
    refine .inr ⟨rfl, ?_⟩
    refine .inl (.inl (.inl ⟨⟨rfl, rfl, by simp [PyData.depth]⟩, ?_⟩))
    simpa [PyData.eqv] using h
  · simp [t__law_even, qRepL, qRev, qRet, qRetN, qAndV, qOrV, qNotV, qIsi, qV, qVB, qC, qNil, qCons, qANil, qACons, qAPrs, qTup, qLst, qOp, qBl, qChain, qUn, qTr, qAnd, qOr, qNot, qIf, qCa, qSl, qSo, qNo, qMt, qMt0, qCall, cal, qCallK, qNext, qSeq, qExp, qIfS, qAsg, and_assoc, qPar, qOwn, qFrz, qApp, qLstN, qListN, qLenE, qLenL, qLcE, qLcL, noOwn, iSeq, iRg1, iRg2, iZp, iEn, iEnT, qYes, qRaise, qTry, hdX, suB, exIn, qXf, qPOwn, qPWh, qSetOwn, qSetWh, qSetIx, fnE, startD, notDict, lcB, wipeD, qPn, qPc, qDct, qRetF, qCallF, qCallP, qBrk, qCnt, truthyD, lenOk, itemsD, seqD, cReprZ, cRepr, h4, h2, h5]
    have z : oEqZ (.str d.shown) (.str d.shown) fun d => (match d with
        | .dict kvs => False
        | x => True) ∧ R d := by
      refine .inl ⟨⟨rfl, rfl, by simp [PyData.depth]⟩, ?_⟩
      simpa [PyData.eqv] using h
    exact .inr ⟨rfl, h1, h2, h3, .inr ⟨rfl, .inr ⟨h1, h3, .inr ⟨h1, h3, z⟩⟩⟩⟩
theorem sc__law_even : FnScope ["told", "due"] ["told", "due"] (defScope s__law_even) := ⟨rfl, rfl, rfl, by decide +kernel, rfl, by decide +kernel, by decide +kernel⟩
theorem ok__law_even {P : Program} {w : World} {K : Fg} {mg : Str → Option Value} {base : Heap} (T : Tx K mg) : HasD P w K mg base PJ "_law_even" (defArgs s__law_even) 1 ["told", "due"] P__law_even := by
  obtain ⟨f, fd, hm0, F⟩ := T.d__law_even
  exact ⟨f, fd, _, _, hm0, F, fnD_of (N := ["told", "due"]) F sc__law_even fun cdv A outer s H E g Ex hr hG hm hP hE tk => ⟨t__law_even Ex,
    (qss_one (qs_ret (QE.bb (qe_and (qe_cmp (opd_eqZ (un_of hr)) (QE.bb (qe_v 0)) (QE.bb (qe_v 1))) (qe_one (qe_cmp (opd_eqZ (un_of hr)) (QE.bb (by exact (qe_callB (cad_reprZ (un_of hr) hG) rfl T.n_repr boot_repr (qlb_cons (QE.bb (qe_v 0)) qlb_nil)))) (QE.bb (by exact (qe_callB (cad_reprZ (un_of hr) hG) rfl T.n_repr boot_repr (qlb_cons (QE.bb (qe_v 1)) qlb_nil)))))))))),
    fun as R hl h => pure__law_even as R Ex hl h⟩⟩
/-! ### _law_num -/
def P__law_num : FS := fun as R _ => ∃ d lo hi, as = [.val d, .val (.int lo), .val (.int hi)] ∧ R (.bool (between d lo hi))
def t__law_num (Ex : Exc → Prop) : TrS := (qRet (qAndV (qIsi PyData.isInt (qV 0)) (qAndV (qNotV (qIsi PyData.isBool (qV 0))) (qChain oLe oLe (qV 1) (qV 0) (qV 2)))))
theorem pure__law_num (as : List Sl) (R : D → Prop) (Ex : Exc → Prop) (hl : as.length = 3) (h : P__law_num as R Ex) : t__law_num Ex (fnE R) (startD ["thing", "least", "most"] as) := by
  obtain ⟨d, lo, hi, rfl, h⟩ := h
  simp [t__law_num, qRepL, qRev, qRet, qRetN, qAndV, qOrV, qNotV, qIsi, qV, qVB, qC, qNil, qCons, qANil, qACons, qAPrs, qTup, qLst, qOp, qBl, qChain, qUn, qTr, qAnd, qOr, qNot, qIf, qCa, qSl, qSo, qNo, qMt, qMt0, qCall, cal, qCallK, qNext, qSeq, qExp, qIfS, qAsg, and_assoc, qPar, qOwn, qFrz, qApp, qLstN, qListN, qLenE, qLenL, qLcE, qLcL, noOwn, iSeq, iRg1, iRg2, iZp, iEn, iEnT, qYes, qRaise, qTry, hdX, suB, exIn, qXf, qPOwn, qPWh, qSetOwn, qSetWh, qSetIx, fnE, startD, notDict, lcB, wipeD, qPn, qPc, qDct, qRetF, qCallF, qCallP, qBrk, qCnt, truthyD, lenOk, itemsD, seqD]
  cases d with
  | int i =>
    simp [PyData.isInt, PyData.isBool, PL.between] at h ⊢
    by_cases h1 : lo ≤ i
    · simp [h1] at h ⊢; exact .inr h
    · simp [h1] at h ⊢; exact ⟨by omega, h⟩
  | _ => simp_all [PyData.isInt, PyData.isBool, PL.between]
theorem sc__law_num : FnScope ["thing", "least", "most"] ["thing", "least", "most"] (defScope s__law_num) := ⟨rfl, rfl, rfl, by decide +kernel, rfl, by decide +kernel, by decide +kernel⟩
theorem ok__law_num {P : Program} {w : World} {K : Fg} {mg : Str → Option Value} {base : Heap} (T : Tx K mg) : HasD P w K mg base PJ "_law_num" (defArgs s__law_num) 1 ["thing", "least", "most"] P__law_num := by
  obtain ⟨f, fd, hm0, F⟩ := T.d__law_num
  exact ⟨f, fd, _, _, hm0, F, fnD_of (N := ["thing", "least", "most"]) F sc__law_num fun cdv A outer s H E g Ex hr hG hm hP hE tk => ⟨t__law_num Ex,
    (qss_one (qs_ret (QE.bb (qe_and (by exact (qe_isi (f := PyData.isInt) (QE.bb (qe_v 0)) rfl rfl T.n_isinstance rfl T.n_int boot_int fun _ _ _ _ _ _ r h => PySem.W.isinstance_int_data r h)) (qe_and (qe_not (by exact (qe_isi (f := PyData.isBool) (QE.bb (qe_v 0)) rfl rfl T.n_isinstance rfl T.n_bool boot_bool fun _ _ _ _ _ _ r h => PySem.W.isinstance_bool_data r h))) (qe_one (qe_chain (opd_le (un_of hr)) (opd_le (un_of hr)) (QE.bb (qe_v 1)) (QE.bb (qe_v 0)) (QE.bb (qe_v 2))))))))),
    fun as R hl h => pure__law_num as R Ex hl h⟩⟩
/-! ### _law_is_things -/
def P__law_is_things : FS := fun as R _ => ∃ (d : D) (many most : Nat), as = [.val d, .val (.int many), .val (.int most)] ∧ Gt d ∧ R (.bool (isThings most many d))
def t__law_is_things (Ex : Exc → Prop) : TrS := (qSeq (qIfS (qOr (qNot (qTr (qIsi PyData.isTuple (qV 0)))) (qBl (qOp oGt (qCa cLen (qCons (qV 0) qNil)) (qV 1)))) (qRet (qC (.bool false))) qNext)
    (qSeq (qFor (iSeq (qLenE (qV 0))) (gNm 3) (qSeq (qIfS (qOr (qNot (qTr (qIsi PyData.isTuple (qV 3)))) (qOr (qBl (qOp oNe (qCa cLen (qCons (qV 3) qNil)) (qC (.int 2)))) (qOr (qNot (qTr (qIsi PyData.isStr (qOp oIx (qV 3) (qC (.int 0)))))) (qBl (qOp oNotIn (qOp oIx (qV 3) (qC (.int 0))) (qTup (qCons (qC (.str "a")) (qCons (qC (.str "b")) (qCons (qC (.str "c")) (qCons (qC (.str "x")) (qCons (qC (.str "y")) (qCons (qC (.str "z")) qNil)))))))))))) (qRet (qC (.bool false))) qNext)
    (qIfS (qNot (qTr (qCall (fun _ => Ex) (cal 3 P__law_num) (qACons (qOp oIx (qV 3) (qC (.int 1))) (qACons (qC (.int 0)) (qACons (qIf (qBl (qOp oIn (qOp oIx (qV 3) (qC (.int 0))) (qC (.str "abc")))) (qV 2) (qC (.int 0))) qANil)))))) (qRet (qC (.bool false))) qNext)))
    (qRet (qCa cAll (qCons (qLcE (qLcL [4, 5] (iZp (qLenL (qCons (qV 0) (qCons (qSl (qV 0) (qSo (qC (.int 1))) qNo) qNil)))) (gTp 2 (gNc (gNm 4) (gNc (gNm 5) gN0))) qYes (qOp oLe (qV 4) (qV 5)))) qNil)))))
theorem kinds_any (x : Str) : ([sg 97, sg 98, sg 99, sg 120, sg 121, sg 122].any fun y => PyData.eqv y (.str x)) = isKind (.str x) := by
  obtain ⟨l, rfl⟩ := tx_ex x
  by_cases h : l.length = 1
  · obtain ⟨c, rfl⟩ : ∃ c, l = [c] := by
      match l, h with
      | [c], _ => exact ⟨c, rfl⟩
    have e : isKind (.str (tx [c])) = decide (c ∈ [97, 98, 99, 120, 121, 122]) := isKind_of c
    rw [e]
    have e2 : ∀ a : Nat, PyData.eqv (sg a) (.str (tx [c])) = decide (a = c) := fun a => eqv_sg a c
    simp only [List.any_cons, List.any_nil, e2]
    rw [Bool.eq_iff_iff]
    simp
    omega
  · have e : isKind (.str (tx l)) = false := by
      show (decide ((tx l).length = 1) && _) = false
      rw [tx_len, decide_eq_false h]; rfl
    rw [e]
    have e2 : ∀ a : Nat, PyData.eqv (sg a) (.str (tx l)) = false := fun a => by
      have : PyData.eqv (sg a) (.str (tx l)) = decide ([a] = l) := eqv_tx [a] l
      rw [this]
      refine decide_eq_false fun z => h ?_
      rw [← z]; rfl
    simp only [List.any_cons, List.any_nil, e2, Bool.or_self]
theorem pure__law_is_things (as : List Sl) (R : D → Prop) (Ex : Exc → Prop) (hl : as.length = 3) (h : P__law_is_things as R Ex) : t__law_is_things Ex (fnE R) (startD ["thing", "many", "most", "own", "one", "two"] as) := by
  obtain ⟨d, many, most, rfl, g, h⟩ := h
  have hS : 100000 ≤ sizeLine := by rw [sizeLine_eq]; decide
  have h6S : 6 ≤ sizeLine := by omega
  cases d with
  | tuple xs =>
    have g : Gd (.tuple xs) := g xs rfl
    rw [all_isThings] at h
    unfold t__law_is_things
    by_cases hm : many < xs.length
    · refine if_of (fun b => b = true) (fun K hK => ?_) (fun _ => ?_) (fun z => by cases z)
      · simp [qRepL, qRev, qRet, qRetN, qAndV, qOrV, qNotV, qIsi, qV, qVB, qC, qNil, qCons, qANil, qACons, qAPrs, qTup, qLst, qOp, qBl, qChain, qUn, qTr, qAnd, qOr, qNot, qIf, qCa, qSl, qSo, qNo, qMt, qMt0, qCall, cal, qCallK, qNext, qSeq, qExp, qIfS, qAsg, and_assoc, qPar, qOwn, qFrz, qApp, qLstN, qListN, qLenE, qLenL, qLcE, qLcL, noOwn, iSeq, iRg1, iRg2, iZp, iEn, iEnT, qYes, qRaise, qTry, hdX, suB, exIn, qXf, qPOwn, qPWh, qSetOwn, qSetWh, qSetIx, fnE, startD, notDict, lcB, wipeD, qPn, qPc, qDct, qRetF, qCallF, qCallP, qBrk, qCnt, truthyD, lenOk, itemsD, seqD, PyData.isTuple, cLen]
        exact .inr ⟨by omega, hK _ rfl⟩
      · rw [decide_eq_false (by omega)] at h
        simp [qRepL, qRev, qRet, qRetN, qAndV, qOrV, qNotV, qIsi, qV, qVB, qC, qNil, qCons, qANil, qACons, qAPrs, qTup, qLst, qOp, qBl, qChain, qUn, qTr, qAnd, qOr, qNot, qIf, qCa, qSl, qSo, qNo, qMt, qMt0, qCall, cal, qCallK, qNext, qSeq, qExp, qIfS, qAsg, and_assoc, qPar, qOwn, qFrz, qApp, qLstN, qListN, qLenE, qLenL, qLcE, qLcL, noOwn, iSeq, iRg1, iRg2, iZp, iEn, iEnT, qYes, qRaise, qTry, hdX, suB, exIn, qXf, qPOwn, qPWh, qSetOwn, qSetWh, qSetIx, fnE, startD, notDict, lcB, wipeD, qPn, qPc, qDct, qRetF, qCallF, qCallP, qBrk, qCnt, truthyD, lenOk, itemsD, seqD]
        exact h
    refine ifn_of (fun K hK => ?_) ?_
    · simp [qRepL, qRev, qRet, qRetN, qAndV, qOrV, qNotV, qIsi, qV, qVB, qC, qNil, qCons, qANil, qACons, qAPrs, qTup, qLst, qOp, qBl, qChain, qUn, qTr, qAnd, qOr, qNot, qIf, qCa, qSl, qSo, qNo, qMt, qMt0, qCall, cal, qCallK, qNext, qSeq, qExp, qIfS, qAsg, and_assoc, qPar, qOwn, qFrz, qApp, qLstN, qListN, qLenE, qLenL, qLcE, qLcL, noOwn, iSeq, iRg1, iRg2, iZp, iEn, iEnT, qYes, qRaise, qTry, hdX, suB, exIn, qXf, qPOwn, qPWh, qSetOwn, qSetWh, qSetIx, fnE, startD, notDict, lcB, wipeD, qPn, qPc, qDct, qRetF, qCallF, qCallP, qBrk, qCnt, truthyD, lenOk, itemsD, seqD, PyData.isTuple, cLen]
      exact .inl ⟨by omega, hK⟩
    rw [decide_eq_true (by omega : xs.length ≤ many), Bool.true_and] at h
    refine seq_for (fun ds => ds = xs) (fun rest ρ => ∃ (p : List D) (s3 : Sl), xs = p ++ rest ∧ p.all (isThing most) = true ∧ ρ = [.val (.tuple xs), .val (.int many), .val (.int most), s3, .no, .no]) (fun J hJ => ?_) (fun ds hd => ?_) (fun ρ' h' => ?_) (fun d rest ρ' h' => ?_)
    · simp [qRepL, qRev, qRet, qRetN, qAndV, qOrV, qNotV, qIsi, qV, qVB, qC, qNil, qCons, qANil, qACons, qAPrs, qTup, qLst, qOp, qBl, qChain, qUn, qTr, qAnd, qOr, qNot, qIf, qCa, qSl, qSo, qNo, qMt, qMt0, qCall, cal, qCallK, qNext, qSeq, qExp, qIfS, qAsg, and_assoc, qPar, qOwn, qFrz, qApp, qLstN, qListN, qLenE, qLenL, qLcE, qLcL, noOwn, iSeq, iRg1, iRg2, iZp, iEn, iEnT, qYes, qRaise, qTry, hdX, suB, exIn, qXf, qPOwn, qPWh, qSetOwn, qSetWh, qSetIx, fnE, startD, notDict, lcB, wipeD, qPn, qPc, qDct, qRetF, qCallF, qCallP, qBrk, qCnt, truthyD, lenOk, itemsD, seqD]
      exact fun _ => hJ _ rfl
    · exact ⟨[], _, by simpa using hd.symm, rfl, rfl⟩
    · obtain ⟨p, s3, e, ha, rfl⟩ := h'
      obtain rfl : xs = p := by simpa using e
      obtain ⟨ts, rfl, _⟩ := things_of ha
      rw [ha, Bool.true_and] at h
      simp [qRepL, qRev, qRet, qRetN, qAndV, qOrV, qNotV, qIsi, qV, qVB, qC, qNil, qCons, qANil, qACons, qAPrs, qTup, qLst, qOp, qBl, qChain, qUn, qTr, qAnd, qOr, qNot, qIf, qCa, qSl, qSo, qNo, qMt, qMt0, qCall, cal, qCallK, qNext, qSeq, qExp, qIfS, qAsg, and_assoc, qPar, qOwn, qFrz, qApp, qLstN, qListN, qLenE, qLenL, qLcE, qLcL, noOwn, iSeq, iRg1, iRg2, iZp, iEn, iEnT, qYes, qRaise, qTry, hdX, suB, exIn, qXf, qPOwn, qPWh, qSetOwn, qSetWh, qSetIx, fnE, startD, notDict, lcB, wipeD, qPn, qPc, qDct, qRetF, qCallF, qCallP, qBrk, qCnt, truthyD, lenOk, itemsD, seqD, oSl, zip_cut]
      intro hz1 _
      refine ⟨by omega, lcD_map (fun p : D × D => .tuple [p.1, p.2]) (fun p => .bool (!PySem.W.dataLt p.2 p.1)) rfl (fun p hp k hk => ?_) ?_⟩
      · obtain ⟨a, b⟩ := p
        obtain ⟨p1, p2⟩ := zip_tail_mem hp
        obtain ⟨t, _, rfl⟩ := List.mem_map.mp p1
        obtain ⟨u, _, rfl⟩ := List.mem_map.mp p2
        simp [qRepL, qRev, qRet, qRetN, qAndV, qOrV, qNotV, qIsi, qV, qVB, qC, qNil, qCons, qANil, qACons, qAPrs, qTup, qLst, qOp, qBl, qChain, qUn, qTr, qAnd, qOr, qNot, qIf, qCa, qSl, qSo, qNo, qMt, qMt0, qCall, cal, qCallK, qNext, qSeq, qExp, qIfS, qAsg, and_assoc, qPar, qOwn, qFrz, qApp, qLstN, qListN, qLenE, qLenL, qLcE, qLcL, noOwn, iSeq, iRg1, iRg2, iZp, iEn, iEnT, qYes, qRaise, qTry, hdX, suB, exIn, qXf, qPOwn, qPWh, qSetOwn, qSetWh, qSetIx, fnE, startD, notDict, lcB, wipeD, qPn, qPc, qDct, qRetF, qCallF, qCallP, qBrk, qCnt, truthyD, lenOk, itemsD, seqD, oLe, thAlC]
        exact hk
      · rw [cAll_map]
        exact ⟨trivial, h⟩
    · obtain ⟨p, s3, e, ha, rfl⟩ := h'
      have gd : Gd d := Gd.mem (.inl g) (by rw [e]; simp)
      have bad : isThing most d = false → R (.bool false) := fun z => by
        have : xs.all (isThing most) = false := by
          rw [e, List.all_append, List.all_cons, z]; simp
        rw [this] at h; exact h
      refine if_of (fun b => (b = true ∧ isThing most d = false) ∨ (b = false ∧ ∃ k v, d = .tuple [k, v] ∧ isKind k = true)) (fun K hK => ?_) (fun z => ?_) (fun z => ?_)
      · have badK : isThing most d = false → K true := fun z => hK _ (.inl ⟨rfl, z⟩)
        cases d with
        | tuple ys =>
          match ys, gd, badK with
          | [], _, badK => simp [qRepL, qRev, qRet, qRetN, qAndV, qOrV, qNotV, qIsi, qV, qVB, qC, qNil, qCons, qANil, qACons, qAPrs, qTup, qLst, qOp, qBl, qChain, qUn, qTr, qAnd, qOr, qNot, qIf, qCa, qSl, qSo, qNo, qMt, qMt0, qCall, cal, qCallK, qNext, qSeq, qExp, qIfS, qAsg, and_assoc, qPar, qOwn, qFrz, qApp, qLstN, qListN, qLenE, qLenL, qLcE, qLcL, noOwn, iSeq, iRg1, iRg2, iZp, iEn, iEnT, qYes, qRaise, qTry, hdX, suB, exIn, qXf, qPOwn, qPWh, qSetOwn, qSetWh, qSetIx, fnE, startD, notDict, lcB, wipeD, qPn, qPc, qDct, qRetF, qCallF, qCallP, qBrk, qCnt, truthyD, lenOk, itemsD, seqD, PyData.isTuple, cLen]; exact badK rfl
          | [k], _, badK => simp [qRepL, qRev, qRet, qRetN, qAndV, qOrV, qNotV, qIsi, qV, qVB, qC, qNil, qCons, qANil, qACons, qAPrs, qTup, qLst, qOp, qBl, qChain, qUn, qTr, qAnd, qOr, qNot, qIf, qCa, qSl, qSo, qNo, qMt, qMt0, qCall, cal, qCallK, qNext, qSeq, qExp, qIfS, qAsg, and_assoc, qPar, qOwn, qFrz, qApp, qLstN, qListN, qLenE, qLenL, qLcE, qLcL, noOwn, iSeq, iRg1, iRg2, iZp, iEn, iEnT, qYes, qRaise, qTry, hdX, suB, exIn, qXf, qPOwn, qPWh, qSetOwn, qSetWh, qSetIx, fnE, startD, notDict, lcB, wipeD, qPn, qPc, qDct, qRetF, qCallF, qCallP, qBrk, qCnt, truthyD, lenOk, itemsD, seqD, PyData.isTuple, cLen]; exact badK rfl
          | k :: v :: w :: r, _, badK =>
            simp [qRepL, qRev, qRet, qRetN, qAndV, qOrV, qNotV, qIsi, qV, qVB, qC, qNil, qCons, qANil, qACons, qAPrs, qTup, qLst, qOp, qBl, qChain, qUn, qTr, qAnd, qOr, qNot, qIf, qCa, qSl, qSo, qNo, qMt, qMt0, qCall, cal, qCallK, qNext, qSeq, qExp, qIfS, qAsg, and_assoc, qPar, qOwn, qFrz, qApp, qLstN, qListN, qLenE, qLenL, qLcE, qLcL, noOwn, iSeq, iRg1, iRg2, iZp, iEn, iEnT, qYes, qRaise, qTry, hdX, suB, exIn, qXf, qPOwn, qPWh, qSetOwn, qSetWh, qSetIx, fnE, startD, notDict, lcB, wipeD, qPn, qPc, qDct, qRetF, qCallF, qCallP, qBrk, qCnt, truthyD, lenOk, itemsD, seqD, PyData.isTuple, cLen]
            exact .inr ⟨by omega, badK rfl⟩
          | [k, v], gd, badK =>
            have gk : Gd k := Gd.mem (.inl gd) (by simp)
            have go : isKind k = true → K false := fun z => hK _ (.inr ⟨rfl, k, v, rfl, z⟩)
            have nk : isKind k = false → K true := fun z => badK (by simp [isThing, z])
            cases k with
            | str x =>
              simp [qRepL, qRev, qRet, qRetN, qAndV, qOrV, qNotV, qIsi, qV, qVB, qC, qNil, qCons, qANil, qACons, qAPrs, qTup, qLst, qOp, qBl, qChain, qUn, qTr, qAnd, qOr, qNot, qIf, qCa, qSl, qSo, qNo, qMt, qMt0, qCall, cal, qCallK, qNext, qSeq, qExp, qIfS, qAsg, and_assoc, qPar, qOwn, qFrz, qApp, qLstN, qListN, qLenE, qLenL, qLcE, qLcL, noOwn, iSeq, iRg1, iRg2, iZp, iEn, iEnT, qYes, qRaise, qTry, hdX, suB, exIn, qXf, qPOwn, qPWh, qSetOwn, qSetWh, qSetIx, fnE, startD, notDict, lcB, wipeD, qPn, qPc, qDct, qRetF, qCallF, qCallP, qBrk, qCnt, truthyD, lenOk, itemsD, seqD, PyData.isTuple, PyData.isStr, cLen, oIx, atI, ixN, st_0, st_1, st_2, st_3, st_4, st_5, st_6, st_7, st_8, st_9, st_10, st_11, st_12, st_13, st_14, st_15, st_16, st_17, st_18, st_19, st_20, st_21, st_22, st_23, st_24, st_25, st_26, st_27, st_28, st_29, st_30, st_31, st_32, st_33, st_34, st_35, st_36, st_37, st_38, st_39, st_40, st_41, st_42, st_43, st_44, st_45, st_46, st_47, st_48, st_49, st_50, st_51, st_52, st_53, st_54, st_55, h6S]
              have pl : PyData.plainAll [sg 97, sg 98, sg 99, sg 120, sg 121, sg 122] = true := rfl
              refine ⟨⟨pl, rfl, by simp [PyData.depth]⟩, ?_⟩
              rw [kinds_any]
              rcases bool_cases (isKind (.str x)) with z | z
              · rw [z]; exact .inl ⟨rfl, go z⟩
              · rw [z]; exact .inr ⟨rfl, nk z⟩
            | _ =>
              simp [qRepL, qRev, qRet, qRetN, qAndV, qOrV, qNotV, qIsi, qV, qVB, qC, qNil, qCons, qANil, qACons, qAPrs, qTup, qLst, qOp, qBl, qChain, qUn, qTr, qAnd, qOr, qNot, qIf, qCa, qSl, qSo, qNo, qMt, qMt0, qCall, cal, qCallK, qNext, qSeq, qExp, qIfS, qAsg, and_assoc, qPar, qOwn, qFrz, qApp, qLstN, qListN, qLenE, qLenL, qLcE, qLcL, noOwn, iSeq, iRg1, iRg2, iZp, iEn, iEnT, qYes, qRaise, qTry, hdX, suB, exIn, qXf, qPOwn, qPWh, qSetOwn, qSetWh, qSetIx, fnE, startD, notDict, lcB, wipeD, qPn, qPc, qDct, qRetF, qCallF, qCallP, qBrk, qCnt, truthyD, lenOk, itemsD, seqD, PyData.isTuple, PyData.isStr, cLen, oIx, atI, ixN]
              exact nk rfl
        | _ =>
          simp [qRepL, qRev, qRet, qRetN, qAndV, qOrV, qNotV, qIsi, qV, qVB, qC, qNil, qCons, qANil, qACons, qAPrs, qTup, qLst, qOp, qBl, qChain, qUn, qTr, qAnd, qOr, qNot, qIf, qCa, qSl, qSo, qNo, qMt, qMt0, qCall, cal, qCallK, qNext, qSeq, qExp, qIfS, qAsg, and_assoc, qPar, qOwn, qFrz, qApp, qLstN, qListN, qLenE, qLenL, qLcE, qLcL, noOwn, iSeq, iRg1, iRg2, iZp, iEn, iEnT, qYes, qRaise, qTry, hdX, suB, exIn, qXf, qPOwn, qPWh, qSetOwn, qSetWh, qSetIx, fnE, startD, notDict, lcB, wipeD, qPn, qPc, qDct, qRetF, qCallF, qCallP, qBrk, qCnt, truthyD, lenOk, itemsD, seqD, PyData.isTuple]
          exact badK rfl
      · rcases z with ⟨_, z⟩ | ⟨z, _⟩
        · simp [qRepL, qRev, qRet, qRetN, qAndV, qOrV, qNotV, qIsi, qV, qVB, qC, qNil, qCons, qANil, qACons, qAPrs, qTup, qLst, qOp, qBl, qChain, qUn, qTr, qAnd, qOr, qNot, qIf, qCa, qSl, qSo, qNo, qMt, qMt0, qCall, cal, qCallK, qNext, qSeq, qExp, qIfS, qAsg, and_assoc, qPar, qOwn, qFrz, qApp, qLstN, qListN, qLenE, qLenL, qLcE, qLcL, noOwn, iSeq, iRg1, iRg2, iZp, iEn, iEnT, qYes, qRaise, qTry, hdX, suB, exIn, qXf, qPOwn, qPWh, qSetOwn, qSetWh, qSetIx, fnE, startD, notDict, lcB, wipeD, qPn, qPc, qDct, qRetF, qCallF, qCallP, qBrk, qCnt, truthyD, lenOk, itemsD, seqD]; exact bad z
        · cases z
      · rcases z with ⟨z, _⟩ | ⟨_, k, v, rfl, hk⟩
        · cases z
        obtain ⟨c, rfl, hc⟩ := isKind_sg hk
        refine nx_of (rest := qIfS _ _ _) ?_
        have eth : isThing most (.tuple [sg c, v]) = between v 0 (if ag c = true then (most : Int) else 0) := by
          show (isKind (sg c) && between v 0 (if isAging (sg c) then (most : Int) else 0)) = _
          rw [hk, Bool.true_and, isAging_ag]
        have fin : ∀ b : Bool, isThing most (.tuple [sg c, v]) = b → if (!b) = true then R (.bool false) else ∃ p s3, xs = p ++ rest ∧ p.all (isThing most) = true ∧ [Sl.val (.tuple xs), .val (.int many), .val (.int most), .val (.tuple [sg c, v]), .no, .no] = [.val (.tuple xs), .val (.int many), .val (.int most), s3, .no, .no] := fun b hb => by
          cases b with
          | true => exact ⟨p ++ [.tuple [sg c, v]], _, by rw [e]; simp, by rw [List.all_append, ha]; simp [hb], rfl⟩
          | false => exact bad hb
        have go : isThing most (.tuple [sg c, v]) = true → ∃ p, xs = p ++ rest ∧ ∀ (x : D), x ∈ p → isThing most x = true := fun hb =>
          ⟨p ++ [.tuple [sg c, v]], by rw [e]; simp, fun x hx => by
            rcases List.mem_append.mp hx with hx | hx
            · exact List.all_eq_true.mp ha x hx
            · simp at hx; rw [hx]; exact hb⟩
        simp [qRepL, qRev, qRet, qRetN, qAndV, qOrV, qNotV, qIsi, qV, qVB, qC, qNil, qCons, qANil, qACons, qAPrs, qTup, qLst, qOp, qBl, qChain, qUn, qTr, qAnd, qOr, qNot, qIf, qCa, qSl, qSo, qNo, qMt, qMt0, qCall, cal, qCallK, qNext, qSeq, qExp, qIfS, qAsg, and_assoc, qPar, qOwn, qFrz, qApp, qLstN, qListN, qLenE, qLenL, qLcE, qLcL, noOwn, iSeq, iRg1, iRg2, iZp, iEn, iEnT, qYes, qRaise, qTry, hdX, suB, exIn, qXf, qPOwn, qPWh, qSetOwn, qSetWh, qSetIx, fnE, startD, notDict, lcB, wipeD, qPn, qPc, qDct, qRetF, qCallF, qCallP, qBrk, qCnt, truthyD, lenOk, itemsD, seqD, P__law_num, oIx, atI, ixN, oIn, ag_of]
        rcases bool_cases (ag c) with hc2 | hc2
        · rw [hc2, if_pos rfl] at eth
          rw [if_pos hc2]
          rcases bool_cases (between v 0 (most : Int)) with hb | hb
          · rw [if_pos hb]; exact go (eth.trans hb)
          · rw [if_neg (by rw [hb]; exact Bool.false_ne_true)]; exact bad (eth.trans hb)
        · rw [hc2, if_neg Bool.false_ne_true] at eth
          rw [if_neg (by rw [hc2]; exact Bool.false_ne_true)]
          rcases bool_cases (between v 0 0) with hb | hb
          · rw [if_pos hb]; exact go (eth.trans hb)
          · rw [if_neg (by rw [hb]; exact Bool.false_ne_true)]; exact bad (eth.trans hb)
  | _ =>
    unfold t__law_is_things
    refine if_of (fun b => b = true) (fun K hK => ?_) (fun _ => ?_) (fun z => by cases z)
    · simp [qRepL, qRev, qRet, qRetN, qAndV, qOrV, qNotV, qIsi, qV, qVB, qC, qNil, qCons, qANil, qACons, qAPrs, qTup, qLst, qOp, qBl, qChain, qUn, qTr, qAnd, qOr, qNot, qIf, qCa, qSl, qSo, qNo, qMt, qMt0, qCall, cal, qCallK, qNext, qSeq, qExp, qIfS, qAsg, and_assoc, qPar, qOwn, qFrz, qApp, qLstN, qListN, qLenE, qLenL, qLcE, qLcL, noOwn, iSeq, iRg1, iRg2, iZp, iEn, iEnT, qYes, qRaise, qTry, hdX, suB, exIn, qXf, qPOwn, qPWh, qSetOwn, qSetWh, qSetIx, fnE, startD, notDict, lcB, wipeD, qPn, qPc, qDct, qRetF, qCallF, qCallP, qBrk, qCnt, truthyD, lenOk, itemsD, seqD, PyData.isTuple]
      exact hK _ rfl
    · simp [qRepL, qRev, qRet, qRetN, qAndV, qOrV, qNotV, qIsi, qV, qVB, qC, qNil, qCons, qANil, qACons, qAPrs, qTup, qLst, qOp, qBl, qChain, qUn, qTr, qAnd, qOr, qNot, qIf, qCa, qSl, qSo, qNo, qMt, qMt0, qCall, cal, qCallK, qNext, qSeq, qExp, qIfS, qAsg, and_assoc, qPar, qOwn, qFrz, qApp, qLstN, qListN, qLenE, qLenL, qLcE, qLcL, noOwn, iSeq, iRg1, iRg2, iZp, iEn, iEnT, qYes, qRaise, qTry, hdX, suB, exIn, qXf, qPOwn, qPWh, qSetOwn, qSetWh, qSetIx, fnE, startD, notDict, lcB, wipeD, qPn, qPc, qDct, qRetF, qCallF, qCallP, qBrk, qCnt, truthyD, lenOk, itemsD, seqD]
      exact h
theorem sc__law_is_things : FnScope ["thing", "many", "most", "own", "one", "two"] ["thing", "many", "most"] (defScope s__law_is_things) := ⟨rfl, rfl, rfl, by decide +kernel, rfl, by decide +kernel, by decide +kernel⟩
theorem ok__law_is_things {P : Program} {w : World} {K : Fg} {mg : Str → Option Value} {base : Heap} (T : Tx K mg) : HasD P w K mg base PJ "_law_is_things" (defArgs s__law_is_things) 2 ["thing", "many", "most"] P__law_is_things := by
  obtain ⟨f, fd, hm0, F⟩ := T.d__law_is_things
  exact ⟨f, fd, _, _, hm0, F, fnD_of (N := ["thing", "many", "most", "own", "one", "two"]) F sc__law_is_things fun cdv A outer s H E g Ex hr hG hm hP hE tk => ⟨t__law_is_things Ex,
    (qss_cons (qs_if (qt_w (qw_or (qt_not (qt_of (QE.bb (by exact (qe_isi (f := PyData.isTuple) (QE.bb (qe_v 0)) rfl rfl T.n_isinstance rfl T.n_tuple boot_tuple fun _ _ _ _ _ _ r h => PySem.W.isinstance_tuple_data r h))))) (qw_or1 (qt_cmp (opd_gt (un_of hr)) (QE.bb (by exact (qe_callB cad_len rfl T.n_len boot_len (qlb_cons (QE.bb (qe_v 0)) qlb_nil)))) (QE.bb (qe_v 1)))))) (qss_one (qs_ret (QE.bb qe_bl))) qss_nil)
    (qss_cons (qs_for (passes_of rfl) rfl (qi_seq (qe_len (qe_v 0))) (qg_name 3 sc__law_is_things.nd) (qss_cons (qs_if (qt_w (qw_or (qt_not (qt_of (QE.bb (by exact (qe_isi (f := PyData.isTuple) (QE.bb (qe_v 3)) rfl rfl T.n_isinstance rfl T.n_tuple boot_tuple fun _ _ _ _ _ _ r h => PySem.W.isinstance_tuple_data r h))))) (qw_or (qt_cmp (opd_ne (un_of hr)) (QE.bb (by exact (qe_callB cad_len rfl T.n_len boot_len (qlb_cons (QE.bb (qe_v 3)) qlb_nil)))) (QE.bb qe_int)) (qw_or (qt_not (qt_of (QE.bb (by exact (qe_isi (f := PyData.isStr) (QE.bb (qe_ix (QE.bb (qe_v 3)) (QE.bb qe_int) (fun _ _ => rfl))) rfl rfl T.n_isinstance rfl T.n_str boot_str fun _ _ _ _ _ _ r h => PySem.W.isinstance_str_data r h))))) (qw_or1 (qt_cmp (opd_notIn (un_of hr)) (QE.bb (qe_ix (QE.bb (qe_v 3)) (QE.bb qe_int) (fun _ _ => rfl))) (QE.bb (qe_tup (ql_cons qe_str (ql_cons qe_str (ql_cons qe_str (ql_cons qe_str (ql_cons qe_str (ql_cons qe_str ql_nil)))))))))))))) (qss_one (qs_ret (QE.bb qe_bl))) qss_nil)
    (qss_one (qs_if (qt_not (qt_of (QE.bb (by exact (qe_callH (ps := ["thing", "least", "most"]) hE hP (ok__law_num T) bd__law_num (hr.mono (by decide)) hG hm tk rfl (qa_cons (qe_ix (QE.bb (qe_v 3)) (QE.bb qe_int) (fun _ _ => rfl)) (qa_cons qe_int (qa_cons (qe_if (qt_cmp (opd_in (un_of hr)) (QE.bb (qe_ix (QE.bb (qe_v 3)) (QE.bb qe_int) (fun _ _ => rfl))) (QE.bb qe_str)) (qe_v 2) qe_int) qa_nil)))))))) (qss_one (qs_ret (QE.bb qe_bl))) qss_nil))))
    (qss_one (qs_ret (QE.bb (by exact (qe_callB (cad_all rfl) rfl T.n_all boot_all (qlb_cons (QE.bb (by exact (QN.qe (qn_lc (own := [("one", 4), ("two", 5)]) rfl sc__law_is_things.nd (by exact (qi_zip rfl T.n_zip (ql_len (ql_cons (qe_v 0) (ql_cons (qe_slice (QE.bb (qe_v 0)) (qo_some (QE.bb qe_int)) qo_none) ql_nil))))) (by exact blkOk_by (N := ["thing", "many", "most", "own", "one", "two"]) (sc := defScope s__law_is_things) (own := [("one", 4), ("two", 5)]) (by decide +kernel)) (fun s H C cl fp hd => by exact (qgy_tup rfl (qgs_cons (qg_name 4 sc__law_is_things.nd) (qgs_cons (qg_name 5 sc__law_is_things.nd) qgs_nil)))) (fun s H C cl fp hd => by exact qts_nil) (fun s H C cl fp hd => by exact (qe_cmp (opd_le (un_of hr)) (QE.bb (qe_v 4)) (QE.bb (qe_v 5)))))))) qlb_nil)))))))),
    fun as R hl h => pure__law_is_things as R Ex hl h⟩⟩
/-! ### _law_bag -/
def P__law_bag : FS := fun as R _ => ∃ ts, as = [.val (hallD ts)] ∧ R (hallD (bagT ts))
def t__law_bag (Ex : Exc → Prop) : TrS := (qRet (qCa cTup (qCons (qCa cSorted (qCons (qLcE (qLcL [1, 2] (iSeq (qLenE (qV 0))) (gTp 2 (gNc (gNm 1) (gNc (gNm 2) gN0))) qYes (qTup (qCons (qV 1) (qCons (qCa cMin2 (qCons (qV 2) (qCons (qC (.int 4)) qNil))) qNil))))) qNil)) qNil)))
theorem pure__law_bag (as : List Sl) (R : D → Prop) (Ex : Exc → Prop) (hl : as.length = 1) (h : P__law_bag as R Ex) : t__law_bag Ex (fnE R) (startD ["hall", "kind", "age"] as) := by
  obtain ⟨ts, rfl, h⟩ := h
  simp [t__law_bag, qRepL, qRev, qRet, qRetN, qAndV, qOrV, qNotV, qIsi, qV, qVB, qC, qNil, qCons, qANil, qACons, qAPrs, qTup, qLst, qOp, qBl, qChain, qUn, qTr, qAnd, qOr, qNot, qIf, qCa, qSl, qSo, qNo, qMt, qMt0, qCall, cal, qCallK, qNext, qSeq, qExp, qIfS, qAsg, and_assoc, qPar, qOwn, qFrz, qApp, qLstN, qListN, qLenE, qLenL, qLcE, qLcL, noOwn, iSeq, iRg1, iRg2, iZp, iEn, iEnT, qYes, qRaise, qTry, hdX, suB, exIn, qXf, qPOwn, qPWh, qSetOwn, qSetWh, qSetIx, fnE, startD, notDict, lcB, wipeD, qPn, qPc, qDct, qRetF, qCallF, qCallP, qBrk, qCnt, truthyD, lenOk, itemsD, seqD, hallD]
  intro hz
  refine ⟨hz, lcD_map thD (fun x => thD (bag1 x)) rfl (fun x hx k hk => ?_) ?_⟩
  · simp [qRepL, qRev, qRet, qRetN, qAndV, qOrV, qNotV, qIsi, qV, qVB, qC, qNil, qCons, qANil, qACons, qAPrs, qTup, qLst, qOp, qBl, qChain, qUn, qTr, qAnd, qOr, qNot, qIf, qCa, qSl, qSo, qNo, qMt, qMt0, qCall, cal, qCallK, qNext, qSeq, qExp, qIfS, qAsg, and_assoc, qPar, qOwn, qFrz, qApp, qLstN, qListN, qLenE, qLenL, qLcE, qLcL, noOwn, iSeq, iRg1, iRg2, iZp, iEn, iEnT, qYes, qRaise, qTry, hdX, suB, exIn, qXf, qPOwn, qPWh, qSetOwn, qSetWh, qSetIx, fnE, startD, notDict, lcB, wipeD, qPn, qPc, qDct, qRetF, qCallF, qCallP, qBrk, qCnt, truthyD, lenOk, itemsD, seqD, thD]
    refine ⟨by rw [sizeLine_eq]; decide, ?_⟩
    have e : ((min x.2 4 : Nat) : Int) = min (x.2 : Int) 4 := by omega
    rw [← e]; exact hk
  · exact cSort_of (ts := ts.map bag1) (.inl (by simp)) (by simpa [hallD, bagT] using h)
theorem sc__law_bag : FnScope ["hall", "kind", "age"] ["hall"] (defScope s__law_bag) := ⟨rfl, rfl, rfl, by decide +kernel, rfl, by decide +kernel, by decide +kernel⟩
theorem ok__law_bag {P : Program} {w : World} {K : Fg} {mg : Str → Option Value} {base : Heap} (T : Tx K mg) : HasD P w K mg base PJ "_law_bag" (defArgs s__law_bag) 1 ["hall"] P__law_bag := by
  obtain ⟨f, fd, hm0, F⟩ := T.d__law_bag
  exact ⟨f, fd, _, _, hm0, F, fnD_of (N := ["hall", "kind", "age"]) F sc__law_bag fun cdv A outer s H E g Ex hr hG hm hP hE tk => ⟨t__law_bag Ex,
    (qss_one (qs_ret (QE.bb (by exact (qe_callTy cad_tuple rfl T.n_tuple boot_tuple (qlb_cons (QE.bb (by exact (qe_callB (cad_sorted (un_of hr)) rfl T.n_sorted boot_sorted (qlb_cons (QE.bb (by exact (QN.qe (qn_lc (own := [("kind", 1), ("age", 2)]) rfl sc__law_bag.nd (by exact (QI.y (qi_seq (qe_len (qe_v 0))))) (by exact blkOk_by (N := ["hall", "kind", "age"]) (sc := defScope s__law_bag) (own := [("kind", 1), ("age", 2)]) (by decide +kernel)) (fun s H C cl fp hd => by exact (qgy_tup rfl (qgs_cons (qg_name 1 sc__law_bag.nd) (qgs_cons (qg_name 2 sc__law_bag.nd) qgs_nil)))) (fun s H C cl fp hd => by exact qts_nil) (fun s H C cl fp hd => by exact (qe_tup (ql_cons (qe_v 1) (ql_cons (by exact (qe_callB (cad_min2 rfl) rfl T.n_min boot_min (qlb_cons (QE.bb (qe_v 2)) (qlb_cons (QE.bb qe_int) qlb_nil)))) ql_nil)))))))) qlb_nil)))) qlb_nil)))))),
    fun as R hl h => pure__law_bag as R Ex hl h⟩⟩
/-! ### _law_text -/
def P__law_text : FS := fun as R _ => ∃ (ts : List Th), ((as = [.val (hallD ts), .val (.int 4)] ∧ (∀ t ∈ ts, okT 4 t) ∧ R (stD (hallTx txtS ts))) ∨ (as = [.val (hallD ts), .val (.int (-1))] ∧ (∀ t ∈ ts, okT 9999 t) ∧ R (stD (hallTx txtT ts)))) ∧ ts.length ≤ 100
def t__law_text (Ex : Exc → Prop) : TrS := (qSeq (qAsg (qLcE (qLcL [3, 4] (iSeq (qLenE (qV 0))) (gTp 2 (gNc (gNm 3) (gNc (gNm 4) gN0))) qYes (qOp oAdd (qV 3) (qIf (qBl (qOp oIn (qV 3) (qC (.str "xyz")))) (qC (.str "")) (qIf (qBl (qOp oEq (qV 4) (qV 1))) (qC (.str "4+")) (qCa cStr (qCons (qV 4) qNil))))))) (gNm 2))
    (qRet (qIf (qBl (qOp oNe (qV 2) (qLst qNil))) (qMt "str" m_join (qC (.str " ")) (qCons (qV 2) qNil)) (qC (.str "-")))))
theorem pure__law_text (as : List Sl) (R : D → Prop) (Ex : Exc → Prop) (hl : as.length = 2) (h : P__law_text as R Ex) : t__law_text Ex (fnE R) (startD ["hall", "most", "found", "kind", "age"] as) := by
  obtain ⟨ts, h, hz⟩ := h
  have hS : 100000 ≤ sizeLine := by rw [sizeLine_eq]; decide
  obtain ⟨f, m, i, W, rfl, ho, hm, hi, hf, h⟩ : ∃ (f : Th → List Nat) (m : Nat) (i : Int), Wr m f ∧ as = [.val (hallD ts), .val (.int i)] ∧ (∀ t ∈ ts, okT m t) ∧ m ≤ 9999 ∧ (i = 4 ∨ i = -1) ∧ (∀ t, f t = if ag t.1 = true ∧ (t.2 : Int) = i then [t.1, 52, 43] else txtT t) ∧ R (stD (hallTx f ts)) := by
    rcases h with ⟨h1, h2, h3⟩ | ⟨h1, h2, h3⟩
    · refine ⟨txtS, 4, 4, wrS, h1, h2, by decide, .inl rfl, fun t => ?_, h3⟩
      unfold txtS
      have : (t.2 = 4) = ((t.2 : Int) = 4) := by rw [eq_iff_iff]; omega
      simp only [this]
    · refine ⟨txtT, 9999, -1, wrT (by decide), h1, h2, by decide, .inr rfl, fun t => ?_, h3⟩
      rw [if_neg]
      rintro ⟨_, z⟩
      omega
  unfold t__law_text
  refine asg_of (fun d => d = .list ((ts.map f).map stD)) (fun K hK => ?_) ?_
  · simp [qRepL, qRev, qRet, qRetN, qAndV, qOrV, qNotV, qIsi, qV, qVB, qC, qNil, qCons, qANil, qACons, qAPrs, qTup, qLst, qOp, qBl, qChain, qUn, qTr, qAnd, qOr, qNot, qIf, qCa, qSl, qSo, qNo, qMt, qMt0, qCall, cal, qCallK, qNext, qSeq, qExp, qIfS, qAsg, and_assoc, qPar, qOwn, qFrz, qApp, qLstN, qListN, qLenE, qLenL, qLcE, qLcL, noOwn, iSeq, iRg1, iRg2, iZp, iEn, iEnT, qYes, qRaise, qTry, hdX, suB, exIn, qXf, qPOwn, qPWh, qSetOwn, qSetWh, qSetIx, fnE, startD, notDict, lcB, wipeD, qPn, qPc, qDct, qRetF, qCallF, qCallP, qBrk, qCnt, truthyD, lenOk, itemsD, seqD, hallD]
    refine fun hz => ⟨hz, lcD_map thD (fun t => stD (f t)) rfl (fun t ht k hk => ?_) ?_⟩
    · have sgn := sign_of (ho t ht)
      have e1 : (⟨#[t.1]⟩ : Str) = tx [t.1] := rfl
      simp [qRepL, qRev, qRet, qRetN, qAndV, qOrV, qNotV, qIsi, qV, qVB, qC, qNil, qCons, qANil, qACons, qAPrs, qTup, qLst, qOp, qBl, qChain, qUn, qTr, qAnd, qOr, qNot, qIf, qCa, qSl, qSo, qNo, qMt, qMt0, qCall, cal, qCallK, qNext, qSeq, qExp, qIfS, qAsg, and_assoc, qPar, qOwn, qFrz, qApp, qLstN, qListN, qLenE, qLenL, qLcE, qLcL, noOwn, iSeq, iRg1, iRg2, iZp, iEn, iEnT, qYes, qRaise, qTry, hdX, suB, exIn, qXf, qPOwn, qPWh, qSetOwn, qSetWh, qSetIx, fnE, startD, notDict, lcB, wipeD, qPn, qPc, qDct, qRetF, qCallF, qCallP, qBrk, qCnt, truthyD, lenOk, itemsD, seqD, thD, oIn]
      rw [sgn]
      obtain ⟨c, a⟩ := t
      have hf1 := hf (c, a)
      have e1 : (⟨#[c]⟩ : Str) = tx [c] := rfl
      have plus : Str.ofString "4+" = tx [52, 43] := by decide +kernel
      have e0 : Str.ofString "" = tx [] := by decide +kernel
      rcases ok_ag (ho (c, a) ht) with ⟨q1, q2⟩ | ⟨q1, q2⟩
      · rw [if_neg (by rw [q1]; decide)]
        by_cases hai : (a : Int) = i
        · refine .inr ⟨hai, ?_⟩
          rw [if_pos ⟨q1, hai⟩] at hf1
          rw [plus]
          refine (oAdd_st [c] [52, 43] _).mpr ⟨by simp; omega, ?_⟩
          rw [hf1] at hk; exact hk
        · refine .inl ⟨hai, ?_⟩
          rw [if_neg (fun z => hai z.2), txtT_ag (t := (c, a)) q1] at hf1
          have q2 : a ≤ m := q2
          refine .inl ⟨_, rfl, by rw [Int.natAbs_natCast]; exact log2_lt (by omega), ?_⟩
          rw [dg_str]
          have d1 : (dg a).length ≤ 4 := dg_len (by decide) (by omega)
          refine (oAdd_st [c] (dg a) _).mpr ⟨by simp; omega, ?_⟩
          rw [hf1] at hk; exact hk
      · rw [if_pos (by rw [q1]; decide)]
        rw [if_neg (fun z => by rw [q1] at z; cases z.1), txtT_sg (t := (c, a)) q1] at hf1
        rw [e0]
        refine (oAdd_st [c] [] _).mpr ⟨by simp; omega, ?_⟩
        rw [hf1] at hk; exact hk
    · have e : ts.map (fun t => stD (f t)) = (ts.map f).map stD := by rw [List.map_map]; rfl
      rw [e]
      exact hK _ rfl
  rintro _ rfl
  have pl : PyData.plainAll ((ts.map f).map stD) = true := by
    have : ∀ ws : List (List Nat), PyData.plainAll (ws.map stD) = true := fun ws => by
      induction ws with
      | nil => rfl
      | cons w ws ih => simp [PyData.plainAll, PyData.plain, ih]
    exact this _
  have ne : (!PyData.eqv (.list ((ts.map f).map stD)) (.list [])) = !decide (ts = []) := by
    cases ts <;> simp [PyData.eqv, PyData.eqvAll]
  have hne : oNe (.list ((ts.map f).map stD)) (.list []) = fun R => R (.bool (!decide (ts = []))) := by
    funext R
    have e : oNe (.list ((ts.map f).map stD)) (.list []) R = (((PyData.list ((ts.map f).map stD)).plain = true ∧ (PyData.list []).plain = true ∧ min (PyData.list ((ts.map f).map stD)).depth (PyData.list []).depth ≤ 60) ∧ R (.bool (!PyData.eqv (.list ((ts.map f).map stD)) (.list [])))) := rfl
    rw [e, ne, eq_iff_iff]
    refine ⟨fun z => z.2, fun z => ⟨⟨by simpa [PyData.plain] using pl, rfl, by simp [PyData.depth, PyData.depthAll]⟩, z⟩⟩
  simp [qRepL, qRev, qRet, qRetN, qAndV, qOrV, qNotV, qIsi, qV, qVB, qC, qNil, qCons, qANil, qACons, qAPrs, qTup, qLst, qOp, qBl, qChain, qUn, qTr, qAnd, qOr, qNot, qIf, qCa, qSl, qSo, qNo, qMt, qMt0, qCall, cal, qCallK, qNext, qSeq, qExp, qIfS, qAsg, and_assoc, qPar, qOwn, qFrz, qApp, qLstN, qListN, qLenE, qLenL, qLcE, qLcL, noOwn, iSeq, iRg1, iRg2, iZp, iEn, iEnT, qYes, qRaise, qTry, hdX, suB, exIn, qXf, qPOwn, qPWh, qSetOwn, qSetWh, qSetIx, fnE, startD, notDict, lcB, wipeD, qPn, qPc, qDct, qRetF, qCallF, qCallP, qBrk, qCnt, truthyD, lenOk, itemsD, seqD, st_0, st_1, st_2, st_3, st_4, st_5, st_6, st_7, st_8, st_9, st_10, st_11, st_12, st_13, st_14, st_15, st_16, st_17, st_18, st_19, st_20, st_21, st_22, st_23, st_24, st_25, st_26, st_27, st_28, st_29, st_30, st_31, st_32, st_33, st_34, st_35, st_36, st_37, st_38, st_39, st_40, st_41, st_42, st_43, st_44, st_45, st_46, st_47, st_48, st_49, st_50, st_51, st_52, st_53, st_54, st_55, tyD, -List.map_map, hne]
  unfold hallTx at h
  by_cases hn : ts = []
  · subst hn
    simp at h ⊢
    exact h
  · rw [if_neg hn] at h
    refine .inr ⟨hn, join32_of (by simp; omega) (fun w hw => ?_) ⟨trivial, h⟩ _ (.inl rfl)⟩
    obtain ⟨t, ht, rfl⟩ := List.mem_map.mp hw
    obtain ⟨r, e, _, hl, _⟩ := W.hd t (ho t ht)
    rw [e]; simp; omega
theorem sc__law_text : FnScope ["hall", "most", "found", "kind", "age"] ["hall", "most"] (defScope s__law_text) := ⟨rfl, rfl, rfl, by decide +kernel, rfl, by decide +kernel, by decide +kernel⟩
theorem ok__law_text {P : Program} {w : World} {K : Fg} {mg : Str → Option Value} {base : Heap} (T : Tx K mg) : HasD P w K mg base PJ "_law_text" (defArgs s__law_text) 1 ["hall", "most"] P__law_text := by
  obtain ⟨f, fd, hm0, F⟩ := T.d__law_text
  exact ⟨f, fd, _, _, hm0, F, fnD_of (N := ["hall", "most", "found", "kind", "age"]) F sc__law_text fun cdv A outer s H E g Ex hr hG hm hP hE tk => ⟨t__law_text Ex,
    (qss_cons (qs_setLc (own := [("kind", 3), ("age", 4)]) 2 rfl sc__law_text.nd (sw_true rfl rfl rfl rfl) (by exact (QI.y (qi_seq (qe_len (qe_v 0))))) (by exact blkOk_by (N := ["hall", "most", "found", "kind", "age"]) (sc := defScope s__law_text) (own := [("kind", 3), ("age", 4)]) (by decide +kernel)) (fun s H C cl fp hd => by exact (qgy_tup rfl (qgs_cons (qg_name 3 sc__law_text.nd) (qgs_cons (qg_name 4 sc__law_text.nd) qgs_nil)))) (fun s H C cl fp hd => by exact qts_nil) (fun s H C cl fp hd => by exact (qe_op opd_add (QE.bb (qe_v 3)) (QE.bb (qe_if (qt_cmp (opd_in (un_of hr)) (QE.bb (qe_v 3)) (QE.bb qe_str)) qe_str (qe_if (qt_cmp (opd_eq (un_of hr)) (QE.bb (qe_v 4)) (QE.bb (qe_v 1))) qe_str (by exact (qe_callTy cad_str rfl T.n_str boot_str (qlb_cons (QE.bb (qe_v 4)) qlb_nil)))))))))
    (qss_one (qs_ret (QE.bb (qe_if (qt_cmp (opd_ne (un_of hr)) (QE.bb (qe_v 2)) (QE.bb (qe_lst ql_nil))) (by exact (qe_bm mtd_join (QE.bb qe_str) (qlb_cons (QE.bb (qe_v 2)) qlb_nil) PySem.F.plainAttrs_str PySem.F.slot_str_join PySem.F.type_str_join)) qe_str))))),
    fun as R hl h => pure__law_text as R Ex hl h⟩⟩
/-! ### _law_hall -/
def P__law_hall : FS := fun as R _ => ∃ many : Nat, as = [.prs, .val (.int many)] ∧ many ≤ 60 ∧ ∀ ts, Hall 9999 many ts → R (hallD ts)
def t__law_hall (Ex : Exc → Prop) : TrS := (qSeq (qOwn 2 (qLstN qNil))
    (qSeq (qFor (iRg1 (qCons (qCall (fun _ => Ex) (cal 2 P__law_out) (qAPrs 0 (qACons (qOp oAdd (qV 1) (qC (.int 1))) qANil))) qNil)) (gNm 3) (qSeq (qAsg (qCall (fun _ => Ex) (cal 2 P__law_of) (qAPrs 0 (qACons (qC (.str "abcabcaxyz")) qANil))) (gNm 4))
    (qSeq (qApp 2 (qTup (qCons (qV 4) (qCons (qIf (qBl (qOp oIn (qV 4) (qC (.str "abc")))) (qCall (fun _ => Ex) (cal 2 P__law_of) (qAPrs 0 (qACons (qTup (qCons (qC (.int 0)) (qCons (qC (.int 0)) (qCons (qC (.int 1)) (qCons (qC (.int 1)) (qCons (qC (.int 2)) (qCons (qC (.int 3)) (qCons (qC (.int 4)) (qCons (qC (.int 5)) (qCons (qC (.int 8)) (qCons (qCall (fun _ => Ex) (cal 2 P__law_out) (qAPrs 0 (qACons (qC (.int 9999)) qANil))) qNil))))))))))) qANil))) (qC (.int 0))) qNil))))
    (qIfS (qAnd (qBl (qOp oEq (qCall (fun _ => Ex) (cal 2 P__law_out) (qAPrs 0 (qACons (qC (.int 5)) qANil))) (qC (.int 0)))) (qBl (qOp oLt (qCa cLen (qCons (qVB 2) qNil)) (qV 1)))) (qApp 2 (qOp oIx (qVB 2) (qUn oNeg (qC (.int 1))))) qNext))))
    (qFrz 2 (qRet (qCa cTup (qCons (qCa cSorted (qCons (qSl (qV 2) qNo (qSo (qV 1))) qNil)) qNil))))))
theorem pure__law_hall (as : List Sl) (R : D → Prop) (Ex : Exc → Prop) (hl : as.length = 2) (h : P__law_hall as R Ex) : t__law_hall Ex (fnE R) (startD ["press", "many", "found", "part", "kind"] as) := by
  obtain ⟨many, rfl, hm, h⟩ := h
  simp [t__law_hall, qRepL, qRev, qRet, qRetN, qAndV, qOrV, qNotV, qIsi, qV, qVB, qC, qNil, qCons, qANil, qACons, qAPrs, qTup, qLst, qOp, qBl, qChain, qUn, qTr, qAnd, qOr, qNot, qIf, qCa, qSl, qSo, qNo, qMt, qMt0, qCall, cal, qCallK, qNext, qSeq, qExp, qIfS, qAsg, and_assoc, qPar, qOwn, qFrz, qApp, qLstN, qListN, qLenE, qLenL, qLcE, qLcL, noOwn, iSeq, iRg1, iRg2, iZp, iEn, iEnT, qYes, qRaise, qTry, hdX, suB, exIn, qXf, qPOwn, qPWh, qSetOwn, qSetWh, qSetIx, fnE, startD, notDict, lcB, wipeD, qPn, qPc, qDct, qRetF, qCallF, qCallP, qBrk, qCnt, truthyD, lenOk, itemsD, seqD, P__law_out]
  refine for_of (fun ds => ds.length ≤ 60) (fun rest ρ => ∃ (ts : List Th) (s3 s4 : Sl), ρ = [.prs, .val (.int many), .own (ts.map thD), s3, s4] ∧ (∀ t ∈ ts, okT 9999 t) ∧ ts.length + 2 * rest.length ≤ 200) (fun J hJ => ?_) (fun ds hd => ?_) (fun ρ' h' => ?_) (fun d rest ρ' h' => ?_)
  · simp [qRepL, qRev, qRet, qRetN, qAndV, qOrV, qNotV, qIsi, qV, qVB, qC, qNil, qCons, qANil, qACons, qAPrs, qTup, qLst, qOp, qBl, qChain, qUn, qTr, qAnd, qOr, qNot, qIf, qCa, qSl, qSo, qNo, qMt, qMt0, qCall, cal, qCallK, qNext, qSeq, qExp, qIfS, qAsg, and_assoc, qPar, qOwn, qFrz, qApp, qLstN, qListN, qLenE, qLenL, qLcE, qLcL, noOwn, iSeq, iRg1, iRg2, iZp, iEn, iEnT, qYes, qRaise, qTry, hdX, suB, exIn, qXf, qPOwn, qPWh, qSetOwn, qSetWh, qSetIx, fnE, startD, notDict, lcB, wipeD, qPn, qPc, qDct, qRetF, qCallF, qCallP, qBrk, qCnt, truthyD, lenOk, itemsD, seqD, P__law_out]
    refine ⟨by omega, fun r h1 h2 => ⟨by omega, by omega, hJ _ ?_⟩⟩
    simp
    omega
  · exact ⟨[], _, _, rfl, by simp, by simp; omega⟩
  · obtain ⟨ts, s3, s4, rfl, ho, hz⟩ := h'
    simp [qRepL, qRev, qRet, qRetN, qAndV, qOrV, qNotV, qIsi, qV, qVB, qC, qNil, qCons, qANil, qACons, qAPrs, qTup, qLst, qOp, qBl, qChain, qUn, qTr, qAnd, qOr, qNot, qIf, qCa, qSl, qSo, qNo, qMt, qMt0, qCall, cal, qCallK, qNext, qSeq, qExp, qIfS, qAsg, and_assoc, qPar, qOwn, qFrz, qApp, qLstN, qListN, qLenE, qLenL, qLcE, qLcL, noOwn, iSeq, iRg1, iRg2, iZp, iEn, iEnT, qYes, qRaise, qTry, hdX, suB, exIn, qXf, qPOwn, qPWh, qSetOwn, qSetWh, qSetIx, fnE, startD, notDict, lcB, wipeD, qPn, qPc, qDct, qRetF, qCallF, qCallP, qBrk, qCnt, truthyD, lenOk, itemsD, seqD, oSl]
    exact cSort_of (ts := ts.take many) (.inl (by rw [cut_map])) (by
      simp
      exact h _ (hall_sort (fun t ht => ho t (List.mem_of_mem_take ht)) (by simp; omega)))
  · obtain ⟨ts, s3, s4, rfl, ho, hz⟩ := h'
    have hz' : ts.length + 2 + 2 * rest.length ≤ 200 := by simp at hz; omega
    simp only [gNm_, qSeq, qAsg]
    refine any_val (fun d => ∃ c, d = sg c ∧ (c ∈ [97, 98, 99] ∨ c ∈ [120, 121, 122])) (fun K hK => ?_) ?_
    · simp [qRepL, qRev, qRet, qRetN, qAndV, qOrV, qNotV, qIsi, qV, qVB, qC, qNil, qCons, qANil, qACons, qAPrs, qTup, qLst, qOp, qBl, qChain, qUn, qTr, qAnd, qOr, qNot, qIf, qCa, qSl, qSo, qNo, qMt, qMt0, qCall, cal, qCallK, qNext, qSeq, qExp, qIfS, qAsg, and_assoc, qPar, qOwn, qFrz, qApp, qLstN, qListN, qLenE, qLenL, qLcE, qLcL, noOwn, iSeq, iRg1, iRg2, iZp, iEn, iEnT, qYes, qRaise, qTry, hdX, suB, exIn, qXf, qPOwn, qPWh, qSetOwn, qSetWh, qSetIx, fnE, startD, notDict, lcB, wipeD, qPn, qPc, qDct, qRetF, qCallF, qCallP, qBrk, qCnt, truthyD, lenOk, itemsD, seqD, P__law_of]
      refine ⟨by decide, by decide, fun x hx => ?_⟩
      obtain ⟨c, rfl, hc⟩ := kinds_of hx
      exact ⟨trivial, hK _ ⟨c, rfl, hc⟩⟩
    rintro _ ⟨c, rfl, hc⟩
    simp only [gNm_, qApp]
    refine ⟨ts.map thD, rfl, any_val (fun d => ∃ t, d = thD t ∧ okT 9999 t) (fun K hK => ?_) ?_⟩
    · simp [qRepL, qRev, qRet, qRetN, qAndV, qOrV, qNotV, qIsi, qV, qVB, qC, qNil, qCons, qANil, qACons, qAPrs, qTup, qLst, qOp, qBl, qChain, qUn, qTr, qAnd, qOr, qNot, qIf, qCa, qSl, qSo, qNo, qMt, qMt0, qCall, cal, qCallK, qNext, qSeq, qExp, qIfS, qAsg, and_assoc, qPar, qOwn, qFrz, qApp, qLstN, qListN, qLenE, qLenL, qLcE, qLcL, noOwn, iSeq, iRg1, iRg2, iZp, iEn, iEnT, qYes, qRaise, qTry, hdX, suB, exIn, qXf, qPOwn, qPWh, qSetOwn, qSetWh, qSetIx, fnE, startD, notDict, lcB, wipeD, qPn, qPc, qDct, qRetF, qCallF, qCallP, qBrk, qCnt, truthyD, lenOk, itemsD, seqD, oIn, ag_of, P__law_of, P__law_out]
      have hk : ∀ a : Nat, okT 9999 (c, a) → K (.tuple [sg c, .int a]) := fun a ha => hK _ ⟨(c, a), rfl, ha⟩
      have h2 : 2 ≤ sizeLine ∧ 10 ≤ sizeLine := by rw [sizeLine_eq]; decide
      rcases hc with hc | hc
      · rw [if_pos (ag_yes hc)]
        intro r h0 h1
        have hy : ∀ a : Nat, a ≤ 9999 → K (.tuple [sg c, .int a]) := fun a ha => hk a (.inl ⟨hc, ha⟩)
        refine ⟨h2.2, h2.1, hy 0 (by decide), h2.1, hy 1 (by decide), h2.1, hy 2 (by decide), h2.1, hy 3 (by decide), h2.1, hy 4 (by decide), h2.1, hy 5 (by decide), h2.1, hy 8 (by decide), h2.1, ?_⟩
        have := hy r.toNat (by omega)
        rwa [Int.toNat_of_nonneg h0] at this
      · rw [if_neg (by rw [ag_not hc]; simp)]
        exact ⟨h2.1, hk 0 (.inr ⟨hc, rfl⟩)⟩
    rintro _ ⟨t, rfl, ht⟩
    simp [qRepL, qRev, qRet, qRetN, qAndV, qOrV, qNotV, qIsi, qV, qVB, qC, qNil, qCons, qANil, qACons, qAPrs, qTup, qLst, qOp, qBl, qChain, qUn, qTr, qAnd, qOr, qNot, qIf, qCa, qSl, qSo, qNo, qMt, qMt0, qCall, cal, qCallK, qNext, qSeq, qExp, qIfS, qAsg, and_assoc, qPar, qOwn, qFrz, qApp, qLstN, qListN, qLenE, qLenL, qLcE, qLcL, noOwn, iSeq, iRg1, iRg2, iZp, iEn, iEnT, qYes, qRaise, qTry, hdX, suB, exIn, qXf, qPOwn, qPWh, qSetOwn, qSetWh, qSetIx, fnE, startD, notDict, lcB, wipeD, qPn, qPc, qDct, qRetF, qCallF, qCallP, qBrk, qCnt, truthyD, lenOk, itemsD, seqD, P__law_out]
    have hs : 1000 ≤ sizeLine := by rw [sizeLine_eq]; decide
    have one : ∃ us : List Th, ts.map thD ++ [thD t] = us.map thD ∧ (∀ a b : Nat, (a, b) ∈ us → okT 9999 (a, b)) ∧ us.length + 2 * rest.length ≤ 200 := by
      refine ⟨ts ++ [t], by simp, fun a b hm => ?_, by simp; omega⟩
      rcases List.mem_append.mp hm with hm | hm
      · exact ho _ hm
      · simp at hm; rw [hm]; exact ht
    refine ⟨by omega, fun r h0 h1 => ?_⟩
    rcases (by omega : ¬ r = 0 ∨ r = 0 ∧ many ≤ ts.length + 1 ∨ r = 0 ∧ ts.length + 1 < many) with h | ⟨h, h3⟩ | ⟨h, h3⟩
    · exact .inl ⟨h, one⟩
    · exact .inr ⟨h, .inl ⟨h3, one⟩⟩
    · refine .inr ⟨h, .inr ⟨h3, ?_⟩⟩
      have e : atI (ts.map thD ++ [thD t]) (-1) = some (thD t) := by
        have : ixN (ts.map thD ++ [thD t]).length (-1) = some ts.length := by
          unfold ixN
          rw [if_neg (by decide), List.length_append, List.length_map, if_pos (by simp; omega)]
          simp
          omega
        unfold atI
        rw [this]
        simp
      simp [oNeg, oIx, e]
      refine ⟨by omega, ts ++ [t, t], by simp, fun a b hm => ?_, by simp; omega⟩
      rcases List.mem_append.mp hm with hm | hm
      · exact ho _ hm
      · simp at hm; rw [hm]; exact ht
theorem sc__law_hall : FnScope ["press", "many", "found", "part", "kind"] ["press", "many"] (defScope s__law_hall) := ⟨rfl, rfl, rfl, by decide +kernel, rfl, by decide +kernel, by decide +kernel⟩
theorem ok__law_hall {P : Program} {w : World} {K : Fg} {mg : Str → Option Value} {base : Heap} (T : Tx K mg) : HasD P w K mg base PJ "_law_hall" (defArgs s__law_hall) 3 ["press", "many"] P__law_hall := by
  obtain ⟨f, fd, hm0, F⟩ := T.d__law_hall
  exact ⟨f, fd, _, _, hm0, F, fnD_of (N := ["press", "many", "found", "part", "kind"]) F sc__law_hall fun cdv A outer s H E g Ex hr hG hm hP hE tk => ⟨t__law_hall Ex,
    (qss_cons (qs_own 2 (qn_lst ql_nil) sc__law_hall.nd)
    (qss_cons (qs_for (passes_of rfl) rfl (qi_range1 rfl T.n_range (qlb_cons (QE.bb (by exact (qe_callH (ps := ["press", "many"]) hE hP (ok__law_out T) bd__law_out (hr.mono (by decide)) hG hm tk rfl (qa_prs 0 (qa_cons (qe_op opd_add (QE.bb (qe_v 1)) (QE.bb qe_int)) qa_nil))))) qlb_nil)) (qg_name 3 sc__law_hall.nd) (qss_cons (qs_set 4 (by exact (qe_callH (ps := ["press", "things"]) hE hP (ok__law_of T) bd__law_of (hr.mono (by decide)) hG hm tk rfl (qa_prs 0 (qa_cons qe_str qa_nil)))) sc__law_hall.nd)
    (qss_cons (qs_append 2 (qe_tup (ql_cons (qe_v 4) (ql_cons (qe_if (qt_cmp (opd_in (un_of hr)) (QE.bb (qe_v 4)) (QE.bb qe_str)) (by exact (qe_callH (ps := ["press", "things"]) hE hP (ok__law_of T) bd__law_of (hr.mono (by decide)) hG hm tk rfl (qa_prs 0 (qa_cons (qe_tup (ql_cons qe_int (ql_cons qe_int (ql_cons qe_int (ql_cons qe_int (ql_cons qe_int (ql_cons qe_int (ql_cons qe_int (ql_cons qe_int (ql_cons qe_int (ql_cons (by exact (qe_callH (ps := ["press", "many"]) hE hP (ok__law_out T) bd__law_out (hr.mono (by decide)) hG hm tk rfl (qa_prs 0 (qa_cons qe_int qa_nil)))) ql_nil))))))))))) qa_nil)))) qe_int) ql_nil))))
    (qss_one (qs_if (qt_w (qw_and (qt_cmp (opd_eq (un_of hr)) (QE.bb (by exact (qe_callH (ps := ["press", "many"]) hE hP (ok__law_out T) bd__law_out (hr.mono (by decide)) hG hm tk rfl (qa_prs 0 (qa_cons qe_int qa_nil))))) (QE.bb qe_int)) (qw_and1 (qt_cmp (opd_lt (un_of hr)) (QE.bb (by exact (qe_callB cad_len rfl T.n_len boot_len (qlb_cons (qb_v 2) qlb_nil)))) (QE.bb (qe_v 1)))))) (qss_one (qs_append 2 (qe_ix (qb_v 2) (QE.bb (qe_un und_neg (QE.bb qe_int))) (fun _ _ => rfl)))) qss_nil)))))
    (qss_frz 2 (qss_one (qs_ret (QE.bb (by exact (qe_callTy cad_tuple rfl T.n_tuple boot_tuple (qlb_cons (QE.bb (by exact (qe_callB (cad_sorted (un_of hr)) rfl T.n_sorted boot_sorted (qlb_cons (QE.bb (qe_slice (QE.bb (qe_v 2)) qo_none (qo_some (QE.bb (qe_v 1))))) qlb_nil)))) qlb_nil))))))))),
    fun as R hl h => pure__law_hall as R Ex hl h⟩⟩
/-! ### _law_sorts -/
def P__law_sorts : FS := fun as R _ => ∃ many : Nat, as = [.prs, .val (.int many)] ∧ many ≤ 60 ∧ ∀ ts, Hall 9999 many ts → R (hallD (bagT ts))
def t__law_sorts (Ex : Exc → Prop) : TrS := (qRet (qCall (fun _ => Ex) (cal 1 P__law_bag) (qACons (qCall (fun _ => Ex) (cal 2 P__law_hall) (qAPrs 0 (qACons (qV 1) qANil))) qANil)))
theorem pure__law_sorts (as : List Sl) (R : D → Prop) (Ex : Exc → Prop) (hl : as.length = 2) (h : P__law_sorts as R Ex) : t__law_sorts Ex (fnE R) (startD ["press", "many"] as) := by
  obtain ⟨many, rfl, hm, h⟩ := h
  simp [t__law_sorts, qRepL, qRev, qRet, qRetN, qAndV, qOrV, qNotV, qIsi, qV, qVB, qC, qNil, qCons, qANil, qACons, qAPrs, qTup, qLst, qOp, qBl, qChain, qUn, qTr, qAnd, qOr, qNot, qIf, qCa, qSl, qSo, qNo, qMt, qMt0, qCall, cal, qCallK, qNext, qSeq, qExp, qIfS, qAsg, and_assoc, qPar, qOwn, qFrz, qApp, qLstN, qListN, qLenE, qLenL, qLcE, qLcL, noOwn, iSeq, iRg1, iRg2, iZp, iEn, iEnT, qYes, qRaise, qTry, hdX, suB, exIn, qXf, qPOwn, qPWh, qSetOwn, qSetWh, qSetIx, fnE, startD, notDict, lcB, wipeD, qPn, qPc, qDct, qRetF, qCallF, qCallP, qBrk, qCnt, truthyD, lenOk, itemsD, seqD, P__law_bag, P__law_hall]
  exact ⟨_, rfl, hm, fun ts ht => ⟨_, rfl, trivial, h ts ht⟩⟩
theorem sc__law_sorts : FnScope ["press", "many"] ["press", "many"] (defScope s__law_sorts) := ⟨rfl, rfl, rfl, by decide +kernel, rfl, by decide +kernel, by decide +kernel⟩
theorem ok__law_sorts {P : Program} {w : World} {K : Fg} {mg : Str → Option Value} {base : Heap} (T : Tx K mg) : HasD P w K mg base PJ "_law_sorts" (defArgs s__law_sorts) 4 ["press", "many"] P__law_sorts := by
  obtain ⟨f, fd, hm0, F⟩ := T.d__law_sorts
  exact ⟨f, fd, _, _, hm0, F, fnD_of (N := ["press", "many"]) F sc__law_sorts fun cdv A outer s H E g Ex hr hG hm hP hE tk => ⟨t__law_sorts Ex,
    (qss_one (qs_ret (QE.bb (by exact (qe_callH (ps := ["hall"]) hE hP (ok__law_bag T) bd__law_bag (hr.mono (by decide)) hG hm tk rfl (qa_cons (by exact (qe_callH (ps := ["press", "many"]) hE hP (ok__law_hall T) bd__law_hall (hr.mono (by decide)) hG hm tk rfl (qa_prs 0 (qa_cons (qe_v 1) qa_nil)))) qa_nil)))))),
    fun as R hl h => pure__law_sorts as R Ex hl h⟩⟩
/-! ### _law_read -/
def P__law_read : FS := fun as R _ => ∃ (l : List Nat) (i : Int) (m many : Nat) (f : Th → List Nat), as = [.val (stD l), .val (.int i)] ∧ ((i = 4 ∧ m = 4 ∧ many = 20 ∧ f = txtS) ∨ (i = 10000 ∧ m = 9999 ∧ many = 60 ∧ f = txtT)) ∧ l.length ≤ 10000 ∧
  (∀ ts, Hall m many ts → l = hallTx f ts → R (hallD ts)) ∧ ((∀ ts, Hall m many ts → l ≠ hallTx f ts) → R .none)
def t__law_read (Ex : Exc → Prop) : TrS := (qSeq (qIfS (qNot (qTr (qIsi PyData.isStr (qV 0)))) (qRet (qC .none)) qNext)
    (qSeq (qOwn 2 (qLstN qNil))
    (qSeq (qFor (iSeq (qLenE (qIf (qBl (qOp oNe (qV 0) (qC (.str "-")))) (qMt "str" m_split (qV 0) (qCons (qC (.str " ")) qNil)) (qLst qNil)))) (gNm 3) (qSeq (qAsg (qSl (qV 3) (qSo (qC (.int 1))) qNo) (gNm 4))
    (qSeq (qAsg (qIf (qAnd (qBl (qOp oEq (qV 1) (qC (.int 4)))) (qBl (qOp oEq (qV 4) (qC (.str "4+"))))) (qSl (qV 4) qNo (qSo (qUn oNeg (qC (.int 1))))) (qV 4)) (gNm 4))
    (qSeq (qIfS (qOr (qBl (qOp oNotIn (qSl (qV 3) qNo (qSo (qC (.int 1)))) (qTup (qCons (qC (.str "a")) (qCons (qC (.str "b")) (qCons (qC (.str "c")) (qCons (qC (.str "x")) (qCons (qC (.str "y")) (qCons (qC (.str "z")) qNil))))))))) (qOr (qNot (qOr (qBl (qOp oEq (qV 4) (qC (.str "")))) (qTr (qCa cAll (qCons (qLcE (qLcL [5] (iSeq (qLenE (qV 4))) (gNm 5) qYes (qOp oIn (qV 5) (qC (.str "0123456789"))))) qNil))))) (qBl (qOp oGt (qCa cLen (qCons (qV 4) qNil)) (qC (.int 4)))))) (qRet (qC .none)) qNext)
    (qApp 2 (qTup (qCons (qSl (qV 3) qNo (qSo (qC (.int 1)))) (qCons (qIf (qBl (qOp oNe (qV 4) (qC (.str "")))) (qCa cInt (qCons (qV 4) qNil)) (qC (.int 0))) qNil))))))))
    (qFrz 2 (qSeq (qAsg (qCa cTup (qCons (qV 2) qNil)) (gNm 2))
    (qSeq (qAsg (qCall (fun _ => Ex) (cal 3 P__law_is_things) (qACons (qV 2) (qACons (qIf (qBl (qOp oGt (qV 1) (qC (.int 4)))) (qC (.int 60)) (qC (.int 20))) (qACons (qIf (qBl (qOp oGt (qV 1) (qC (.int 4)))) (qOp (oInt fun i j => i - j) (qV 1) (qC (.int 1))) (qC (.int 4))) qANil)))) (gNm 6))
    (qRet (qIf (qAnd (qTr (qV 6)) (qBl (qOp oEq (qCall (fun _ => Ex) (cal 2 P__law_text) (qACons (qV 2) (qACons (qIf (qBl (qOp oEq (qV 1) (qC (.int 4)))) (qV 1) (qUn oNeg (qC (.int 1)))) qANil))) (qV 0)))) (qV 2) (qC .none)))))))))
theorem pure__law_read (as : List Sl) (R : D → Prop) (Ex : Exc → Prop) (hl : as.length = 2) (h : P__law_read as R Ex) : t__law_read Ex (fnE R) (startD ["text", "most", "found", "word", "age", "sign", "fits"] as) := by
  obtain ⟨l, i, m, many, f, rfl, hi, hz, h1, h2⟩ := h
  have hS : 100000 ≤ sizeLine := by rw [sizeLine_eq]; decide
  have hz2 : l.length + 2 ≤ sizeLine := by omega
  have h0S : 0 ≤ sizeLine := by omega
  have h2S : 2 ≤ sizeLine := by omega
  have W : Way i m many f := by
    rcases hi with ⟨rfl, rfl, rfl, rfl⟩ | ⟨rfl, rfl, rfl, rfl⟩
    · exact wayS
    · exact wayT
  obtain ⟨ws, hws⟩ : ∃ ws, ws = if l = [45] then [] else splitL 32 l := ⟨_, rfl⟩
  have tells : ∀ ts, Hall m many ts → l = hallTx f ts → ws = ts.map f := fun ts hh e => by
    rw [hws]
    by_cases h45 : l = [45]
    · rw [if_pos h45]
      have := W.w.dash hh.ok (e ▸ h45)
      rw [this]; rfl
    · rw [if_neg h45]
      exact W.w.tells h45 hh.ok e
  have wl : ws.length ≤ 10001 ∧ ∀ w ∈ ws, w.length ≤ 10000 := by
    rw [hws]
    by_cases h45 : l = [45]
    · rw [if_pos h45]; simp
    · rw [if_neg h45]
      refine ⟨?_, fun w hw => ?_⟩
      · have := join_count 32 (splitL 32 l)
        rw [join_splitL] at this; omega
      · have := join_len (c := 32) hw
        rw [join_splitL] at this; omega
  unfold t__law_read
  refine ifn_of (fun K hK => ?_) ?_
  · simp [qRepL, qRev, qRet, qRetN, qAndV, qOrV, qNotV, qIsi, qV, qVB, qC, qNil, qCons, qANil, qACons, qAPrs, qTup, qLst, qOp, qBl, qChain, qUn, qTr, qAnd, qOr, qNot, qIf, qCa, qSl, qSo, qNo, qMt, qMt0, qCall, cal, qCallK, qNext, qSeq, qExp, qIfS, qAsg, and_assoc, qPar, qOwn, qFrz, qApp, qLstN, qListN, qLenE, qLenL, qLcE, qLcL, noOwn, iSeq, iRg1, iRg2, iZp, iEn, iEnT, qYes, qRaise, qTry, hdX, suB, exIn, qXf, qPOwn, qPWh, qSetOwn, qSetWh, qSetIx, fnE, startD, notDict, lcB, wipeD, qPn, qPc, qDct, qRetF, qCallF, qCallP, qBrk, qCnt, truthyD, lenOk, itemsD, seqD, PyData.isStr]
    exact hK
  refine own_nil ?_
  refine seq_for (fun ds => ds = ws.map stD) (fun rest ρ => ∃ (p r : List (List Nat)) (s3 s4 s6 : Sl), ws = p ++ r ∧ rest = r.map stD ∧ (∀ w ∈ p, goodW i w = true) ∧ ρ = [.val (stD l), .val (.int i), .own ((p.map (parW i)).map thD), s3, s4, .no, s6]) (fun J hJ => ?_) (fun ds hd => ?_) (fun ρ' h' => ?_) (fun d rest ρ' h' => ?_)
  · simp [qRepL, qRev, qRet, qRetN, qAndV, qOrV, qNotV, qIsi, qV, qVB, qC, qNil, qCons, qANil, qACons, qAPrs, qTup, qLst, qOp, qBl, qChain, qUn, qTr, qAnd, qOr, qNot, qIf, qCa, qSl, qSo, qNo, qMt, qMt0, qCall, cal, qCallK, qNext, qSeq, qExp, qIfS, qAsg, and_assoc, qPar, qOwn, qFrz, qApp, qLstN, qListN, qLenE, qLenL, qLcE, qLcL, noOwn, iSeq, iRg1, iRg2, iZp, iEn, iEnT, qYes, qRaise, qTry, hdX, suB, exIn, qXf, qPOwn, qPWh, qSetOwn, qSetWh, qSetIx, fnE, startD, notDict, lcB, wipeD, qPn, qPc, qDct, qRetF, qCallF, qCallP, qBrk, qCnt, truthyD, lenOk, itemsD, seqD, st_0, st_1, st_2, st_3, st_4, st_5, st_6, st_7, st_8, st_9, st_10, st_11, st_12, st_13, st_14, st_15, st_16, st_17, st_18, st_19, st_20, st_21, st_22, st_23, st_24, st_25, st_26, st_27, st_28, st_29, st_30, st_31, st_32, st_33, st_34, st_35, st_36, st_37, st_38, st_39, st_40, st_41, st_42, st_43, st_44, st_45, st_46, st_47, st_48, st_49, st_50, st_51, st_52, st_53, st_54, st_55, oNe_st, tyD, m_split, hz2, split_eq]
    by_cases h45 : l = [45]
    · refine .inl ⟨h45, hJ _ ?_⟩
      rw [hws, if_pos h45]; rfl
    · refine .inr ⟨h45, fun _ => hJ _ ?_⟩
      rw [hws, if_neg h45]; rfl
  · exact ⟨[], ws, _, _, _, rfl, hd, by simp, rfl⟩
  · obtain ⟨p, r, s3, s4, s6, e, er, hg, rfl⟩ := h'
    obtain rfl : r = [] := by simpa using er.symm
    obtain rfl : ws = p := by simpa using e
    refine ⟨_, rfl, ?_⟩
    refine asg_of (fun d => d = hallD (ws.map (parW i))) (fun K hK => ?_) ?_
    · simp [qRepL, qRev, qRet, qRetN, qAndV, qOrV, qNotV, qIsi, qV, qVB, qC, qNil, qCons, qANil, qACons, qAPrs, qTup, qLst, qOp, qBl, qChain, qUn, qTr, qAnd, qOr, qNot, qIf, qCa, qSl, qSo, qNo, qMt, qMt0, qCall, cal, qCallK, qNext, qSeq, qExp, qIfS, qAsg, and_assoc, qPar, qOwn, qFrz, qApp, qLstN, qListN, qLenE, qLenL, qLcE, qLcL, noOwn, iSeq, iRg1, iRg2, iZp, iEn, iEnT, qYes, qRaise, qTry, hdX, suB, exIn, qXf, qPOwn, qPWh, qSetOwn, qSetWh, qSetIx, fnE, startD, notDict, lcB, wipeD, qPn, qPc, qDct, qRetF, qCallF, qCallP, qBrk, qCnt, truthyD, lenOk, itemsD, seqD]
      simpa [hallD] using hK _ rfl
    rintro _ rfl
    obtain ⟨fo, hfo⟩ : ∃ fo, fo = ws.map (parW i) := ⟨_, rfl⟩
    rw [← hfo]
    have hit : ∀ ts, Hall m many ts → l = hallTx f ts → ts = fo := fun ts hh e => by
      have := tells ts hh e
      rw [hfo, this, (W.map hh.ok).2]
    have no : ¬ (Hall m many fo ∧ hallTx f fo = l) → R .none := fun hn => h2 fun ts hh e => hn (by
      rw [← hit ts hh e]; exact ⟨hh, e.symm⟩)
    have hi4 : (i = 4 ∧ m = 4 ∧ many = 20 ∧ f = txtS) ∨ (i = 10000 ∧ m = 9999 ∧ many = 60 ∧ f = txtT) := hi
    refine asg_of (fun d => d = .bool (isThings m many (hallD fo))) (fun K hK => ?_) ?_
    · have gt : Gt (hallD fo) := good_hall (most := m).t
      rcases hi4 with ⟨rfl, rfl, rfl, _⟩ | ⟨rfl, rfl, rfl, _⟩
      · simp [qRepL, qRev, qRet, qRetN, qAndV, qOrV, qNotV, qIsi, qV, qVB, qC, qNil, qCons, qANil, qACons, qAPrs, qTup, qLst, qOp, qBl, qChain, qUn, qTr, qAnd, qOr, qNot, qIf, qCa, qSl, qSo, qNo, qMt, qMt0, qCall, cal, qCallK, qNext, qSeq, qExp, qIfS, qAsg, and_assoc, qPar, qOwn, qFrz, qApp, qLstN, qListN, qLenE, qLenL, qLcE, qLcL, noOwn, iSeq, iRg1, iRg2, iZp, iEn, iEnT, qYes, qRaise, qTry, hdX, suB, exIn, qXf, qPOwn, qPWh, qSetOwn, qSetWh, qSetIx, fnE, startD, notDict, lcB, wipeD, qPn, qPc, qDct, qRetF, qCallF, qCallP, qBrk, qCnt, truthyD, lenOk, itemsD, seqD]
        exact ⟨hallD fo, 20, 4, rfl, gt, hK _ rfl⟩
      · simp [qRepL, qRev, qRet, qRetN, qAndV, qOrV, qNotV, qIsi, qV, qVB, qC, qNil, qCons, qANil, qACons, qAPrs, qTup, qLst, qOp, qBl, qChain, qUn, qTr, qAnd, qOr, qNot, qIf, qCa, qSl, qSo, qNo, qMt, qMt0, qCall, cal, qCallK, qNext, qSeq, qExp, qIfS, qAsg, and_assoc, qPar, qOwn, qFrz, qApp, qLstN, qListN, qLenE, qLenL, qLcE, qLcL, noOwn, iSeq, iRg1, iRg2, iZp, iEn, iEnT, qYes, qRaise, qTry, hdX, suB, exIn, qXf, qPOwn, qPWh, qSetOwn, qSetWh, qSetIx, fnE, startD, notDict, lcB, wipeD, qPn, qPc, qDct, qRetF, qCallF, qCallP, qBrk, qCnt, truthyD, lenOk, itemsD, seqD]
        exact ⟨hallD fo, 60, 9999, rfl, gt, hK _ rfl⟩
    rintro _ rfl
    have nd : notDict (hallD fo) := trivial
    rcases bool_cases (isThings m many (hallD fo)) with hb | hb
    · have hh := (isThings_hall _ _ _).mp hb
      rw [hb]
      have hlen := hh.len
      have key : P__law_text [.val (hallD fo), .val (.int (if i = 4 then 4 else -1))] (fun d => oEq d (stD l) fun d => d = .bool false ∧ R .none ∨ d = .bool true ∧ notDict (hallD fo) ∧ R (hallD fo)) Ex := by
        have fin : oEq (stD (hallTx f fo)) (stD l) fun d => d = .bool false ∧ R .none ∨ d = .bool true ∧ notDict (hallD fo) ∧ R (hallD fo) := by
          rw [oEq_st]
          by_cases he : hallTx f fo = l
          · exact .inr ⟨by rw [he]; simp, nd, h1 fo hh he.symm⟩
          · exact .inl ⟨by simp [he], no fun z => he z.2⟩
        rcases hi4 with ⟨rfl, rfl, rfl, rfl⟩ | ⟨rfl, rfl, rfl, rfl⟩
        · exact ⟨fo, .inl ⟨rfl, hh.ok, fin⟩, by omega⟩
        · exact ⟨fo, .inr ⟨rfl, hh.ok, fin⟩, by omega⟩
      rcases hi4 with ⟨rfl, rfl, rfl, rfl⟩ | ⟨rfl, rfl, rfl, rfl⟩
      · simp [qRepL, qRev, qRet, qRetN, qAndV, qOrV, qNotV, qIsi, qV, qVB, qC, qNil, qCons, qANil, qACons, qAPrs, qTup, qLst, qOp, qBl, qChain, qUn, qTr, qAnd, qOr, qNot, qIf, qCa, qSl, qSo, qNo, qMt, qMt0, qCall, cal, qCallK, qNext, qSeq, qExp, qIfS, qAsg, and_assoc, qPar, qOwn, qFrz, qApp, qLstN, qListN, qLenE, qLenL, qLcE, qLcL, noOwn, iSeq, iRg1, iRg2, iZp, iEn, iEnT, qYes, qRaise, qTry, hdX, suB, exIn, qXf, qPOwn, qPWh, qSetOwn, qSetWh, qSetIx, fnE, startD, notDict, lcB, wipeD, qPn, qPc, qDct, qRetF, qCallF, qCallP, qBrk, qCnt, truthyD, lenOk, itemsD, seqD]
        exact key
      · simp [qRepL, qRev, qRet, qRetN, qAndV, qOrV, qNotV, qIsi, qV, qVB, qC, qNil, qCons, qANil, qACons, qAPrs, qTup, qLst, qOp, qBl, qChain, qUn, qTr, qAnd, qOr, qNot, qIf, qCa, qSl, qSo, qNo, qMt, qMt0, qCall, cal, qCallK, qNext, qSeq, qExp, qIfS, qAsg, and_assoc, qPar, qOwn, qFrz, qApp, qLstN, qListN, qLenE, qLenL, qLcE, qLcL, noOwn, iSeq, iRg1, iRg2, iZp, iEn, iEnT, qYes, qRaise, qTry, hdX, suB, exIn, qXf, qPOwn, qPWh, qSetOwn, qSetWh, qSetIx, fnE, startD, notDict, lcB, wipeD, qPn, qPc, qDct, qRetF, qCallF, qCallP, qBrk, qCnt, truthyD, lenOk, itemsD, seqD]
        exact key
    · rw [hb]
      simp [qRepL, qRev, qRet, qRetN, qAndV, qOrV, qNotV, qIsi, qV, qVB, qC, qNil, qCons, qANil, qACons, qAPrs, qTup, qLst, qOp, qBl, qChain, qUn, qTr, qAnd, qOr, qNot, qIf, qCa, qSl, qSo, qNo, qMt, qMt0, qCall, cal, qCallK, qNext, qSeq, qExp, qIfS, qAsg, and_assoc, qPar, qOwn, qFrz, qApp, qLstN, qListN, qLenE, qLenL, qLcE, qLcL, noOwn, iSeq, iRg1, iRg2, iZp, iEn, iEnT, qYes, qRaise, qTry, hdX, suB, exIn, qXf, qPOwn, qPWh, qSetOwn, qSetWh, qSetIx, fnE, startD, notDict, lcB, wipeD, qPn, qPc, qDct, qRetF, qCallF, qCallP, qBrk, qCnt, truthyD, lenOk, itemsD, seqD]
      exact no fun z => by rw [(isThings_hall _ _ _).mpr z.1] at hb; cases hb
  · obtain ⟨p, r, s3, s4, s6, e, er, hg, rfl⟩ := h'
    cases r with
    | nil => simp at er
    | cons w r =>
      obtain ⟨rfl, rfl⟩ : d = stD w ∧ rest = r.map stD := by simpa using er
      have hwz := wl.2 w (by rw [e]; simp)
      have hwl : w.length ≤ sizeLine := by omega
      have hpl : p.length ≤ 10001 := by have := wl.1; rw [e] at this; simp at this; omega
      have bad : goodW i w = false → R .none := fun hb => h2 fun ts hh el => by
        have := (W.map hh.ok).1 w (by rw [← tells ts hh el, e]; simp)
        rw [hb] at this; cases this
      refine asg_of (fun d => d = stD w.tail) (fun K hK => ?_) ?_
      · simp [qRepL, qRev, qRet, qRetN, qAndV, qOrV, qNotV, qIsi, qV, qVB, qC, qNil, qCons, qANil, qACons, qAPrs, qTup, qLst, qOp, qBl, qChain, qUn, qTr, qAnd, qOr, qNot, qIf, qCa, qSl, qSo, qNo, qMt, qMt0, qCall, cal, qCallK, qNext, qSeq, qExp, qIfS, qAsg, and_assoc, qPar, qOwn, qFrz, qApp, qLstN, qListN, qLenE, qLenL, qLcE, qLcL, noOwn, iSeq, iRg1, iRg2, iZp, iEn, iEnT, qYes, qRaise, qTry, hdX, suB, exIn, qXf, qPOwn, qPWh, qSetOwn, qSetWh, qSetIx, fnE, startD, notDict, lcB, wipeD, qPn, qPc, qDct, qRetF, qCallF, qCallP, qBrk, qCnt, truthyD, lenOk, itemsD, seqD]
        refine (oSl_from w 1 _).mpr ⟨hwl, ?_⟩
        have := hK _ rfl
        simpa using this
      rintro _ rfl
      refine asg_of (fun d => d = stD (ageW i w)) (fun K hK => ?_) ?_
      · have hK := hK _ rfl
        unfold ageW at hK
        simp [qRepL, qRev, qRet, qRetN, qAndV, qOrV, qNotV, qIsi, qV, qVB, qC, qNil, qCons, qANil, qACons, qAPrs, qTup, qLst, qOp, qBl, qChain, qUn, qTr, qAnd, qOr, qNot, qIf, qCa, qSl, qSo, qNo, qMt, qMt0, qCall, cal, qCallK, qNext, qSeq, qExp, qIfS, qAsg, and_assoc, qPar, qOwn, qFrz, qApp, qLstN, qListN, qLenE, qLenL, qLcE, qLcL, noOwn, iSeq, iRg1, iRg2, iZp, iEn, iEnT, qYes, qRaise, qTry, hdX, suB, exIn, qXf, qPOwn, qPWh, qSetOwn, qSetWh, qSetIx, fnE, startD, notDict, lcB, wipeD, qPn, qPc, qDct, qRetF, qCallF, qCallP, qBrk, qCnt, truthyD, lenOk, itemsD, seqD, st_0, st_1, st_2, st_3, st_4, st_5, st_6, st_7, st_8, st_9, st_10, st_11, st_12, st_13, st_14, st_15, st_16, st_17, st_18, st_19, st_20, st_21, st_22, st_23, st_24, st_25, st_26, st_27, st_28, st_29, st_30, st_31, st_32, st_33, st_34, st_35, st_36, st_37, st_38, st_39, st_40, st_41, st_42, st_43, st_44, st_45, st_46, st_47, st_48, st_49, st_50, st_51, st_52, st_53, st_54, st_55, oEq_st]
        by_cases h4 : i = 4
        · refine .inr ⟨h4, ?_⟩
          by_cases hp : w.tail = [52, 43]
          · refine .inr ⟨hp, ?_⟩
            rw [if_pos ⟨h4, hp⟩] at hK
            rw [hp]
            exact (oSl_plus _).mpr ⟨h2S, hK⟩
          · refine .inl ⟨hp, ?_⟩
            rw [if_neg (fun z => hp z.2)] at hK
            exact hK
        · refine .inl ⟨h4, ?_⟩
          rw [if_neg (fun z => h4 z.1)] at hK
          exact hK
      rintro _ rfl
      have haz : (ageW i w).length ≤ 10001 := by
        unfold ageW
        split
        · decide
        · simp; omega
      have haS : (ageW i w).length ≤ sizeLine := by omega
      have h6S : 6 ≤ sizeLine := by omega
      have ht1 : oSl (stD w) none (some 1) = fun R => (w.length ≤ sizeLine ∧ R (stD (w.take 1))) := by funext R; exact propext (oSl_to w 1 R)
      refine if_of (fun b => b = !goodW i w) (fun K hK => ?_) (fun z => ?_) (fun z => ?_)
      · have hK := hK _ rfl
        have tl : ∀ c r, w = c :: r → knd c = true → goodW i w = ((ageW i w).all (fun c => decide (48 ≤ c ∧ c ≤ 57)) && decide ((ageW i w).length ≤ 4)) := fun c r e hk => by
          rw [e]
          show (knd c && _) = _
          rw [hk, Bool.true_and]
        obtain ⟨A, hA⟩ : ∃ A, A = ageW i w := ⟨_, rfl⟩
        rw [← hA] at haS haz tl ⊢
        cases w with
        | nil =>
          have gf : goodW i [] = false := rfl
          rw [gf] at hK
          simp [qRepL, qRev, qRet, qRetN, qAndV, qOrV, qNotV, qIsi, qV, qVB, qC, qNil, qCons, qANil, qACons, qAPrs, qTup, qLst, qOp, qBl, qChain, qUn, qTr, qAnd, qOr, qNot, qIf, qCa, qSl, qSo, qNo, qMt, qMt0, qCall, cal, qCallK, qNext, qSeq, qExp, qIfS, qAsg, and_assoc, qPar, qOwn, qFrz, qApp, qLstN, qListN, qLenE, qLenL, qLcE, qLcL, noOwn, iSeq, iRg1, iRg2, iZp, iEn, iEnT, qYes, qRaise, qTry, hdX, suB, exIn, qXf, qPOwn, qPWh, qSetOwn, qSetWh, qSetIx, fnE, startD, notDict, lcB, wipeD, qPn, qPc, qDct, qRetF, qCallF, qCallP, qBrk, qCnt, truthyD, lenOk, itemsD, seqD, st_0, st_1, st_2, st_3, st_4, st_5, st_6, st_7, st_8, st_9, st_10, st_11, st_12, st_13, st_14, st_15, st_16, st_17, st_18, st_19, st_20, st_21, st_22, st_23, st_24, st_25, st_26, st_27, st_28, st_29, st_30, st_31, st_32, st_33, st_34, st_35, st_36, st_37, st_38, st_39, st_40, st_41, st_42, st_43, st_44, st_45, st_46, st_47, st_48, st_49, st_50, st_51, st_52, st_53, st_54, st_55, oEq_st, ht1, h6S, oNotIn, eqv_tx, PyData.plainAll, PyData.plain, PyData.depth]
          exact hK
        | cons c r =>
          simp [qRepL, qRev, qRet, qRetN, qAndV, qOrV, qNotV, qIsi, qV, qVB, qC, qNil, qCons, qANil, qACons, qAPrs, qTup, qLst, qOp, qBl, qChain, qUn, qTr, qAnd, qOr, qNot, qIf, qCa, qSl, qSo, qNo, qMt, qMt0, qCall, cal, qCallK, qNext, qSeq, qExp, qIfS, qAsg, and_assoc, qPar, qOwn, qFrz, qApp, qLstN, qListN, qLenE, qLenL, qLcE, qLcL, noOwn, iSeq, iRg1, iRg2, iZp, iEn, iEnT, qYes, qRaise, qTry, hdX, suB, exIn, qXf, qPOwn, qPWh, qSetOwn, qSetWh, qSetIx, fnE, startD, notDict, lcB, wipeD, qPn, qPc, qDct, qRetF, qCallF, qCallP, qBrk, qCnt, truthyD, lenOk, itemsD, seqD, st_0, st_1, st_2, st_3, st_4, st_5, st_6, st_7, st_8, st_9, st_10, st_11, st_12, st_13, st_14, st_15, st_16, st_17, st_18, st_19, st_20, st_21, st_22, st_23, st_24, st_25, st_26, st_27, st_28, st_29, st_30, st_31, st_32, st_33, st_34, st_35, st_36, st_37, st_38, st_39, st_40, st_41, st_42, st_43, st_44, st_45, st_46, st_47, st_48, st_49, st_50, st_51, st_52, st_53, st_54, st_55, oEq_st, ht1, hwl, h6S, oNotIn, eqv_tx, PyData.plainAll, PyData.plain, PyData.depth]
          rcases bool_cases (knd c) with hk | hk
          · have hcond : ¬ (¬97 = c ∧ ¬98 = c ∧ ¬99 = c ∧ ¬120 = c ∧ ¬121 = c ∧ ¬122 = c) := by
              unfold knd at hk; simp at hk; omega
            rw [if_neg hcond]
            rw [tl c r rfl hk] at hK
            by_cases hn : A = []
            · rw [hn] at hK
              refine ⟨by simpa using hwl, .inr ⟨hn, ?_⟩⟩
              rw [hn]
              simp [cLen]
              exact hK
            · refine ⟨by simpa using hwl, .inl ⟨hn, by simpa [sgns] using haS, ?_⟩⟩
              refine lcD_map sg (fun c => .bool (decide (48 ≤ c ∧ c ≤ 57))) (ts := A) rfl (fun c hc k hk => ?_) ?_
              · refine lcB_of ?_
                simp [qRepL, qRev, qRet, qRetN, qAndV, qOrV, qNotV, qIsi, qV, qVB, qC, qNil, qCons, qANil, qACons, qAPrs, qTup, qLst, qOp, qBl, qChain, qUn, qTr, qAnd, qOr, qNot, qIf, qCa, qSl, qSo, qNo, qMt, qMt0, qCall, cal, qCallK, qNext, qSeq, qExp, qIfS, qAsg, and_assoc, qPar, qOwn, qFrz, qApp, qLstN, qListN, qLenE, qLenL, qLcE, qLcL, noOwn, iSeq, iRg1, iRg2, iZp, iEn, iEnT, qYes, qRaise, qTry, hdX, suB, exIn, qXf, qPOwn, qPWh, qSetOwn, qSetWh, qSetIx, fnE, startD, notDict, lcB, wipeD, qPn, qPc, qDct, qRetF, qCallF, qCallP, qBrk, qCnt, truthyD, lenOk, itemsD, seqD, oIn]
                have := in_figs c
                rw [figs_list] at this
                rw [this]
                exact hk
              rw [cAll_map]
              simp only [reduceCtorEq, false_implies, implies_true, true_and]
              rcases bool_cases (A.all fun c => decide (48 ≤ c ∧ c ≤ 57)) with ha | ha
              · rw [ha, if_pos rfl]
                rw [ha, Bool.true_and] at hK
                simp [cLen, haS]
                by_cases h4 : A.length ≤ 4
                · rw [decide_eq_true h4] at hK
                  exact .inl ⟨by omega, hK⟩
                · rw [decide_eq_false h4] at hK
                  exact .inr ⟨by omega, hK⟩
              · rw [ha, if_neg Bool.false_ne_true]
                rw [ha, Bool.false_and] at hK
                exact hK
          · have hcond : (¬97 = c ∧ ¬98 = c ∧ ¬99 = c ∧ ¬120 = c ∧ ¬121 = c ∧ ¬122 = c) := by
              unfold knd at hk; simp at hk; omega
            rw [if_pos hcond]
            have gf : goodW i (c :: r) = false := by
              show (knd c && _) = false
              rw [hk]; rfl
            rw [gf] at hK
            exact ⟨by simpa using hwl, hK⟩
      · simp [qRepL, qRev, qRet, qRetN, qAndV, qOrV, qNotV, qIsi, qV, qVB, qC, qNil, qCons, qANil, qACons, qAPrs, qTup, qLst, qOp, qBl, qChain, qUn, qTr, qAnd, qOr, qNot, qIf, qCa, qSl, qSo, qNo, qMt, qMt0, qCall, cal, qCallK, qNext, qSeq, qExp, qIfS, qAsg, and_assoc, qPar, qOwn, qFrz, qApp, qLstN, qListN, qLenE, qLenL, qLcE, qLcL, noOwn, iSeq, iRg1, iRg2, iZp, iEn, iEnT, qYes, qRaise, qTry, hdX, suB, exIn, qXf, qPOwn, qPWh, qSetOwn, qSetWh, qSetIx, fnE, startD, notDict, lcB, wipeD, qPn, qPc, qDct, qRetF, qCallF, qCallP, qBrk, qCnt, truthyD, lenOk, itemsD, seqD]
        exact bad (by simpa using z.symm)
      · have hg2 : goodW i w = true := by simpa using z.symm
        refine nx_of (rest := qApp _ _) ?_
        cases w with
        | nil => cases hg2
        | cons c rr =>
          have hgp : knd c = true ∧ ((ageW i (c :: rr)).all (fun c => decide (48 ≤ c ∧ c ≤ 57)) = true ∧ (ageW i (c :: rr)).length ≤ 4) := by
            have : (knd c && (((ageW i (c :: rr)).all fun c => decide (48 ≤ c ∧ c ≤ 57)) && decide ((ageW i (c :: rr)).length ≤ 4))) = true := hg2
            simpa using this
          have hpar : parW i (c :: rr) = (c, NumText.digitsVal (ageW i (c :: rr))) := rfl
          obtain ⟨A, hA⟩ : ∃ A, A = ageW i (c :: rr) := ⟨_, rfl⟩
          rw [← hA] at hgp hpar haS ⊢
          have hAll := (all_figs A).mp hgp.2.1
          have fin : ∀ d, d = thD (parW i (c :: rr)) → ((p.map (parW i)).map thD).length < sizeLine ∧ ∃ (p2 r_1 : List (List Nat)) (s3' s4' s6' : Sl), ws = p2 ++ r_1 ∧ r.map stD = r_1.map stD ∧ (∀ w ∈ p2, goodW i w = true) ∧ [Sl.val (stD l), .val (.int i), .own ((p.map (parW i)).map thD ++ [d]), .val (stD (c :: rr)), .val (stD A), .no, s6] = [.val (stD l), .val (.int i), .own ((p2.map (parW i)).map thD), s3', s4', .no, s6'] := fun d hd => by
            refine ⟨by simp; omega, p ++ [c :: rr], r, .val (stD (c :: rr)), .val (stD A), s6, by rw [e]; simp, rfl, fun w hw => ?_, by rw [hd]; simp⟩
            rcases List.mem_append.mp hw with hw | hw
            · exact hg w hw
            · simp at hw; rw [hw]; exact hg2
          refine ⟨_, rfl, ?_⟩
          have e0 : Str.ofString "" = tx [] := by decide +kernel
          have ht1' : oSl (stD (c :: rr)) none (some 1) = fun R => ((c :: rr).length ≤ sizeLine ∧ R (stD [c])) := ht1
          simp only [qTup, qCons, qSl, qV, qNo, qSo, qC, qIf, qBl, qOp, qCa, qNil]
          refine ⟨_, rfl, ?_⟩
          refine ⟨_, rfl, ?_⟩
          rw [ht1']
          refine ⟨hwl, ?_⟩
          refine ⟨_, rfl, ?_⟩
          rw [e0, oNe_st]
          by_cases hn : A = []
          · refine ⟨false, by rw [hn]; rfl, ?_⟩
            rw [if_neg Bool.false_ne_true]
            refine ⟨h2S, fin _ ?_⟩
            rw [hpar, hn]; rfl
          · refine ⟨true, by simp [hn], ?_⟩
            rw [if_pos rfl]
            refine ⟨_, rfl, cInt_digits hAll hn (by omega) ⟨h2S, fin _ ?_⟩⟩
            rw [hpar]; rfl
theorem sc__law_read : FnScope ["text", "most", "found", "word", "age", "sign", "fits"] ["text", "most"] (defScope s__law_read) := ⟨rfl, rfl, rfl, by decide +kernel, rfl, by decide +kernel, by decide +kernel⟩
theorem ok__law_read {P : Program} {w : World} {K : Fg} {mg : Str → Option Value} {base : Heap} (T : Tx K mg) : HasD P w K mg base PJ "_law_read" (defArgs s__law_read) 3 ["text", "most"] P__law_read := by
  obtain ⟨f, fd, hm0, F⟩ := T.d__law_read
  exact ⟨f, fd, _, _, hm0, F, fnD_of (N := ["text", "most", "found", "word", "age", "sign", "fits"]) F sc__law_read fun cdv A outer s H E g Ex hr hG hm hP hE tk => ⟨t__law_read Ex,
    (qss_cons (qs_if (qt_not (qt_of (QE.bb (by exact (qe_isi (f := PyData.isStr) (QE.bb (qe_v 0)) rfl rfl T.n_isinstance rfl T.n_str boot_str fun _ _ _ _ _ _ r h => PySem.W.isinstance_str_data r h))))) (qss_one (qs_ret (QE.bb qe_non))) qss_nil)
    (qss_cons (qs_own 2 (qn_lst ql_nil) sc__law_read.nd)
    (qss_cons (qs_for (passes_of rfl) rfl (qi_seq (qe_len (qe_if (qt_cmp (opd_ne (un_of hr)) (QE.bb (qe_v 0)) (QE.bb qe_str)) (by exact (qe_bm mtd_split (QE.bb (qe_v 0)) (qlb_cons (QE.bb qe_str) qlb_nil) PySem.F.plainAttrs_str PySem.F.slot_str_split PySem.F.type_str_split)) (qe_lst ql_nil)))) (qg_name 3 sc__law_read.nd) (qss_cons (qs_set 4 (qe_slice (QE.bb (qe_v 3)) (qo_some (QE.bb qe_int)) qo_none) sc__law_read.nd)
    (qss_cons (qs_set 4 (qe_if (qt_w (qw_and (qt_cmp (opd_eq (un_of hr)) (QE.bb (qe_v 1)) (QE.bb qe_int)) (qw_and1 (qt_cmp (opd_eq (un_of hr)) (QE.bb (qe_v 4)) (QE.bb qe_str))))) (qe_slice (QE.bb (qe_v 4)) qo_none (qo_some (QE.bb (qe_un und_neg (QE.bb qe_int))))) (qe_v 4)) sc__law_read.nd)
    (qss_cons (qs_if (qt_w (qw_or (qt_cmp (opd_notIn (un_of hr)) (QE.bb (qe_slice (QE.bb (qe_v 3)) qo_none (qo_some (QE.bb qe_int)))) (QE.bb (qe_tup (ql_cons qe_str (ql_cons qe_str (ql_cons qe_str (ql_cons qe_str (ql_cons qe_str (ql_cons qe_str ql_nil))))))))) (qw_or (qt_not (qt_w (qw_or (qt_cmp (opd_eq (un_of hr)) (QE.bb (qe_v 4)) (QE.bb qe_str)) (qw_or1 (qt_of (QE.bb (by exact (qe_callB (cad_all rfl) rfl T.n_all boot_all (qlb_cons (QE.bb (by exact (QN.qe (qn_lc (own := [("sign", 5)]) rfl sc__law_read.nd (by exact (qi_seq (qe_len (qe_v 4)))) (by exact blkOk_by (N := ["text", "most", "found", "word", "age", "sign", "fits"]) (sc := defScope s__law_read) (own := [("sign", 5)]) (by decide +kernel)) (fun s H C cl fp hd => by exact (qg_name 5 sc__law_read.nd)) (fun s H C cl fp hd => by exact qts_nil) (fun s H C cl fp hd => by exact (qe_cmp (opd_in (un_of hr)) (QE.bb (qe_v 5)) (QE.bb qe_str))))))) qlb_nil))))))))) (qw_or1 (qt_cmp (opd_gt (un_of hr)) (QE.bb (by exact (qe_callB cad_len rfl T.n_len boot_len (qlb_cons (QE.bb (qe_v 4)) qlb_nil)))) (QE.bb qe_int)))))) (qss_one (qs_ret (QE.bb qe_non))) qss_nil)
    (qss_one (qs_append 2 (qe_tup (ql_cons (qe_slice (QE.bb (qe_v 3)) qo_none (qo_some (QE.bb qe_int))) (ql_cons (qe_if (qt_cmp (opd_ne (un_of hr)) (QE.bb (qe_v 4)) (QE.bb qe_str)) (by exact (qe_callTy cad_int rfl T.n_int boot_int (qlb_cons (QE.bb (qe_v 4)) qlb_nil))) qe_int) ql_nil)))))))))
    (qss_frz 2 (qss_cons (qs_set 2 (by exact (qe_callTy cad_tuple rfl T.n_tuple boot_tuple (qlb_cons (QE.bb (qe_v 2)) qlb_nil))) sc__law_read.nd)
    (qss_cons (qs_set 6 (by exact (qe_callH (ps := ["thing", "many", "most"]) hE hP (ok__law_is_things T) bd__law_is_things (hr.mono (by decide)) hG hm tk rfl (qa_cons (qe_v 2) (qa_cons (qe_if (qt_cmp (opd_gt (un_of hr)) (QE.bb (qe_v 1)) (QE.bb qe_int)) qe_int qe_int) (qa_cons (qe_if (qt_cmp (opd_gt (un_of hr)) (QE.bb (qe_v 1)) (QE.bb qe_int)) (qe_op opd_sub (QE.bb (qe_v 1)) (QE.bb qe_int)) qe_int) qa_nil))))) sc__law_read.nd)
    (qss_one (qs_ret (QE.bb (qe_if (qt_w (qw_and (qt_of (QE.bb (qe_v 6))) (qw_and1 (qt_cmp (opd_eq (un_of hr)) (QE.bb (by exact (qe_callH (ps := ["hall", "most"]) hE hP (ok__law_text T) bd__law_text (hr.mono (by decide)) hG hm tk rfl (qa_cons (qe_v 2) (qa_cons (qe_if (qt_cmp (opd_eq (un_of hr)) (QE.bb (qe_v 1)) (QE.bb qe_int)) (qe_v 1) (qe_un und_neg (QE.bb qe_int))) qa_nil))))) (QE.bb (qe_v 0)))))) (qe_v 2) qe_non)))))))))),
    fun as R hl h => pure__law_read as R Ex hl h⟩⟩
/-! ### _law_near -/
def P__law_near : FS := fun as R _ => ∃ ts, as = [.prs, .val (hallD ts)] ∧ (∀ t ∈ ts, okT 9999 t) ∧ ts.length ≤ 12 ∧ ∀ ds, (∀ d ∈ ds, NearD d) → ds.length ≤ 200 → R (.list ds)
def t__law_near (Ex : Exc → Prop) : TrS := (qSeq (qAsg (qIf (qBl (qOp oNe (qV 1) (qTup qNil))) (qCall (fun _ => Ex) (cal 2 P__law_out) (qAPrs 0 (qACons (qCa cLen (qCons (qV 1) qNil)) qANil))) (qC (.int 0))) (gNm 2))
    (qSeq (qAsg (qLst (qCons (qV 1) (qCons (qCa cLst (qCons (qV 1) qNil)) (qCons (qOp oAdd (qV 1) (qTup (qCons (qC .none) qNil))) (qCons (qOp oAdd (qV 1) (qSl (qV 1) (qSo (qUn oNeg (qC (.int 1)))) qNo)) (qCons (qRev (qV 1) (qUn oNeg (qC (.int 1)))) (qCons (qSl (qV 1) (qSo (qC (.int 1))) qNo) (qCons (qC .none) (qCons (qC (.int 5)) (qCons (qC (.str "")) (qCons (qC (.dict [])) (qCons (qTup (qCons (qV 1) qNil)) (qCons (qOp oAdd (qV 1) (qTup (qCons (qTup (qCons (qC (.str "z")) (qCons (qC (.int 0)) qNil))) qNil))) (qCons (qOp oAdd (qTup (qCons (qTup (qCons (qC (.str "a")) (qCons (qC (.int 0)) qNil))) qNil)) (qV 1)) qNil)))))))))))))) (gNm 3))
    (qSeq (qAsg (qOp oAdd (qV 3) (qLcE (qLcL [4] (iSeq (qLenE (qTup (qCons (qTup (qCons (qC (.str "a")) qNil)) (qCons (qTup (qCons (qC (.str "a")) (qCons (qC (.int 0)) (qCons (qC (.int 0)) qNil)))) (qCons (qLst (qCons (qC (.str "a")) (qCons (qC (.int 0)) qNil))) (qCons (qTup (qCons (qC (.str "d")) (qCons (qC (.int 0)) qNil))) (qCons (qTup (qCons (qC (.str "A")) (qCons (qC (.int 0)) qNil))) (qCons (qTup (qCons (qC (.str "a")) (qCons (qUn oNeg (qC (.int 1))) qNil))) (qCons (qTup (qCons (qC (.str "a")) (qCons (qC (.int 4)) qNil))) (qCons (qTup (qCons (qC (.str "a")) (qCons (qC (.int 5)) qNil))) (qCons (qTup (qCons (qC (.str "a")) (qCons (qC (.bool true)) qNil))) qNil)))))))))))) (gNm 4) qYes (qOp oAdd (qOp oAdd (qSl (qV 1) qNo (qSo (qV 2))) (qTup (qCons (qV 4) qNil))) (qSl (qV 1) (qSo (qOp oAdd (qV 2) (qC (.int 1)))) qNo))))) (gNm 3))
    (qSeq (qAsg (qOp oAdd (qV 3) (qLcE (qLcL [4] (iSeq (qLenE (qTup (qCons (qTup (qCons (qC (.str "a")) (qCons (qC (.str "0")) qNil))) (qCons (qTup (qCons (qC (.str "x")) (qCons (qC (.int 1)) qNil))) (qCons (qTup (qCons (qC (.str "x")) (qCons (qC (.int 0)) qNil))) (qCons (qTup (qCons (qC (.int 0)) (qCons (qC (.str "a")) qNil))) (qCons (qTup (qCons (qC (.str "ab")) (qCons (qC (.int 0)) qNil))) (qCons (qTup (qCons (qC (.str "")) (qCons (qC (.int 0)) qNil))) (qCons (qTup (qCons (qC .none) (qCons (qC (.int 0)) qNil))) (qCons (qTup (qCons (qC (.str "c")) (qCons (qC .none) qNil))) qNil))))))))))) (gNm 4) qYes (qOp oAdd (qOp oAdd (qSl (qV 1) qNo (qSo (qV 2))) (qTup (qCons (qV 4) qNil))) (qSl (qV 1) (qSo (qOp oAdd (qV 2) (qC (.int 1)))) qNo))))) (gNm 3))
    (qSeq (qAsg (qOp oRepT (qTup (qCons (qTup (qCons (qC (.str "b")) (qCons (qC (.int 4)) qNil))) qNil)) (qC (.int 20))) (gNm 5))
    (qRet (qOp oAdd (qV 3) (qLst (qCons (qV 5) (qCons (qOp oAdd (qV 5) (qTup (qCons (qTup (qCons (qC (.str "c")) (qCons (qC (.int 0)) qNil))) qNil))) (qCons (qOp oAdd (qSl (qV 5) (qSo (qC (.int 1))) qNo) (qTup (qCons (qTup (qCons (qC (.str "x")) (qCons (qC (.int 0)) qNil))) qNil))) (qCons (qTup qNil) (qCons (qTup (qCons (qTup qNil) qNil)) (qCons (qTup (qCons (qTup (qCons (qC (.str "a")) (qCons (qC (.int 4)) qNil))) (qCons (qTup (qCons (qC (.str "x")) (qCons (qC (.int 0)) qNil))) qNil))) (qCons (qTup (qCons (qTup (qCons (qC (.str "a")) (qCons (qC (.int 1)) qNil))) (qCons (qTup (qCons (qC (.str "a")) (qCons (qC (.int 1)) qNil))) (qCons (qTup (qCons (qC (.str "a")) (qCons (qC (.int 2)) qNil))) qNil)))) (qCons (qTup (qCons (qTup (qCons (qC (.str "a")) (qCons (qC (.int 2)) qNil))) (qCons (qTup (qCons (qC (.str "a")) (qCons (qC (.int 1)) qNil))) qNil))) (qCons (qTup (qCons (qTup (qCons (qC (.str "b")) (qCons (qC (.int 0)) qNil))) (qCons (qTup (qCons (qC (.str "a")) (qCons (qC (.int 0)) qNil))) qNil))) qNil)))))))))))))))))
theorem pure__law_near (as : List Sl) (R : D → Prop) (Ex : Exc → Prop) (hl : as.length = 2) (h : P__law_near as R Ex) : t__law_near Ex (fnE R) (startD ["press", "own", "at", "found", "each", "full"] as) := by
  obtain ⟨ts, rfl, ho, hz, h⟩ := h
  have hS : 100000 ≤ sizeLine := by rw [sizeLine_eq]; decide
  have own : ∀ d ∈ ts.map thD, Itm d := fun d hd => by
    obtain ⟨t, ht, rfl⟩ := List.mem_map.mp hd
    exact it_th (by decide) (ho t ht)
  have ownT : Itm (.tuple (ts.map thD)) := it_own (by decide) ho hz
  obtain ⟨O, hO⟩ : ∃ O, O = ts.map thD := ⟨_, rfl⟩
  have hOl : O.length ≤ 12 := by rw [hO]; simpa using hz
  have eO : hallD ts = .tuple O := by rw [hO]; rfl
  rw [← hO] at own ownT
  rw [eO]
  have s1 : 1 ≤ sizeLine := by omega
  have s2 : 2 ≤ sizeLine := by omega
  have s3 : 3 ≤ sizeLine := by omega
  have s13 : 13 ≤ sizeLine := by omega
  have s9 : 9 ≤ sizeLine := by omega
  have s8 : 8 ≤ sizeLine := by omega
  have s0 : 0 ≤ sizeLine := by omega
  unfold t__law_near
  refine asg_of (fun d => ∃ a : Nat, d = .int a ∧ a ≤ 12) (fun K hK => ?_) ?_
  · have pl : (PyData.tuple O).plain = true := ownT.g.plain
    simp [qRepL, qRev, qRet, qRetN, qAndV, qOrV, qNotV, qIsi, qV, qVB, qC, qNil, qCons, qANil, qACons, qAPrs, qTup, qLst, qOp, qBl, qChain, qUn, qTr, qAnd, qOr, qNot, qIf, qCa, qSl, qSo, qNo, qMt, qMt0, qCall, cal, qCallK, qNext, qSeq, qExp, qIfS, qAsg, and_assoc, qPar, qOwn, qFrz, qApp, qLstN, qListN, qLenE, qLenL, qLcE, qLcL, noOwn, iSeq, iRg1, iRg2, iZp, iEn, iEnT, qYes, qRaise, qTry, hdX, suB, exIn, qXf, qPOwn, qPWh, qSetOwn, qSetWh, qSetIx, fnE, startD, notDict, lcB, wipeD, qPn, qPc, qDct, qRetF, qCallF, qCallP, qBrk, qCnt, truthyD, lenOk, itemsD, seqD, P__law_out, oNe]
    refine ⟨pl, rfl, by simp [PyData.depth, PyData.depthAll], ?_⟩
    cases hOc : O with
    | nil => exact .inl ⟨rfl, hK _ ⟨0, rfl, by omega⟩⟩
    | cons x xs =>
      refine .inr ⟨rfl, by simp, by rw [← hOc]; omega, fun r h0 h1 => ?_⟩
      rw [← hOc] at h1
      obtain ⟨a, rfl⟩ := Int.eq_ofNat_of_zero_le h0
      exact hK _ ⟨a, rfl, by omega⟩
  rintro _ ⟨a, rfl, ha⟩
  refine asg_of (fun d => ∃ ds, d = .list ds ∧ ds.length ≤ 13 ∧ ∀ d ∈ ds, NearD d) (fun K hK => ?_) ?_
  · simp [qRepL, qRev, qRet, qRetN, qAndV, qOrV, qNotV, qIsi, qV, qVB, qC, qNil, qCons, qANil, qACons, qAPrs, qTup, qLst, qOp, qBl, qChain, qUn, qTr, qAnd, qOr, qNot, qIf, qCa, qSl, qSo, qNo, qMt, qMt0, qCall, cal, qCallK, qNext, qSeq, qExp, qIfS, qAsg, and_assoc, qPar, qOwn, qFrz, qApp, qLstN, qListN, qLenE, qLenL, qLcE, qLcL, noOwn, iSeq, iRg1, iRg2, iZp, iEn, iEnT, qYes, qRaise, qTry, hdX, suB, exIn, qXf, qPOwn, qPWh, qSetOwn, qSetWh, qSetIx, fnE, startD, notDict, lcB, wipeD, qPn, qPc, qDct, qRetF, qCallF, qCallP, qBrk, qCnt, truthyD, lenOk, itemsD, seqD, st_0, st_1, st_2, st_3, st_4, st_5, st_6, st_7, st_8, st_9, st_10, st_11, st_12, st_13, st_14, st_15, st_16, st_17, st_18, st_19, st_20, st_21, st_22, st_23, st_24, st_25, st_26, st_27, st_28, st_29, st_30, st_31, st_32, st_33, st_34, st_35, st_36, st_37, st_38, st_39, st_40, st_41, st_42, st_43, st_44, st_45, st_46, st_47, st_48, st_49, st_50, st_51, st_52, st_53, st_54, st_55, s1, s2, s3, s13, oSl]
    have c1 := cut_len O (some (-1)) none
    have c2 := cut_len O (some 1) none
    refine ⟨by omega, by omega, by omega, by omega, hK _ ⟨_, rfl, by simp, fun d hd => ?_⟩⟩
    simp only [List.mem_cons, List.not_mem_nil, or_false] at hd
    have one : ∀ d, Itm d → ∀ x ∈ [d], Itm x := fun d h => it_cons h it_nil
    rcases hd with rfl | rfl | rfl | rfl | rfl | rfl | rfl | rfl | rfl | rfl | rfl | rfl | rfl
    · exact near_tup own (by omega)
    · exact near_lst own (by omega)
    · exact near_tup (it_app own (one _ (it_const rfl rfl (by decide) (by decide)))) (by simp; omega)
    · exact near_tup (it_app own (it_cut own)) (by simp; omega)
    · exact near_tup (it_rev own) (by simp; omega)
    · exact near_tup (it_cut own) (by omega)
    · exact .inl ⟨⟨rfl, by decide⟩, ⟨rfl, by decide, by decide⟩, trivial⟩
    · exact .inl ⟨⟨rfl, by decide⟩, ⟨rfl, by decide, by decide⟩, trivial⟩
    · exact .inl ⟨⟨rfl, by decide⟩, ⟨rfl, by decide, by decide⟩, trivial⟩
    · exact .inr rfl
    · exact near_tup (one _ ownT) (by simp)
    · exact near_tup (it_app own (one _ (it_const rfl rfl (by decide) (by decide)))) (by simp; omega)
    · exact near_tup (it_cons (it_const rfl rfl (by decide) (by decide)) own) (by simp; omega)
  rintro _ ⟨f1, rfl, l1, n1⟩
  have comp : ∀ (es : List D) (ρ : En) (K : List D → Prop), (∀ e ∈ es, Itm e) → (∃ s3 s5, ρ = [.prs, .val (.tuple O), .val (.int a), s3, .no, s5]) → (∀ ys, ys.length = es.length → (∀ y ∈ ys, NearD y) → K ys) →
      lcD (lcB [4] (gNm 4) qYes (qOp oAdd (qOp oAdd (qSl (qV 1) qNo (qSo (qV 2))) (qTup (qCons (qV 4) qNil))) (qSl (qV 1) (qSo (qOp oAdd (qV 2) (qC (PyData.int 1)))) qNo)) ρ) es [] K := fun es ρ K he ⟨s3, s5, hρ⟩ hK => by
    subst hρ
    refine lcD_any NearD (fun e hem k hk => ?_) (fun ys h1 h2 => by simpa using hK ys h1 h2)
    refine lcB_of ?_
    have c1 := cut_len O none (some (a : Int))
    have c2 := cut_len O (some ((a : Int) + 1)) none
    simp [qRepL, qRev, qRet, qRetN, qAndV, qOrV, qNotV, qIsi, qV, qVB, qC, qNil, qCons, qANil, qACons, qAPrs, qTup, qLst, qOp, qBl, qChain, qUn, qTr, qAnd, qOr, qNot, qIf, qCa, qSl, qSo, qNo, qMt, qMt0, qCall, cal, qCallK, qNext, qSeq, qExp, qIfS, qAsg, and_assoc, qPar, qOwn, qFrz, qApp, qLstN, qListN, qLenE, qLenL, qLcE, qLcL, noOwn, iSeq, iRg1, iRg2, iZp, iEn, iEnT, qYes, qRaise, qTry, hdX, suB, exIn, qXf, qPOwn, qPWh, qSetOwn, qSetWh, qSetIx, fnE, startD, notDict, lcB, wipeD, qPn, qPc, qDct, qRetF, qCallF, qCallP, qBrk, qCnt, truthyD, lenOk, itemsD, seqD, oSl, s1]
    refine ⟨by omega, by omega, hk _ ?_⟩
    refine near_tup ?_ (by simp; omega)
    exact it_app (it_cut own) (it_cons (he e hem) (it_cut own))
  refine asg_of (fun d => ∃ ds, d = .list ds ∧ ds.length ≤ 30 ∧ ∀ d ∈ ds, NearD d) (fun K hK => ?_) ?_
  · simp [qRepL, qRev, qRet, qRetN, qAndV, qOrV, qNotV, qIsi, qV, qVB, qC, qNil, qCons, qANil, qACons, qAPrs, qTup, qLst, qOp, qBl, qChain, qUn, qTr, qAnd, qOr, qNot, qIf, qCa, qSl, qSo, qNo, qMt, qMt0, qCall, cal, qCallK, qNext, qSeq, qExp, qIfS, qAsg, and_assoc, qPar, qOwn, qFrz, qApp, qLstN, qListN, qLenE, qLenL, qLcE, qLcL, noOwn, iSeq, iRg1, iRg2, iZp, iEn, iEnT, qYes, qRaise, qTry, hdX, suB, exIn, qXf, qPOwn, qPWh, qSetOwn, qSetWh, qSetIx, fnE, startD, notDict, lcB, wipeD, qPn, qPc, qDct, qRetF, qCallF, qCallP, qBrk, qCnt, truthyD, lenOk, itemsD, seqD, st_0, st_1, st_2, st_3, st_4, st_5, st_6, st_7, st_8, st_9, st_10, st_11, st_12, st_13, st_14, st_15, st_16, st_17, st_18, st_19, st_20, st_21, st_22, st_23, st_24, st_25, st_26, st_27, st_28, st_29, st_30, st_31, st_32, st_33, st_34, st_35, st_36, st_37, st_38, st_39, st_40, st_41, st_42, st_43, st_44, st_45, st_46, st_47, st_48, st_49, st_50, st_51, st_52, st_53, st_54, st_55, s1, s2, s3, s9]
    refine comp _ _ _ (fun e he => ?_) ⟨_, _, rfl⟩ (fun ys h1 h2 => ?_)
    · simp only [List.mem_cons, List.not_mem_nil, or_false] at he
      rcases he with rfl | rfl | rfl | rfl | rfl | rfl | rfl | rfl | rfl <;> exact it_const (by decide) (by decide) (by decide) (by decide)
    · simp at h1
      refine ⟨by omega, hK _ ⟨_, rfl, by simp; omega, fun d hd => ?_⟩⟩
      rcases List.mem_append.mp hd with hd | hd
      · exact n1 d hd
      · exact h2 d hd
  rintro _ ⟨f2, rfl, l2, n2⟩
  refine asg_of (fun d => ∃ ds, d = .list ds ∧ ds.length ≤ 60 ∧ ∀ d ∈ ds, NearD d) (fun K hK => ?_) ?_
  · simp [qRepL, qRev, qRet, qRetN, qAndV, qOrV, qNotV, qIsi, qV, qVB, qC, qNil, qCons, qANil, qACons, qAPrs, qTup, qLst, qOp, qBl, qChain, qUn, qTr, qAnd, qOr, qNot, qIf, qCa, qSl, qSo, qNo, qMt, qMt0, qCall, cal, qCallK, qNext, qSeq, qExp, qIfS, qAsg, and_assoc, qPar, qOwn, qFrz, qApp, qLstN, qListN, qLenE, qLenL, qLcE, qLcL, noOwn, iSeq, iRg1, iRg2, iZp, iEn, iEnT, qYes, qRaise, qTry, hdX, suB, exIn, qXf, qPOwn, qPWh, qSetOwn, qSetWh, qSetIx, fnE, startD, notDict, lcB, wipeD, qPn, qPc, qDct, qRetF, qCallF, qCallP, qBrk, qCnt, truthyD, lenOk, itemsD, seqD, st_0, st_1, st_2, st_3, st_4, st_5, st_6, st_7, st_8, st_9, st_10, st_11, st_12, st_13, st_14, st_15, st_16, st_17, st_18, st_19, st_20, st_21, st_22, st_23, st_24, st_25, st_26, st_27, st_28, st_29, st_30, st_31, st_32, st_33, st_34, st_35, st_36, st_37, st_38, st_39, st_40, st_41, st_42, st_43, st_44, st_45, st_46, st_47, st_48, st_49, st_50, st_51, st_52, st_53, st_54, st_55, s1, s2, s3, s8]
    refine comp _ _ _ (fun e he => ?_) ⟨_, _, rfl⟩ (fun ys h1 h2 => ?_)
    · simp only [List.mem_cons, List.not_mem_nil, or_false] at he
      rcases he with rfl | rfl | rfl | rfl | rfl | rfl | rfl | rfl <;> exact it_const (by decide) (by decide) (by decide) (by decide)
    · simp at h1
      refine ⟨by omega, hK _ ⟨_, rfl, by simp; omega, fun d hd => ?_⟩⟩
      rcases List.mem_append.mp hd with hd | hd
      · exact n2 d hd
      · exact h2 d hd
  rintro _ ⟨f3, rfl, l3, n3⟩
  refine asg_of (fun d => ∃ xs, d = .tuple xs ∧ xs.length ≤ 60 ∧ ∀ d ∈ xs, Itm d) (fun K hK => ?_) ?_
  · simp [qRepL, qRev, qRet, qRetN, qAndV, qOrV, qNotV, qIsi, qV, qVB, qC, qNil, qCons, qANil, qACons, qAPrs, qTup, qLst, qOp, qBl, qChain, qUn, qTr, qAnd, qOr, qNot, qIf, qCa, qSl, qSo, qNo, qMt, qMt0, qCall, cal, qCallK, qNext, qSeq, qExp, qIfS, qAsg, and_assoc, qPar, qOwn, qFrz, qApp, qLstN, qListN, qLenE, qLenL, qLcE, qLcL, noOwn, iSeq, iRg1, iRg2, iZp, iEn, iEnT, qYes, qRaise, qTry, hdX, suB, exIn, qXf, qPOwn, qPWh, qSetOwn, qSetWh, qSetIx, fnE, startD, notDict, lcB, wipeD, qPn, qPc, qDct, qRetF, qCallF, qCallP, qBrk, qCnt, truthyD, lenOk, itemsD, seqD, st_0, st_1, st_2, st_3, st_4, st_5, st_6, st_7, st_8, st_9, st_10, st_11, st_12, st_13, st_14, st_15, st_16, st_17, st_18, st_19, st_20, st_21, st_22, st_23, st_24, st_25, st_26, st_27, st_28, st_29, st_30, st_31, st_32, st_33, st_34, st_35, st_36, st_37, st_38, st_39, st_40, st_41, st_42, st_43, st_44, st_45, st_46, st_47, st_48, st_49, st_50, st_51, st_52, st_53, st_54, st_55, s1, s2]
    refine hK _ ⟨_, rfl, by simp, fun d hd => ?_⟩
    simp at hd
    rw [hd]
    exact it_const (by decide) (by decide) (by decide) (by decide)
  rintro _ ⟨F, rfl, lF, nF⟩
  simp [qRepL, qRev, qRet, qRetN, qAndV, qOrV, qNotV, qIsi, qV, qVB, qC, qNil, qCons, qANil, qACons, qAPrs, qTup, qLst, qOp, qBl, qChain, qUn, qTr, qAnd, qOr, qNot, qIf, qCa, qSl, qSo, qNo, qMt, qMt0, qCall, cal, qCallK, qNext, qSeq, qExp, qIfS, qAsg, and_assoc, qPar, qOwn, qFrz, qApp, qLstN, qListN, qLenE, qLenL, qLcE, qLcL, noOwn, iSeq, iRg1, iRg2, iZp, iEn, iEnT, qYes, qRaise, qTry, hdX, suB, exIn, qXf, qPOwn, qPWh, qSetOwn, qSetWh, qSetIx, fnE, startD, notDict, lcB, wipeD, qPn, qPc, qDct, qRetF, qCallF, qCallP, qBrk, qCnt, truthyD, lenOk, itemsD, seqD, st_0, st_1, st_2, st_3, st_4, st_5, st_6, st_7, st_8, st_9, st_10, st_11, st_12, st_13, st_14, st_15, st_16, st_17, st_18, st_19, st_20, st_21, st_22, st_23, st_24, st_25, st_26, st_27, st_28, st_29, st_30, st_31, st_32, st_33, st_34, st_35, st_36, st_37, st_38, st_39, st_40, st_41, st_42, st_43, st_44, st_45, st_46, st_47, st_48, st_49, st_50, st_51, st_52, st_53, st_54, st_55, s0, s1, s2, s3, s9, oSl]
  have c2 := cut_len F (some 1) none
  refine ⟨by omega, by omega, by omega, h _ (fun d hd => ?_) (by simp; omega)⟩
  rcases List.mem_append.mp hd with hd | hd
  · exact n3 d hd
  simp only [List.mem_cons, List.not_mem_nil, or_false] at hd
  have one : ∀ d, Itm d → ∀ x ∈ [d], Itm x := fun d h => it_cons h it_nil
  have cst : ∀ xs : List D, goods xs = true → easys xs = true → PyData.bulkAll xs ≤ 2000 → PyData.depthAll xs ≤ 5 → NearD (.tuple xs) := fun xs a b c d => .inl ⟨⟨a, by show PyData.depthAll xs + 1 ≤ 40; omega⟩, ⟨b, by show PyData.bulkAll xs ≤ _; omega, by show PyData.depthAll xs + 1 ≤ 8; omega⟩, trivial⟩
  rcases hd with rfl | rfl | rfl | rfl | rfl | rfl | rfl | rfl | rfl
  · exact near_tup nF (by omega)
  · exact near_tup (it_app nF (one _ (it_const (by decide) (by decide) (by decide) (by decide)))) (by simp; omega)
  · exact near_tup (it_app (it_cut nF) (one _ (it_const (by decide) (by decide) (by decide) (by decide)))) (by simp; omega)
  all_goals exact cst _ (by decide) (by decide) (by decide) (by decide)
theorem sc__law_near : FnScope ["press", "own", "at", "found", "each", "full"] ["press", "own"] (defScope s__law_near) := ⟨rfl, rfl, rfl, by decide +kernel, rfl, by decide +kernel, by decide +kernel⟩
theorem ok__law_near {P : Program} {w : World} {K : Fg} {mg : Str → Option Value} {base : Heap} (T : Tx K mg) : HasD P w K mg base PJ "_law_near" (defArgs s__law_near) 2 ["press", "own"] P__law_near := by
  obtain ⟨f, fd, hm0, F⟩ := T.d__law_near
  exact ⟨f, fd, _, _, hm0, F, fnD_of (N := ["press", "own", "at", "found", "each", "full"]) F sc__law_near fun cdv A outer s H E g Ex hr hG hm hP hE tk => ⟨t__law_near Ex,
    (qss_cons (qs_set 2 (qe_if (qt_cmp (opd_ne (un_of hr)) (QE.bb (qe_v 1)) (QE.bb (qe_tup ql_nil))) (by exact (qe_callH (ps := ["press", "many"]) hE hP (ok__law_out T) bd__law_out (hr.mono (by decide)) hG hm tk rfl (qa_prs 0 (qa_cons (by exact (qe_callB cad_len rfl T.n_len boot_len (qlb_cons (QE.bb (qe_v 1)) qlb_nil))) qa_nil)))) qe_int) sc__law_near.nd)
    (qss_cons (qs_set 3 (qe_lst (ql_cons (qe_v 1) (ql_cons (by exact (qe_callTy cad_list rfl T.n_list boot_list (qlb_cons (QE.bb (qe_v 1)) qlb_nil))) (ql_cons (qe_op opd_add (QE.bb (qe_v 1)) (QE.bb (qe_tup (ql_cons qe_non ql_nil)))) (ql_cons (qe_op opd_add (QE.bb (qe_v 1)) (QE.bb (qe_slice (QE.bb (qe_v 1)) (qo_some (QE.bb (qe_un und_neg (QE.bb qe_int)))) qo_none))) (ql_cons (qe_rev (QE.bb (qe_v 1)) (QE.bb (qe_un und_neg (QE.bb qe_int)))) (ql_cons (qe_slice (QE.bb (qe_v 1)) (qo_some (QE.bb qe_int)) qo_none) (ql_cons qe_non (ql_cons qe_int (ql_cons qe_str (ql_cons qe_dict0 (ql_cons (qe_tup (ql_cons (qe_v 1) ql_nil)) (ql_cons (qe_op opd_add (QE.bb (qe_v 1)) (QE.bb (qe_tup (ql_cons (qe_tup (ql_cons qe_str (ql_cons qe_int ql_nil))) ql_nil)))) (ql_cons (qe_op opd_add (QE.bb (qe_tup (ql_cons (qe_tup (ql_cons qe_str (ql_cons qe_int ql_nil))) ql_nil))) (QE.bb (qe_v 1))) ql_nil)))))))))))))) sc__law_near.nd)
    (qss_cons (qs_set 3 (qe_op opd_add (QE.bb (qe_v 3)) (QE.bb (by exact (QN.qe (qn_lc (own := [("each", 4)]) rfl sc__law_near.nd (by exact (qi_seq (qe_len (qe_tup (ql_cons (qe_tup (ql_cons qe_str ql_nil)) (ql_cons (qe_tup (ql_cons qe_str (ql_cons qe_int (ql_cons qe_int ql_nil)))) (ql_cons (qe_lst (ql_cons qe_str (ql_cons qe_int ql_nil))) (ql_cons (qe_tup (ql_cons qe_str (ql_cons qe_int ql_nil))) (ql_cons (qe_tup (ql_cons qe_str (ql_cons qe_int ql_nil))) (ql_cons (qe_tup (ql_cons qe_str (ql_cons (qe_un und_neg (QE.bb qe_int)) ql_nil))) (ql_cons (qe_tup (ql_cons qe_str (ql_cons qe_int ql_nil))) (ql_cons (qe_tup (ql_cons qe_str (ql_cons qe_int ql_nil))) (ql_cons (qe_tup (ql_cons qe_str (ql_cons qe_bl ql_nil))) ql_nil))))))))))))) (by exact blkOk_by (N := ["press", "own", "at", "found", "each", "full"]) (sc := defScope s__law_near) (own := [("each", 4)]) (by decide +kernel)) (fun s H C cl fp hd => by exact (qg_name 4 sc__law_near.nd)) (fun s H C cl fp hd => by exact qts_nil) (fun s H C cl fp hd => by exact (qe_op opd_add (QE.bb (qe_op opd_add (QE.bb (qe_slice (QE.bb (qe_v 1)) qo_none (qo_some (QE.bb (qe_v 2))))) (QE.bb (qe_tup (ql_cons (qe_v 4) ql_nil))))) (QE.bb (qe_slice (QE.bb (qe_v 1)) (qo_some (QE.bb (qe_op opd_add (QE.bb (qe_v 2)) (QE.bb qe_int)))) qo_none))))))))) sc__law_near.nd)
    (qss_cons (qs_set 3 (qe_op opd_add (QE.bb (qe_v 3)) (QE.bb (by exact (QN.qe (qn_lc (own := [("each", 4)]) rfl sc__law_near.nd (by exact (qi_seq (qe_len (qe_tup (ql_cons (qe_tup (ql_cons qe_str (ql_cons qe_str ql_nil))) (ql_cons (qe_tup (ql_cons qe_str (ql_cons qe_int ql_nil))) (ql_cons (qe_tup (ql_cons qe_str (ql_cons qe_int ql_nil))) (ql_cons (qe_tup (ql_cons qe_int (ql_cons qe_str ql_nil))) (ql_cons (qe_tup (ql_cons qe_str (ql_cons qe_int ql_nil))) (ql_cons (qe_tup (ql_cons qe_str (ql_cons qe_int ql_nil))) (ql_cons (qe_tup (ql_cons qe_non (ql_cons qe_int ql_nil))) (ql_cons (qe_tup (ql_cons qe_str (ql_cons qe_non ql_nil))) ql_nil)))))))))))) (by exact blkOk_by (N := ["press", "own", "at", "found", "each", "full"]) (sc := defScope s__law_near) (own := [("each", 4)]) (by decide +kernel)) (fun s H C cl fp hd => by exact (qg_name 4 sc__law_near.nd)) (fun s H C cl fp hd => by exact qts_nil) (fun s H C cl fp hd => by exact (qe_op opd_add (QE.bb (qe_op opd_add (QE.bb (qe_slice (QE.bb (qe_v 1)) qo_none (qo_some (QE.bb (qe_v 2))))) (QE.bb (qe_tup (ql_cons (qe_v 4) ql_nil))))) (QE.bb (qe_slice (QE.bb (qe_v 1)) (qo_some (QE.bb (qe_op opd_add (QE.bb (qe_v 2)) (QE.bb qe_int)))) qo_none))))))))) sc__law_near.nd)
    (qss_cons (qs_set 5 (qe_op opd_repT (QE.bb (qe_tup (ql_cons (qe_tup (ql_cons qe_str (ql_cons qe_int ql_nil))) ql_nil))) (QE.bb qe_int)) sc__law_near.nd)
    (qss_one (qs_ret (QE.bb (qe_op opd_add (QE.bb (qe_v 3)) (QE.bb (qe_lst (ql_cons (qe_v 5) (ql_cons (qe_op opd_add (QE.bb (qe_v 5)) (QE.bb (qe_tup (ql_cons (qe_tup (ql_cons qe_str (ql_cons qe_int ql_nil))) ql_nil)))) (ql_cons (qe_op opd_add (QE.bb (qe_slice (QE.bb (qe_v 5)) (qo_some (QE.bb qe_int)) qo_none)) (QE.bb (qe_tup (ql_cons (qe_tup (ql_cons qe_str (ql_cons qe_int ql_nil))) ql_nil)))) (ql_cons (qe_tup ql_nil) (ql_cons (qe_tup (ql_cons (qe_tup ql_nil) ql_nil)) (ql_cons (qe_tup (ql_cons (qe_tup (ql_cons qe_str (ql_cons qe_int ql_nil))) (ql_cons (qe_tup (ql_cons qe_str (ql_cons qe_int ql_nil))) ql_nil))) (ql_cons (qe_tup (ql_cons (qe_tup (ql_cons qe_str (ql_cons qe_int ql_nil))) (ql_cons (qe_tup (ql_cons qe_str (ql_cons qe_int ql_nil))) (ql_cons (qe_tup (ql_cons qe_str (ql_cons qe_int ql_nil))) ql_nil)))) (ql_cons (qe_tup (ql_cons (qe_tup (ql_cons qe_str (ql_cons qe_int ql_nil))) (ql_cons (qe_tup (ql_cons qe_str (ql_cons qe_int ql_nil))) ql_nil))) (ql_cons (qe_tup (ql_cons (qe_tup (ql_cons qe_str (ql_cons qe_int ql_nil))) (ql_cons (qe_tup (ql_cons qe_str (ql_cons qe_int ql_nil))) ql_nil))) ql_nil)))))))))))))))))))),
    fun as R hl h => pure__law_near as R Ex hl h⟩⟩
/-! ### _law_near_texts -/
def P__law_near_texts : FS := fun as R _ => ∃ l, as = [.prs, .val (stD l)] ∧ l.length ≤ 500 ∧ (∀ c ∈ l, c < 128) ∧ ∀ ds, (∀ d ∈ ds, TxD d) → ds.length ≤ 200 → R (.list ds)
def t__law_near_texts (Ex : Exc → Prop) : TrS := (qSeq (qAsg (qCall (fun _ => Ex) (cal 2 P__law_out) (qAPrs 0 (qACons (qOp oAdd (qCa cLen (qCons (qV 1) qNil)) (qC (.int 1))) qANil))) (gNm 2))
    (qSeq (qAsg (qLcE (qLcL [4] (iSeq (qLenE (qTup (qCons (qC (.str " ")) (qCons (qC (.str "a")) (qCons (qC (.str "0")) (qCons (qC (.str "+")) (qCons (qC (.str "x")) (qCons (qC (.str "  ")) (qCons (qC (.str "\n")) (qCons (qC (.str "-")) (qCons (qC (.str "4")) qNil)))))))))))) (gNm 4) qYes (qOp oAdd (qOp oAdd (qSl (qV 1) qNo (qSo (qV 2))) (qV 4)) (qSl (qV 1) (qSo (qV 2)) qNo)))) (gNm 3))
    (qSeq (qAsg (qOp oAdd (qV 3) (qLst (qCons (qOp oAdd (qSl (qV 1) qNo (qSo (qV 2))) (qSl (qV 1) (qSo (qOp oAdd (qV 2) (qC (.int 1)))) qNo)) (qCons (qSl (qV 1) qNo (qSo (qV 2))) (qCons (qSl (qV 1) (qSo (qV 2)) qNo) (qCons (qOp oAdd (qV 1) (qC (.str " "))) (qCons (qOp oAdd (qC (.str " ")) (qV 1)) (qCons (qMt0 "str" m_upper (qV 1)) (qCons (qOp oAdd (qV 1) (qC (.str " z"))) (qCons (qOp oAdd (qC (.str "a0 ")) (qV 1)) qNil)))))))))) (gNm 3))
    (qSeq (qAsg (qOp oAdd (qV 3) (qLst (qCons (qC (.str "")) (qCons (qC (.str "-")) (qCons (qC (.str "- -")) (qCons (qC (.str "a")) (qCons (qC (.str "x0")) (qCons (qC (.str "x1")) (qCons (qC (.str "a00")) (qCons (qC (.str "a01")) (qCons (qC (.str "a4")) (qCons (qC (.str "a4+")) (qCons (qC (.str "a5")) (qCons (qC (.str "a5+")) (qCons (qC (.str "x+")) (qCons (qC (.str "a3+")) (qCons (qC (.str "a9999")) qNil))))))))))))))))) (gNm 3))
    (qRet (qOp oAdd (qV 3) (qLst (qCons (qC (.str "a10000")) (qCons (qC (.str "a-1")) (qCons (qC (.str "b0 a0")) (qCons (qC (.str "a0 a0")) (qCons (qC (.str "a1 a0")) (qCons (qC (.str "a0 x")) (qCons (qC (.str "x a0")) (qCons (qC (.str "a0,x")) (qCons (qC (.str "a0  x")) (qCons (qC (.str "d1")) (qCons (qC (.str "z z z")) (qCons (qC (.str "a 0")) (qCons (qC (.str "a4+ a4+ b0")) (qCons (qC (.str "a4 b0")) qNil)))))))))))))))))))))
theorem pure__law_near_texts (as : List Sl) (R : D → Prop) (Ex : Exc → Prop) (hl : as.length = 2) (h : P__law_near_texts as R Ex) : t__law_near_texts Ex (fnE R) (startD ["press", "text", "at", "found", "sign"] as) := by
  obtain ⟨l, rfl, hz, hc, h⟩ := h
  have hS : 100000 ≤ sizeLine := by rw [sizeLine_eq]; decide
  have hlS : l.length ≤ sizeLine := by omega
  have s8 : 8 ≤ sizeLine := by omega
  have s9 : 9 ≤ sizeLine := by omega
  have s14 : 14 ≤ sizeLine := by omega
  have s15 : 15 ≤ sizeLine := by omega
  obtain ⟨hu1, hu2⟩ := upper_tx hc
  have hup : l.length ≤ 5592405 := by omega
  unfold t__law_near_texts
  refine asg_of (fun d => ∃ a : Nat, d = .int a ∧ a ≤ l.length) (fun K hK => ?_) ?_
  · simp [qRepL, qRev, qRet, qRetN, qAndV, qOrV, qNotV, qIsi, qV, qVB, qC, qNil, qCons, qANil, qACons, qAPrs, qTup, qLst, qOp, qBl, qChain, qUn, qTr, qAnd, qOr, qNot, qIf, qCa, qSl, qSo, qNo, qMt, qMt0, qCall, cal, qCallK, qNext, qSeq, qExp, qIfS, qAsg, and_assoc, qPar, qOwn, qFrz, qApp, qLstN, qListN, qLenE, qLenL, qLcE, qLcL, noOwn, iSeq, iRg1, iRg2, iZp, iEn, iEnT, qYes, qRaise, qTry, hdX, suB, exIn, qXf, qPOwn, qPWh, qSetOwn, qSetWh, qSetIx, fnE, startD, notDict, lcB, wipeD, qPn, qPc, qDct, qRetF, qCallF, qCallP, qBrk, qCnt, truthyD, lenOk, itemsD, seqD, P__law_out, cLen, hlS]
    refine ⟨by omega, fun r h0 h1 => ?_⟩
    obtain ⟨a, rfl⟩ := Int.eq_ofNat_of_zero_le h0
    exact hK _ ⟨a, rfl, by omega⟩
  rintro _ ⟨a, rfl, ha⟩
  have c1 : ∀ c ∈ l.take a, c < 128 := fun c h => hc c (List.mem_of_mem_take h)
  have c2 : ∀ k, ∀ c ∈ l.drop k, c < 128 := fun k c h => hc c (List.mem_of_mem_drop h)
  have app : ∀ {x y : List Nat}, (∀ c ∈ x, c < 128) → (∀ c ∈ y, c < 128) → ∀ c ∈ x ++ y, c < 128 := fun h1 h2 c h => (List.mem_append.mp h).elim (h1 c) (h2 c)
  have ltk : (l.take a).length ≤ 500 := by rw [List.length_take]; omega
  have ldk : ∀ k, (l.drop k).length ≤ 500 := fun k => by rw [List.length_drop]; omega
  refine asg_of (fun d => ∃ ds, d = .list ds ∧ ds.length ≤ 9 ∧ ∀ d ∈ ds, TxD d) (fun K hK => ?_) ?_
  · simp [qRepL, qRev, qRet, qRetN, qAndV, qOrV, qNotV, qIsi, qV, qVB, qC, qNil, qCons, qANil, qACons, qAPrs, qTup, qLst, qOp, qBl, qChain, qUn, qTr, qAnd, qOr, qNot, qIf, qCa, qSl, qSo, qNo, qMt, qMt0, qCall, cal, qCallK, qNext, qSeq, qExp, qIfS, qAsg, and_assoc, qPar, qOwn, qFrz, qApp, qLstN, qListN, qLenE, qLenL, qLcE, qLcL, noOwn, iSeq, iRg1, iRg2, iZp, iEn, iEnT, qYes, qRaise, qTry, hdX, suB, exIn, qXf, qPOwn, qPWh, qSetOwn, qSetWh, qSetIx, fnE, startD, notDict, lcB, wipeD, qPn, qPc, qDct, qRetF, qCallF, qCallP, qBrk, qCnt, truthyD, lenOk, itemsD, seqD, st_0, st_1, st_2, st_3, st_4, st_5, st_6, st_7, st_8, st_9, st_10, st_11, st_12, st_13, st_14, st_15, st_16, st_17, st_18, st_19, st_20, st_21, st_22, st_23, st_24, st_25, st_26, st_27, st_28, st_29, st_30, st_31, st_32, st_33, st_34, st_35, st_36, st_37, st_38, st_39, st_40, st_41, st_42, st_43, st_44, st_45, st_46, st_47, st_48, st_49, st_50, st_51, st_52, st_53, st_54, st_55, s9]
    refine lcD_any TxD (fun e he k hk => ?_) (fun ys h1 h2 => by simp at h1; simpa using hK _ ⟨_, rfl, by omega, h2⟩)
    refine lcB_of ?_
    have : TxD e := txd_of (by
      simp only [List.mem_cons, List.not_mem_nil, or_false] at he
      rcases he with rfl | rfl | rfl | rfl | rfl | rfl | rfl | rfl | rfl <;> decide)
    have hb : e.bulk ≤ 10 := by
      simp only [List.mem_cons, List.not_mem_nil, or_false] at he
      rcases he with rfl | rfl | rfl | rfl | rfl | rfl | rfl | rfl | rfl <;> decide
    obtain ⟨s, rfl, hs1, hs2⟩ := this
    have hb2 : s.length ≤ 10 := by
      have e : (stD s).bulk = s.length := by show (tx s).cps.size = _; simp
      omega
    have ld := ldk a
    simp [qRepL, qRev, qRet, qRetN, qAndV, qOrV, qNotV, qIsi, qV, qVB, qC, qNil, qCons, qANil, qACons, qAPrs, qTup, qLst, qOp, qBl, qChain, qUn, qTr, qAnd, qOr, qNot, qIf, qCa, qSl, qSo, qNo, qMt, qMt0, qCall, cal, qCallK, qNext, qSeq, qExp, qIfS, qAsg, and_assoc, qPar, qOwn, qFrz, qApp, qLstN, qListN, qLenE, qLenL, qLcE, qLcL, noOwn, iSeq, iRg1, iRg2, iZp, iEn, iEnT, qYes, qRaise, qTry, hdX, suB, exIn, qXf, qPOwn, qPWh, qSetOwn, qSetWh, qSetIx, fnE, startD, notDict, lcB, wipeD, qPn, qPc, qDct, qRetF, qCallF, qCallP, qBrk, qCnt, truthyD, lenOk, itemsD, seqD, oSl_to, oSl_from, hlS, oAdd_st]
    refine ⟨by omega, by omega, hk _ ⟨_, rfl, ?_, ?_⟩⟩
    · simp; omega
    · exact app c1 (app hs2 (c2 a))
  rintro _ ⟨f1, rfl, l1, n1⟩
  refine asg_of (fun d => ∃ ds, d = .list ds ∧ ds.length ≤ 20 ∧ ∀ d ∈ ds, TxD d) (fun K hK => ?_) ?_
  · have ld := ldk a
    have ld1 := ldk (a + 1)
    have es : ∀ (l : List Nat) (R : D → Prop), m_upper (stD l) [] R ↔ l.length ≤ 5592405 ∧ R (.str (Txt.upper (tx l))) := fun l R => by
      constructor
      · rintro ⟨x, e, _, h1, h2⟩
        have : tx l = x := by injection e
        rw [← this] at h1 h2
        exact ⟨by simpa using h1, h2⟩
      · rintro ⟨h1, h2⟩
        exact ⟨tx l, rfl, rfl, by simpa using h1, h2⟩
    simp [qRepL, qRev, qRet, qRetN, qAndV, qOrV, qNotV, qIsi, qV, qVB, qC, qNil, qCons, qANil, qACons, qAPrs, qTup, qLst, qOp, qBl, qChain, qUn, qTr, qAnd, qOr, qNot, qIf, qCa, qSl, qSo, qNo, qMt, qMt0, qCall, cal, qCallK, qNext, qSeq, qExp, qIfS, qAsg, and_assoc, qPar, qOwn, qFrz, qApp, qLstN, qListN, qLenE, qLenL, qLcE, qLcL, noOwn, iSeq, iRg1, iRg2, iZp, iEn, iEnT, qYes, qRaise, qTry, hdX, suB, exIn, qXf, qPOwn, qPWh, qSetOwn, qSetWh, qSetIx, fnE, startD, notDict, lcB, wipeD, qPn, qPc, qDct, qRetF, qCallF, qCallP, qBrk, qCnt, truthyD, lenOk, itemsD, seqD, st_0, st_1, st_2, st_3, st_4, st_5, st_6, st_7, st_8, st_9, st_10, st_11, st_12, st_13, st_14, st_15, st_16, st_17, st_18, st_19, st_20, st_21, st_22, st_23, st_24, st_25, st_26, st_27, st_28, st_29, st_30, st_31, st_32, st_33, st_34, st_35, st_36, st_37, st_38, st_39, st_40, st_41, st_42, st_43, st_44, st_45, st_46, st_47, st_48, st_49, st_50, st_51, st_52, st_53, st_54, st_55, s8, oSl_to, oSl_from, oSl_from1, hlS, oAdd_st, tyD, es, hup, hu1]
    have lu : (l.map upc).length ≤ 500 := by simpa using hz
    refine ⟨by omega, by omega, by omega, by omega, by omega, by omega, hK _ ⟨_, rfl, by simp; omega, fun d hd => ?_⟩⟩
    rcases List.mem_append.mp hd with hd | hd
    · exact n1 d hd
    have cn : ∀ x : List Nat, (x.all fun c => decide (c < 128)) = true → ∀ c ∈ x, c < 128 := fun x hx c hc => of_decide_eq_true (List.all_eq_true.mp hx c hc)
    simp only [List.mem_cons, List.not_mem_nil, or_false] at hd
    rcases hd with rfl | rfl | rfl | rfl | rfl | rfl | rfl | rfl
    · exact ⟨_, rfl, by simp; omega, app c1 (c2 _)⟩
    · exact ⟨_, rfl, by simp; omega, c1⟩
    · exact ⟨_, rfl, by simp; omega, c2 _⟩
    · exact ⟨_, rfl, by simp; omega, app hc (cn _ (by decide))⟩
    · exact ⟨_, rfl, by simp; omega, app (cn [32] (by decide)) hc⟩
    · exact ⟨_, rfl, by simp; omega, hu2⟩
    · exact ⟨_, rfl, by simp; omega, app hc (cn _ (by decide))⟩
    · exact ⟨_, rfl, by simp; omega, app (cn [97, 48, 32] (by decide)) hc⟩
  rintro _ ⟨f2, rfl, l2, n2⟩
  refine asg_of (fun d => ∃ ds, d = .list ds ∧ ds.length ≤ 40 ∧ ∀ d ∈ ds, TxD d) (fun K hK => ?_) ?_
  · simp [qRepL, qRev, qRet, qRetN, qAndV, qOrV, qNotV, qIsi, qV, qVB, qC, qNil, qCons, qANil, qACons, qAPrs, qTup, qLst, qOp, qBl, qChain, qUn, qTr, qAnd, qOr, qNot, qIf, qCa, qSl, qSo, qNo, qMt, qMt0, qCall, cal, qCallK, qNext, qSeq, qExp, qIfS, qAsg, and_assoc, qPar, qOwn, qFrz, qApp, qLstN, qListN, qLenE, qLenL, qLcE, qLcL, noOwn, iSeq, iRg1, iRg2, iZp, iEn, iEnT, qYes, qRaise, qTry, hdX, suB, exIn, qXf, qPOwn, qPWh, qSetOwn, qSetWh, qSetIx, fnE, startD, notDict, lcB, wipeD, qPn, qPc, qDct, qRetF, qCallF, qCallP, qBrk, qCnt, truthyD, lenOk, itemsD, seqD, st_0, st_1, st_2, st_3, st_4, st_5, st_6, st_7, st_8, st_9, st_10, st_11, st_12, st_13, st_14, st_15, st_16, st_17, st_18, st_19, st_20, st_21, st_22, st_23, st_24, st_25, st_26, st_27, st_28, st_29, st_30, st_31, st_32, st_33, st_34, st_35, st_36, st_37, st_38, st_39, st_40, st_41, st_42, st_43, st_44, st_45, st_46, st_47, st_48, st_49, st_50, st_51, st_52, st_53, st_54, st_55, s15]
    refine ⟨by omega, hK _ ⟨_, rfl, by simp; omega, fun d hd => ?_⟩⟩
    rcases List.mem_append.mp hd with hd | hd
    · exact n2 d hd
    · refine txd_of ?_
      simp only [List.mem_cons, List.not_mem_nil, or_false] at hd
      rcases hd with rfl | rfl | rfl | rfl | rfl | rfl | rfl | rfl | rfl | rfl | rfl | rfl | rfl | rfl | rfl <;> decide
  rintro _ ⟨f3, rfl, l3, n3⟩
  simp [qRepL, qRev, qRet, qRetN, qAndV, qOrV, qNotV, qIsi, qV, qVB, qC, qNil, qCons, qANil, qACons, qAPrs, qTup, qLst, qOp, qBl, qChain, qUn, qTr, qAnd, qOr, qNot, qIf, qCa, qSl, qSo, qNo, qMt, qMt0, qCall, cal, qCallK, qNext, qSeq, qExp, qIfS, qAsg, and_assoc, qPar, qOwn, qFrz, qApp, qLstN, qListN, qLenE, qLenL, qLcE, qLcL, noOwn, iSeq, iRg1, iRg2, iZp, iEn, iEnT, qYes, qRaise, qTry, hdX, suB, exIn, qXf, qPOwn, qPWh, qSetOwn, qSetWh, qSetIx, fnE, startD, notDict, lcB, wipeD, qPn, qPc, qDct, qRetF, qCallF, qCallP, qBrk, qCnt, truthyD, lenOk, itemsD, seqD, st_0, st_1, st_2, st_3, st_4, st_5, st_6, st_7, st_8, st_9, st_10, st_11, st_12, st_13, st_14, st_15, st_16, st_17, st_18, st_19, st_20, st_21, st_22, st_23, st_24, st_25, st_26, st_27, st_28, st_29, st_30, st_31, st_32, st_33, st_34, st_35, st_36, st_37, st_38, st_39, st_40, st_41, st_42, st_43, st_44, st_45, st_46, st_47, st_48, st_49, st_50, st_51, st_52, st_53, st_54, st_55, s14]
  refine ⟨by omega, h _ (fun d hd => ?_) (by simp; omega)⟩
  rcases List.mem_append.mp hd with hd | hd
  · exact n3 d hd
  · refine txd_of ?_
    simp only [List.mem_cons, List.not_mem_nil, or_false] at hd
    rcases hd with rfl | rfl | rfl | rfl | rfl | rfl | rfl | rfl | rfl | rfl | rfl | rfl | rfl | rfl <;> decide
theorem sc__law_near_texts : FnScope ["press", "text", "at", "found", "sign"] ["press", "text"] (defScope s__law_near_texts) := ⟨rfl, rfl, rfl, by decide +kernel, rfl, by decide +kernel, by decide +kernel⟩
theorem ok__law_near_texts {P : Program} {w : World} {K : Fg} {mg : Str → Option Value} {base : Heap} (T : Tx K mg) : HasD P w K mg base PJ "_law_near_texts" (defArgs s__law_near_texts) 2 ["press", "text"] P__law_near_texts := by
  obtain ⟨f, fd, hm0, F⟩ := T.d__law_near_texts
  exact ⟨f, fd, _, _, hm0, F, fnD_of (N := ["press", "text", "at", "found", "sign"]) F sc__law_near_texts fun cdv A outer s H E g Ex hr hG hm hP hE tk => ⟨t__law_near_texts Ex,
    (qss_cons (qs_set 2 (by exact (qe_callH (ps := ["press", "many"]) hE hP (ok__law_out T) bd__law_out (hr.mono (by decide)) hG hm tk rfl (qa_prs 0 (qa_cons (qe_op opd_add (QE.bb (by exact (qe_callB cad_len rfl T.n_len boot_len (qlb_cons (QE.bb (qe_v 1)) qlb_nil)))) (QE.bb qe_int)) qa_nil)))) sc__law_near_texts.nd)
    (qss_cons (qs_setLc (own := [("sign", 4)]) 3 rfl sc__law_near_texts.nd (sw_true rfl rfl rfl rfl) (by exact (qi_seq (qe_len (qe_tup (ql_cons qe_str (ql_cons qe_str (ql_cons qe_str (ql_cons qe_str (ql_cons qe_str (ql_cons qe_str (ql_cons qe_str (ql_cons qe_str (ql_cons qe_str ql_nil))))))))))))) (by exact blkOk_by (N := ["press", "text", "at", "found", "sign"]) (sc := defScope s__law_near_texts) (own := [("sign", 4)]) (by decide +kernel)) (fun s H C cl fp hd => by exact (qg_name 4 sc__law_near_texts.nd)) (fun s H C cl fp hd => by exact qts_nil) (fun s H C cl fp hd => by exact (qe_op opd_add (QE.bb (qe_op opd_add (QE.bb (qe_slice (QE.bb (qe_v 1)) qo_none (qo_some (QE.bb (qe_v 2))))) (QE.bb (qe_v 4)))) (QE.bb (qe_slice (QE.bb (qe_v 1)) (qo_some (QE.bb (qe_v 2))) qo_none)))))
    (qss_cons (qs_set 3 (qe_op opd_add (QE.bb (qe_v 3)) (QE.bb (qe_lst (ql_cons (qe_op opd_add (QE.bb (qe_slice (QE.bb (qe_v 1)) qo_none (qo_some (QE.bb (qe_v 2))))) (QE.bb (qe_slice (QE.bb (qe_v 1)) (qo_some (QE.bb (qe_op opd_add (QE.bb (qe_v 2)) (QE.bb qe_int)))) qo_none))) (ql_cons (qe_slice (QE.bb (qe_v 1)) qo_none (qo_some (QE.bb (qe_v 2)))) (ql_cons (qe_slice (QE.bb (qe_v 1)) (qo_some (QE.bb (qe_v 2))) qo_none) (ql_cons (qe_op opd_add (QE.bb (qe_v 1)) (QE.bb qe_str)) (ql_cons (qe_op opd_add (QE.bb qe_str) (QE.bb (qe_v 1))) (ql_cons (by exact (qe_bm0 mtd_upper (QE.bb (qe_v 1)) PySem.F.plainAttrs_str PySem.F.slot_str_upper PySem.F.type_str_upper)) (ql_cons (qe_op opd_add (QE.bb (qe_v 1)) (QE.bb qe_str)) (ql_cons (qe_op opd_add (QE.bb qe_str) (QE.bb (qe_v 1))) ql_nil))))))))))) sc__law_near_texts.nd)
    (qss_cons (qs_set 3 (qe_op opd_add (QE.bb (qe_v 3)) (QE.bb (qe_lst (ql_cons qe_str (ql_cons qe_str (ql_cons qe_str (ql_cons qe_str (ql_cons qe_str (ql_cons qe_str (ql_cons qe_str (ql_cons qe_str (ql_cons qe_str (ql_cons qe_str (ql_cons qe_str (ql_cons qe_str (ql_cons qe_str (ql_cons qe_str (ql_cons qe_str ql_nil)))))))))))))))))) sc__law_near_texts.nd)
    (qss_one (qs_ret (QE.bb (qe_op opd_add (QE.bb (qe_v 3)) (QE.bb (qe_lst (ql_cons qe_str (ql_cons qe_str (ql_cons qe_str (ql_cons qe_str (ql_cons qe_str (ql_cons qe_str (ql_cons qe_str (ql_cons qe_str (ql_cons qe_str (ql_cons qe_str (ql_cons qe_str (ql_cons qe_str (ql_cons qe_str (ql_cons qe_str ql_nil)))))))))))))))))))))))),
    fun as R hl h => pure__law_near_texts as R Ex hl h⟩⟩
/-! ### _law_heard -/
def P__law_heard : FS := fun as R _ => ∃ (w : Int) (d : D), as = [.val (.int w), .val d] ∧
  ((w = 0 ∧ Gt d ∧ isThings 4 20 d = false ∧ R (.tuple [.str "bag", d])) ∨
   (w = 1 ∧ ((∃ l, d = stD l ∧ l.length ≤ 10000 ∧ (∀ ts, Hall 4 20 ts → l = hallTx txtS ts → R (.tuple [.str "told", hallD ts])) ∧ ((∀ ts, Hall 4 20 ts → l ≠ hallTx txtS ts) → R (.tuple [.str "text", d]))) ∨ (d.isStr = false ∧ R (.tuple [.str "text", d])))))
def t__law_heard (Ex : Exc → Prop) : TrS := (qTry (fun _ => Ex) (fun E1 => (qRet (qTup (qCons (qC (.str "told")) (qCons (qIf (qBl (qOp oEq (qV 0) (qC (.int 0)))) (qCall E1 (cal 1 P_bag_text) (qACons (qV 1) qANil)) (qCall E1 (cal 1 P_read_bag) (qACons (qV 1) qANil))) qNil))))) (⟨m_InvalidBag, (some 2), (qRet (qTup (qCons (qC (.str "bag")) (qCons (qXf 2 "given" XOK) qNil))))⟩ :: (⟨m_InvalidText, (some 2), (qRet (qTup (qCons (qC (.str "text")) (qCons (qXf 2 "given" XOK) qNil))))⟩ :: (⟨m_AgeError, none, (qRet (qTup (qCons (qC (.str "other")) (qCons (qC .none) qNil))))⟩ :: []))))
theorem pure__law_heard (as : List Sl) (R : D → Prop) (Ex : Exc → Prop) (hl : as.length = 2) (h : P__law_heard as R Ex) : t__law_heard Ex (fnE R) (startD ["which", "thing", "e"] as) := by
  obtain ⟨w, d, rfl, h⟩ := h
  have h2S : 2 ≤ sizeLine := by rw [sizeLine_eq]; decide
  have no : noExc [.val (.int w), .val d, .no] := by
    intro i C f x
    match i with
    | 0 => simp
    | 1 => simp
    | 2 => simp
    | _ + 3 => simp
  have X1 : XOK (Str.ofString "InvalidBag") := by unfold XOK; first | exact .inl rfl | exact .inr (.inl rfl) | exact .inr (.inr rfl)
  have X3 : XOK (Str.ofString "InvalidText") := by unfold XOK; first | exact .inl rfl | exact .inr (.inl rfl) | exact .inr (.inr rfl)
  simp [t__law_heard, qRepL, qRev, qRet, qRetN, qAndV, qOrV, qNotV, qIsi, qV, qVB, qC, qNil, qCons, qANil, qACons, qAPrs, qTup, qLst, qOp, qBl, qChain, qUn, qTr, qAnd, qOr, qNot, qIf, qCa, qSl, qSo, qNo, qMt, qMt0, qCall, cal, qCallK, qNext, qSeq, qExp, qIfS, qAsg, and_assoc, qPar, qOwn, qFrz, qApp, qLstN, qListN, qLenE, qLenL, qLcE, qLcL, noOwn, iSeq, iRg1, iRg2, iZp, iEn, iEnT, qYes, qRaise, qTry, hdX, suB, exIn, qXf, qPOwn, qPWh, qSetOwn, qSetWh, qSetIx, fnE, startD, notDict, lcB, wipeD, qPn, qPc, qDct, qRetF, qCallF, qCallP, qBrk, qCnt, truthyD, lenOk, itemsD, seqD]
  rcases h with ⟨rfl, g, hb, h⟩ | ⟨rfl, h⟩
  · simp
    refine ⟨d, rfl, g, fun ts e hh => ?_, fun _ => .inr ⟨by rfl, no, rfl, X1, h2S, h⟩⟩
    rw [e, (isThings_hall _ _ _).mpr hh] at hb; cases hb
  · simp
    rcases h with ⟨l, rfl, hz, h1, h2⟩ | ⟨hs, h⟩
    · refine ⟨_, rfl, fun k e => ?_, fun z => by cases z⟩
      have : l = k := tx_inj (by injection e)
      subst this
      exact ⟨by omega, fun ts hh e => ⟨h2S, h1 ts hh e⟩, fun hn => .inl ⟨by rfl, .inr ⟨by rfl, no, rfl, X3, h2S, h2 hn⟩⟩⟩
    · refine ⟨d, rfl, fun k e => (by subst e; cases hs), fun _ => .inl ⟨by rfl, .inr ⟨by rfl, no, rfl, X3, h2S, h⟩⟩⟩
theorem sc__law_heard : FnScope ["which", "thing", "e"] ["which", "thing"] (defScope s__law_heard) := ⟨rfl, rfl, rfl, by decide +kernel, rfl, by decide +kernel, by decide +kernel⟩
theorem ok__law_heard {P : Program} {w : World} {K : Fg} {mg : Str → Option Value} {base : Heap} (T : Tx K mg) : HasD P w K mg base PJ "_law_heard" (defArgs s__law_heard) 8 ["which", "thing"] P__law_heard := by
  obtain ⟨f, fd, hm0, F⟩ := T.d__law_heard
  obtain ⟨cl_AgeError, gc_AgeError, mc_AgeError⟩ := T.g_AgeError
  obtain ⟨cl_InvalidBag, gc_InvalidBag, mc_InvalidBag⟩ := T.g_InvalidBag
  obtain ⟨cl_InvalidText, gc_InvalidText, mc_InvalidText⟩ := T.g_InvalidText
  exact ⟨f, fd, _, _, hm0, F, fnD_of (N := ["which", "thing", "e"]) F sc__law_heard fun cdv A outer s H E g Ex hr hG hm hP hE tk => ⟨t__law_heard Ex,
    (qss_one (qs_tryQ hE hm rfl rfl sc__law_heard.nd tk (fun W0 H0 E1 pn xe tk1 hp => by exact (qss_one (qs_ret (QE.bb (qe_tup (ql_cons qe_str (ql_cons (qe_if (qt_cmp (opd_eq (un_of hr)) (QE.bb (qe_v 0)) (QE.bb qe_int)) (by exact (qe_callH (ps := ["bag"]) rfl hP (ok_bag_text T) bd_bag_text (hr.mono (by decide)) hG hm tk1 rfl (qa_cons (qe_v 1) qa_nil))) (by exact (qe_callH (ps := ["text"]) rfl hP (ok_read_bag T) bd_read_bag (hr.mono (by decide)) hG hm tk1 rfl (qa_cons (qe_v 1) qa_nil)))) ql_nil))))))) (by exact (.cons (o := (some (2, "e"))) (m := m_InvalidBag) ⟨rfl, by decide, Or.inl gc_InvalidBag⟩ mc_InvalidBag (fun i n e => by cases e; exact ⟨rfl, rfl⟩) (fun a oe cls d pn hz hf => by exact (qss_one (qs_ret (QE.bb (qe_tup (ql_cons qe_str (ql_cons (qe_xf 2 hm hz hf (fun C Ca hC hg => T.xf_given C Ca hC hg)) ql_nil))))))) (.cons (o := (some (2, "e"))) (m := m_InvalidText) ⟨rfl, by decide, Or.inl gc_InvalidText⟩ mc_InvalidText (fun i n e => by cases e; exact ⟨rfl, rfl⟩) (fun a oe cls d pn hz hf => by exact (qss_one (qs_ret (QE.bb (qe_tup (ql_cons qe_str (ql_cons (qe_xf 2 hm hz hf (fun C Ca hC hg => T.xf_given C Ca hC hg)) ql_nil))))))) (.cons (o := none) (m := m_AgeError) ⟨rfl, by decide, Or.inl gc_AgeError⟩ mc_AgeError (fun i n e => nomatch e) (fun a oe cls d pn hz hf => by exact (qss_one (qs_ret (QE.bb (qe_tup (ql_cons qe_str (ql_cons qe_non ql_nil))))))) .nil)))))),
    fun as R hl h => pure__law_heard as R Ex hl h⟩⟩
/-! ### _law_holds_all -/
def P__law_holds_all : FS := fun as R _ => as = [.prs] ∧ R (.bool true)
def t__law_holds_all (Ex : Exc → Prop) : TrS := (qSeq (qFor (iRg1 (qCons (qC (.int 9)) qNil)) (gNm 1) (qSeq (qAsg (qCall (fun _ => Ex) (cal 2 P__law_sorts) (qAPrs 0 (qACons (qC (.int 12)) qANil))) (gNm 2))
    (qSeq (qFor (iSeq (qLenE (qCall (fun _ => Ex) (cal 2 P__law_near) (qAPrs 0 (qACons (qV 2) qANil))))) (gNm 3) (qSeq (qAsg (qCall (fun _ => Ex) (cal 3 P__law_is_things) (qACons (qV 3) (qACons (qC (.int 20)) (qACons (qC (.int 4)) qANil)))) (gNm 4))
    (qSeq (qIfS (qNot (qTr (qCall (fun _ => Ex) (cal 2 P__law_even) (qACons (qTup (qCons (qCall (fun _ => Ex) (cal 1 P_is_bag) (qACons (qV 3) qANil)) (qCons (qCallK (fun _ => Ex) (cal 1 P_is_bag) 0 1 [0] qANil (qACons (qV 3) qANil)) qNil))) (qACons (qTup (qCons (qV 4) (qCons (qV 4) qNil))) qANil))))) (qRet (qC (.bool false))) qNext)
    (qIfS (qTr (qV 4)) (qSeq (qAsg (qCall (fun _ => Ex) (cal 2 P__law_text) (qACons (qV 3) (qACons (qC (.int 4)) qANil))) (gNm 5))
    (qIfS (qNot (qTr (qCall (fun _ => Ex) (cal 2 P__law_even) (qACons (qTup (qCons (qCall (fun _ => Ex) (cal 1 P_bag_text) (qACons (qV 3) qANil)) (qCons (qCallK (fun _ => Ex) (cal 1 P_bag_text) 0 1 [0] qANil (qACons (qV 3) qANil)) (qCons (qCall (fun _ => Ex) (cal 1 P_read_bag) (qACons (qV 5) qANil)) (qCons (qCallK (fun _ => Ex) (cal 1 P_read_bag) 0 1 [0] qANil (qACons (qV 5) qANil)) qNil))))) (qACons (qTup (qCons (qV 5) (qCons (qV 5) (qCons (qV 3) (qCons (qV 3) qNil))))) qANil))))) (qRet (qC (.bool false))) qNext)) (qIfS (qNot (qTr (qCall (fun _ => Ex) (cal 2 P__law_even) (qACons (qLcE (qLcL [6] (iSeq (qLenE (qTup (qCons (qC (.int 0)) qNil)))) (gNm 6) qYes (qCall E0 (cal 2 P__law_heard) (qACons (qV 6) (qACons (qV 3) qANil))))) (qACons (qRepL (qCons (qTup (qCons (qC (.str "bag")) (qCons (qV 3) qNil))) qNil) (qC (.int 1))) qANil))))) (qRet (qC (.bool false))) qNext)))))
    (qSeq (qFor (iSeq (qLenE (qCall (fun _ => Ex) (cal 2 P__law_near_texts) (qAPrs 0 (qACons (qCall (fun _ => Ex) (cal 2 P__law_text) (qACons (qV 2) (qACons (qC (.int 4)) qANil))) qANil))))) (gNm 5) (qSeq (qAsg (qCall (fun _ => Ex) (cal 2 P__law_read) (qACons (qV 5) (qACons (qC (.int 4)) qANil))) (gNm 4))
    (qIfS (qNot (qTr (qCall (fun _ => Ex) (cal 2 P__law_even) (qACons (qCall (fun _ => Ex) (cal 2 P__law_heard) (qACons (qC (.int 1)) (qACons (qV 5) qANil))) (qACons (qIf (qBl (qOp oIsNotN (qV 4) (qC .none))) (qTup (qCons (qC (.str "told")) (qCons (qV 4) qNil))) (qTup (qCons (qC (.str "text")) (qCons (qV 5) qNil)))) qANil))))) (qRet (qC (.bool false))) qNext)))
    (qIfS (qNot (qTr (qCall (fun _ => Ex) (cal 2 P__law_even) (qACons (qTup (qCons (qCall (fun _ => Ex) (cal 1 P_is_hall) (qACons (qV 2) qANil)) (qCons (qCall (fun _ => Ex) (cal 1 P_bag_of) (qACons (qV 2) qANil)) (qCons (qCallK (fun _ => Ex) (cal 1 P_bag_of) 0 1 [0] qANil (qACons (qV 2) qANil)) (qCons (qCall (fun _ => Ex) (cal 2 P_has) (qACons (qV 2) (qACons (qV 2) qANil))) (qCons (qCallK (fun _ => Ex) (cal 2 P_has) 0 2 [1, 0] qANil (qACons (qTup qNil) (qACons (qV 2) qANil))) qNil)))))) (qACons (qTup (qCons (qC (.bool true)) (qCons (qV 2) (qCons (qV 2) (qCons (qC (.bool true)) (qCons (qC (.bool true)) qNil)))))) qANil))))) (qRet (qC (.bool false))) qNext)))))
    (qRet (qCa cAll (qCons (qLcE (qLcL [3] (iSeq (qLenE (qTup (qCons (qC .none) (qCons (qC (.int 5)) (qCons (qTup (qCons (qC (.str "a0")) qNil)) (qCons (qLst (qCons (qC (.str "a0")) qNil)) (qCons (qC (.bool true)) qNil)))))))) (gNm 3) qYes (qCall E0 (cal 2 P__law_even) (qACons (qCall E0 (cal 2 P__law_heard) (qACons (qC (.int 1)) (qACons (qV 3) qANil))) (qACons (qTup (qCons (qC (.str "text")) (qCons (qV 3) qNil))) qANil))))) qNil))))
theorem bagZ : evenZ (.list [.tuple [.str "bag", .dict []]]) := by
  refine ⟨rfl, by decide, .inr rfl, by decide, ?_⟩
  rw [sizeLine_eq]
  decide +kernel
theorem near_even {d : D} (h : NearD d) : evenK (.list [.tuple [.str "bag", d]]) ∧ Gt d := by
  rcases h with ⟨h1, h2, h3⟩ | rfl
  · have tb : Str.ofString "bag" = tx [98, 97, 103] := by decide +kernel
    rw [tb]
    refine ⟨(ev_lst (n := 620030) (k := 9) (m := 1) (fun e he => ?_) (by simp)).k (by decide) (by decide), h1.t⟩
    simp at he
    rw [he]
    exact ev_told h2 (by decide) (by decide) (by decide)
  · exact ⟨.inr bagZ, gt_dict⟩
theorem bag_text_ok {ts : List Th} {R : D → Prop} {Ex : Exc → Prop} (h : Hall 4 20 ts) (r : R (stD (hallTx txtS ts))) : P_bag_text [.val (hallD ts)] R Ex :=
  ⟨_, rfl, good_hall (most := 4).t, fun us e _ => by rw [← hallD_inj e]; exact r, fun z => by rw [(isThings_hall _ _ _).mpr h] at z; cases z⟩
theorem hallTx_inj {m : Nat} {f : Th → List Nat} (W : Wr m f) {ts us : List Th} (h1 : ∀ t ∈ ts, okT m t) (h2 : ∀ t ∈ us, okT m t) (e : hallTx f ts = hallTx f us) : ts = us := by
  by_cases hu : us = []
  · subst hu
    exact W.dash h1 e
  · have hl : hallTx f us ≠ [45] := fun z => hu (W.dash h2 z)
    exact W.map_inj h1 h2 ((W.tells (l := hallTx f us) hl h1 e.symm).symm.trans (W.words h2 hu))
theorem read_bag_ok {ts : List Th} {R : D → Prop} {Ex : Exc → Prop} (h : Hall 4 20 ts) (r : R (hallD ts)) : P_read_bag [.val (stD (hallTx txtS ts))] R Ex := by
  have hl := (wrS.len h.ok).1
  have hn := h.len
  refine ⟨_, rfl, fun l e => ?_, fun z => by cases z⟩
  have e2 : hallTx txtS ts = l := tx_inj (by injection e)
  subst e2
  refine ⟨by omega, fun us hu e => ?_, fun hno => (hno ts h rfl).elim⟩
  rw [← hallTx_inj wrS h.ok hu.ok e]; exact r
theorem pure__law_holds_all (as : List Sl) (R : D → Prop) (Ex : Exc → Prop) (hl : as.length = 1) (h : P__law_holds_all as R Ex) : t__law_holds_all Ex (fnE R) (startD ["press", "lap", "own", "thing", "due", "text", "which"] as) := by
  obtain ⟨rfl, h⟩ := h
  have hS : 100000 ≤ sizeLine := by rw [sizeLine_eq]; decide
  have s0 : 0 ≤ sizeLine := by omega
  have s1 : 1 ≤ sizeLine := by omega
  have s2 : 2 ≤ sizeLine := by omega
  have s4 : 4 ≤ sizeLine := by omega
  have s5 : 5 ≤ sizeLine := by omega
  unfold t__law_holds_all
  refine seq_for (fun _ => True) (fun _ ρ => ∃ t1 t2 t3 t4 t5 : Sl, nOwn t3 ∧ ρ = [.prs, t1, t2, t3, t4, t5, .no]) (fun J hJ => ?_) (fun ds hd => ?_) (fun ρ' h' => ?_) (fun d rest ρ' h' => ?_)
  · simp [qRepL, qRev, qRet, qRetN, qAndV, qOrV, qNotV, qIsi, qV, qVB, qC, qNil, qCons, qANil, qACons, qAPrs, qTup, qLst, qOp, qBl, qChain, qUn, qTr, qAnd, qOr, qNot, qIf, qCa, qSl, qSo, qNo, qMt, qMt0, qCall, cal, qCallK, qNext, qSeq, qExp, qIfS, qAsg, and_assoc, qPar, qOwn, qFrz, qApp, qLstN, qListN, qLenE, qLenL, qLcE, qLcL, noOwn, iSeq, iRg1, iRg2, iZp, iEn, iEnT, qYes, qRaise, qTry, hdX, suB, exIn, qXf, qPOwn, qPWh, qSetOwn, qSetWh, qSetIx, fnE, startD, notDict, lcB, wipeD, qPn, qPc, qDct, qRetF, qCallF, qCallP, qBrk, qCnt, truthyD, lenOk, itemsD, seqD]
    exact hJ _ trivial
  · exact ⟨.no, .no, .no, .no, .no, nOwn_no, rfl⟩
  · obtain ⟨t1, t2, t3, t4, t5, n3, rfl⟩ := h'
    have tt : Str.ofString "text" = tx [116, 101, 120, 116] := by decide +kernel
    simp [qRepL, qRev, qRet, qRetN, qAndV, qOrV, qNotV, qIsi, qV, qVB, qC, qNil, qCons, qANil, qACons, qAPrs, qTup, qLst, qOp, qBl, qChain, qUn, qTr, qAnd, qOr, qNot, qIf, qCa, qSl, qSo, qNo, qMt, qMt0, qCall, cal, qCallK, qNext, qSeq, qExp, qIfS, qAsg, and_assoc, qPar, qOwn, qFrz, qApp, qLstN, qListN, qLenE, qLenL, qLcE, qLcL, noOwn, iSeq, iRg1, iRg2, iZp, iEn, iEnT, qYes, qRaise, qTry, hdX, suB, exIn, qXf, qPOwn, qPWh, qSetOwn, qSetWh, qSetIx, fnE, startD, notDict, lcB, wipeD, qPn, qPc, qDct, qRetF, qCallF, qCallP, qBrk, qCnt, truthyD, lenOk, itemsD, seqD, st_0, st_1, st_2, st_3, st_4, st_5, st_6, st_7, st_8, st_9, st_10, st_11, st_12, st_13, st_14, st_15, st_16, st_17, st_18, st_19, st_20, st_21, st_22, st_23, st_24, st_25, st_26, st_27, st_28, st_29, st_30, st_31, st_32, st_33, st_34, st_35, st_36, st_37, st_38, st_39, st_40, st_41, st_42, st_43, st_44, st_45, st_46, st_47, st_48, st_49, st_50, st_51, st_52, st_53, st_54, st_55, s1, s5]
    refine ⟨fun ds z => n3 ds z, lcD_map id (fun _ => .bool true) (by simp; rfl) (fun x hx k hk => ?_) ?_⟩
    · have hx2 : x.isStr = false ∧ Ev 400 5 x := by
        simp only [List.mem_cons, List.not_mem_nil, or_false] at hx
        rcases hx with rfl | rfl | rfl | rfl | rfl <;> exact ⟨rfl, ⟨rfl, by decide, by decide⟩⟩
      refine lcB_of (even_e (fun d => d = .tuple [.str "text", x]) (fun K hK => ?_) ?_ hk)
      · simp [qRepL, qRev, qRet, qRetN, qAndV, qOrV, qNotV, qIsi, qV, qVB, qC, qNil, qCons, qANil, qACons, qAPrs, qTup, qLst, qOp, qBl, qChain, qUn, qTr, qAnd, qOr, qNot, qIf, qCa, qSl, qSo, qNo, qMt, qMt0, qCall, cal, qCallK, qNext, qSeq, qExp, qIfS, qAsg, and_assoc, qPar, qOwn, qFrz, qApp, qLstN, qListN, qLenE, qLenL, qLcE, qLcL, noOwn, iSeq, iRg1, iRg2, iZp, iEn, iEnT, qYes, qRaise, qTry, hdX, suB, exIn, qXf, qPOwn, qPWh, qSetOwn, qSetWh, qSetIx, fnE, startD, notDict, lcB, wipeD, qPn, qPc, qDct, qRetF, qCallF, qCallP, qBrk, qCnt, truthyD, lenOk, itemsD, seqD]
        exact ⟨1, x, rfl, .inr ⟨rfl, .inr ⟨hx2.1, hK _ rfl⟩⟩⟩
      · rintro _ rfl
        rw [tt]
        refine ⟨(ev_told hx2.2 (by decide) (by decide) (by decide : (400 + 11) * 2 ≤ 1000)).k (by decide) (by decide), fun K hK => ?_⟩
        simp [qRepL, qRev, qRet, qRetN, qAndV, qOrV, qNotV, qIsi, qV, qVB, qC, qNil, qCons, qANil, qACons, qAPrs, qTup, qLst, qOp, qBl, qChain, qUn, qTr, qAnd, qOr, qNot, qIf, qCa, qSl, qSo, qNo, qMt, qMt0, qCall, cal, qCallK, qNext, qSeq, qExp, qIfS, qAsg, and_assoc, qPar, qOwn, qFrz, qApp, qLstN, qListN, qLenE, qLenL, qLcE, qLcL, noOwn, iSeq, iRg1, iRg2, iZp, iEn, iEnT, qYes, qRaise, qTry, hdX, suB, exIn, qXf, qPOwn, qPWh, qSetOwn, qSetWh, qSetIx, fnE, startD, notDict, lcB, wipeD, qPn, qPc, qDct, qRetF, qCallF, qCallP, qBrk, qCnt, truthyD, lenOk, itemsD, seqD, s2]
        exact hK
    · have e : ∀ l : List D, (l.map fun _ => PyData.bool true) = l.map fun x => .bool ((fun _ => true) x) := fun _ => rfl
      rw [e, cAll_map]
      have e2 : ∀ l : List D, (l.all fun _ => true) = true := fun l => by simp
      rw [e2]
      exact ⟨trivial, h⟩
  · obtain ⟨t1, t2, t3, t4, t5, n3, rfl⟩ := h'
    refine asg_of (fun d => ∃ ts, d = hallD ts ∧ Hall 4 12 ts) (fun K hK => ?_) ?_
    · simp [qRepL, qRev, qRet, qRetN, qAndV, qOrV, qNotV, qIsi, qV, qVB, qC, qNil, qCons, qANil, qACons, qAPrs, qTup, qLst, qOp, qBl, qChain, qUn, qTr, qAnd, qOr, qNot, qIf, qCa, qSl, qSo, qNo, qMt, qMt0, qCall, cal, qCallK, qNext, qSeq, qExp, qIfS, qAsg, and_assoc, qPar, qOwn, qFrz, qApp, qLstN, qListN, qLenE, qLenL, qLcE, qLcL, noOwn, iSeq, iRg1, iRg2, iZp, iEn, iEnT, qYes, qRaise, qTry, hdX, suB, exIn, qXf, qPOwn, qPWh, qSetOwn, qSetWh, qSetIx, fnE, startD, notDict, lcB, wipeD, qPn, qPc, qDct, qRetF, qCallF, qCallP, qBrk, qCnt, truthyD, lenOk, itemsD, seqD]
      exact ⟨12, rfl, by decide, fun ts ht => hK _ ⟨_, rfl, hall_bag ht⟩⟩
    rintro _ ⟨ts, rfl, hh⟩
    have h20 : Hall 4 20 ts := hh.mono (Nat.le_refl _) (by decide)
    have h60 : Hall 9999 60 ts := hh.mono (by decide) (by decide)
    have hts := hh.len
    refine seq_for (fun ds => ∀ d ∈ ds, NearD d) (fun rest ρ => (∀ d ∈ rest, NearD d) ∧ ∃ t1 t3 t4 t5 : Sl, nOwn t3 ∧ ρ = [.prs, t1, .val (hallD ts), t3, t4, t5, .no]) (fun J hJ => ?_) (fun ds hd => ?_) (fun ρ' h' => ?_) (fun x rest2 ρ' h' => ?_)
    · simp [qRepL, qRev, qRet, qRetN, qAndV, qOrV, qNotV, qIsi, qV, qVB, qC, qNil, qCons, qANil, qACons, qAPrs, qTup, qLst, qOp, qBl, qChain, qUn, qTr, qAnd, qOr, qNot, qIf, qCa, qSl, qSo, qNo, qMt, qMt0, qCall, cal, qCallK, qNext, qSeq, qExp, qIfS, qAsg, and_assoc, qPar, qOwn, qFrz, qApp, qLstN, qListN, qLenE, qLenL, qLcE, qLcL, noOwn, iSeq, iRg1, iRg2, iZp, iEn, iEnT, qYes, qRaise, qTry, hdX, suB, exIn, qXf, qPOwn, qPWh, qSetOwn, qSetWh, qSetIx, fnE, startD, notDict, lcB, wipeD, qPn, qPc, qDct, qRetF, qCallF, qCallP, qBrk, qCnt, truthyD, lenOk, itemsD, seqD]
      exact ⟨ts, rfl, h60.ok, by omega, fun ds h1 h2 => fun _ => ⟨ds, rfl, hJ _ h1⟩⟩
    · exact ⟨hd, _, _, _, _, n3, rfl⟩
    · obtain ⟨_, t1, t3, t4, t5, n3, rfl⟩ := h'
      have hlen := wrS.len h20.ok
      have tt : Str.ofString "text" = tx [116, 101, 120, 116] := by decide +kernel
      have td : Str.ofString "told" = tx [116, 111, 108, 100] := by decide +kernel
      refine seq_for (fun ds => ∀ d ∈ ds, TxD d) (fun rest ρ => (∀ d ∈ rest, TxD d) ∧ ∃ t1 t3 t4 t5 : Sl, nOwn t3 ∧ ρ = [.prs, t1, .val (hallD ts), t3, t4, t5, .no]) (fun J hJ => ?_) (fun ds hd => ?_) (fun ρ' h' => ?_) (fun x rest2 ρ' h' => ?_)
      · simp [qRepL, qRev, qRet, qRetN, qAndV, qOrV, qNotV, qIsi, qV, qVB, qC, qNil, qCons, qANil, qACons, qAPrs, qTup, qLst, qOp, qBl, qChain, qUn, qTr, qAnd, qOr, qNot, qIf, qCa, qSl, qSo, qNo, qMt, qMt0, qCall, cal, qCallK, qNext, qSeq, qExp, qIfS, qAsg, and_assoc, qPar, qOwn, qFrz, qApp, qLstN, qListN, qLenE, qLenL, qLcE, qLcL, noOwn, iSeq, iRg1, iRg2, iZp, iEn, iEnT, qYes, qRaise, qTry, hdX, suB, exIn, qXf, qPOwn, qPWh, qSetOwn, qSetWh, qSetIx, fnE, startD, notDict, lcB, wipeD, qPn, qPc, qDct, qRetF, qCallF, qCallP, qBrk, qCnt, truthyD, lenOk, itemsD, seqD]
        exact ⟨ts, .inl ⟨rfl, h20.ok, hallTx txtS ts, rfl, by omega, hlen.2, fun ds h1 h2 => fun _ => ⟨ds, rfl, hJ _ h1⟩⟩, by omega⟩
      · exact ⟨hd, _, _, _, _, n3, rfl⟩
      · obtain ⟨_, t1, t3, t4, t5, n3, rfl⟩ := h'
        refine even_if (fun d => d = .tuple [.bool true, hallD ts, hallD ts, .bool true, .bool true]) (fun K hK => ?_) ?_ ?_
        · have hK := hK _ rfl
          have i60 : isThings 9999 60 (hallD ts) = true := (isThings_hall _ _ _).mpr h60
          have h0 : Hall 4 20 [] := ⟨by simp, by simp, by simp⟩
          simp [qRepL, qRev, qRet, qRetN, qAndV, qOrV, qNotV, qIsi, qV, qVB, qC, qNil, qCons, qANil, qACons, qAPrs, qTup, qLst, qOp, qBl, qChain, qUn, qTr, qAnd, qOr, qNot, qIf, qCa, qSl, qSo, qNo, qMt, qMt0, qCall, cal, qCallK, qNext, qSeq, qExp, qIfS, qAsg, and_assoc, qPar, qOwn, qFrz, qApp, qLstN, qListN, qLenE, qLenL, qLcE, qLcL, noOwn, iSeq, iRg1, iRg2, iZp, iEn, iEnT, qYes, qRaise, qTry, hdX, suB, exIn, qXf, qPOwn, qPWh, qSetOwn, qSetWh, qSetIx, fnE, startD, notDict, lcB, wipeD, qPn, qPc, qDct, qRetF, qCallF, qCallP, qBrk, qCnt, truthyD, lenOk, itemsD, seqD, s0, s5]
          refine ⟨_, rfl, good_hall (most := 9999).t, ?_⟩
          rw [i60]
          refine bag_of_ok h60 ?_
          rw [bagT_self h20]
          refine bag_of_ok h60 ?_
          rw [bagT_self h20]
          refine has_ok h60 h20 ?_
          rw [hasL_self h20]
          refine has_ok h60 h0 ?_
          have e0 : hasL ts [] = true := rfl
          rw [e0]
          exact hK
        · rintro _ rfl
          refine ⟨(ev_tup (n := 5000) (k := 2) (m := 5) (fun e he => ?_) (by simp)).k (by decide) (by decide), fun K hK => ?_⟩
          · have eh := (ev_hall (n := 20) (by decide) h20.ok h20.len).mono (m := 5000) (j := 2) (by decide) (by decide)
            simp only [List.mem_cons, List.not_mem_nil, or_false] at he
            rcases he with rfl | rfl | rfl | rfl | rfl
            · exact ev_bool
            · exact eh
            · exact eh
            · exact ev_bool
            · exact ev_bool
          · simp [qRepL, qRev, qRet, qRetN, qAndV, qOrV, qNotV, qIsi, qV, qVB, qC, qNil, qCons, qANil, qACons, qAPrs, qTup, qLst, qOp, qBl, qChain, qUn, qTr, qAnd, qOr, qNot, qIf, qCa, qSl, qSo, qNo, qMt, qMt0, qCall, cal, qCallK, qNext, qSeq, qExp, qIfS, qAsg, and_assoc, qPar, qOwn, qFrz, qApp, qLstN, qListN, qLenE, qLenL, qLcE, qLcL, noOwn, iSeq, iRg1, iRg2, iZp, iEn, iEnT, qYes, qRaise, qTry, hdX, suB, exIn, qXf, qPOwn, qPWh, qSetOwn, qSetWh, qSetIx, fnE, startD, notDict, lcB, wipeD, qPn, qPc, qDct, qRetF, qCallF, qCallP, qBrk, qCnt, truthyD, lenOk, itemsD, seqD, s5]; exact hK
        · exact ⟨_, _, _, _, _, n3, rfl⟩
      · obtain ⟨hr, t1, t3, t4, t5, n3, rfl⟩ := h'
        obtain ⟨l, rfl, hlz, hlc⟩ := hr x List.mem_cons_self
        have hr2 := fun d hd => hr d (List.mem_cons_of_mem _ hd)
        have evl : Ev 3000 0 (stD l) := ev_str hlc hlz
        by_cases hex : ∃ us, Hall 4 20 us ∧ l = hallTx txtS us
        · obtain ⟨us, hu, el⟩ := hex
          have un : ∀ vs, Hall 4 20 vs → l = hallTx txtS vs → vs = us := fun vs hv e => hallTx_inj wrS hv.ok hu.ok (e.symm.trans el)
          refine asg_of (fun d => d = hallD us) (fun K hK => ?_) ?_
          · simp [qRepL, qRev, qRet, qRetN, qAndV, qOrV, qNotV, qIsi, qV, qVB, qC, qNil, qCons, qANil, qACons, qAPrs, qTup, qLst, qOp, qBl, qChain, qUn, qTr, qAnd, qOr, qNot, qIf, qCa, qSl, qSo, qNo, qMt, qMt0, qCall, cal, qCallK, qNext, qSeq, qExp, qIfS, qAsg, and_assoc, qPar, qOwn, qFrz, qApp, qLstN, qListN, qLenE, qLenL, qLcE, qLcL, noOwn, iSeq, iRg1, iRg2, iZp, iEn, iEnT, qYes, qRaise, qTry, hdX, suB, exIn, qXf, qPOwn, qPWh, qSetOwn, qSetWh, qSetIx, fnE, startD, notDict, lcB, wipeD, qPn, qPc, qDct, qRetF, qCallF, qCallP, qBrk, qCnt, truthyD, lenOk, itemsD, seqD]
            exact ⟨l, 4, 4, 20, txtS, rfl, .inl ⟨rfl, rfl, rfl, rfl⟩, by omega, fun vs hv e => by rw [un vs hv e]; exact hK _ rfl, fun hno => (hno us hu el).elim⟩
          rintro _ rfl
          refine even_if (fun d => d = .tuple [.str "told", hallD us]) (fun K hK => ?_) ?_ ?_
          · simp [qRepL, qRev, qRet, qRetN, qAndV, qOrV, qNotV, qIsi, qV, qVB, qC, qNil, qCons, qANil, qACons, qAPrs, qTup, qLst, qOp, qBl, qChain, qUn, qTr, qAnd, qOr, qNot, qIf, qCa, qSl, qSo, qNo, qMt, qMt0, qCall, cal, qCallK, qNext, qSeq, qExp, qIfS, qAsg, and_assoc, qPar, qOwn, qFrz, qApp, qLstN, qListN, qLenE, qLenL, qLcE, qLcL, noOwn, iSeq, iRg1, iRg2, iZp, iEn, iEnT, qYes, qRaise, qTry, hdX, suB, exIn, qXf, qPOwn, qPWh, qSetOwn, qSetWh, qSetIx, fnE, startD, notDict, lcB, wipeD, qPn, qPc, qDct, qRetF, qCallF, qCallP, qBrk, qCnt, truthyD, lenOk, itemsD, seqD]
            exact ⟨1, _, rfl, .inr ⟨rfl, .inl ⟨l, rfl, by omega, fun vs hv e => by rw [un vs hv e]; exact hK _ rfl, fun hno => (hno us hu el).elim⟩⟩⟩
          · rintro _ rfl
            rw [td]
            refine ⟨(ev_told (ev_hall (n := 20) (by decide) hu.ok hu.len) (by decide) (by decide) (by decide : ((60 + 1) * 20 + 11) * 2 ≤ 3000)).k (by decide) (by decide), fun K hK => ?_⟩
            simp [qRepL, qRev, qRet, qRetN, qAndV, qOrV, qNotV, qIsi, qV, qVB, qC, qNil, qCons, qANil, qACons, qAPrs, qTup, qLst, qOp, qBl, qChain, qUn, qTr, qAnd, qOr, qNot, qIf, qCa, qSl, qSo, qNo, qMt, qMt0, qCall, cal, qCallK, qNext, qSeq, qExp, qIfS, qAsg, and_assoc, qPar, qOwn, qFrz, qApp, qLstN, qListN, qLenE, qLenL, qLcE, qLcL, noOwn, iSeq, iRg1, iRg2, iZp, iEn, iEnT, qYes, qRaise, qTry, hdX, suB, exIn, qXf, qPOwn, qPWh, qSetOwn, qSetWh, qSetIx, fnE, startD, notDict, lcB, wipeD, qPn, qPc, qDct, qRetF, qCallF, qCallP, qBrk, qCnt, truthyD, lenOk, itemsD, seqD, st_0, st_1, st_2, st_3, st_4, st_5, st_6, st_7, st_8, st_9, st_10, st_11, st_12, st_13, st_14, st_15, st_16, st_17, st_18, st_19, st_20, st_21, st_22, st_23, st_24, st_25, st_26, st_27, st_28, st_29, st_30, st_31, st_32, st_33, st_34, st_35, st_36, st_37, st_38, st_39, st_40, st_41, st_42, st_43, st_44, st_45, st_46, st_47, st_48, st_49, st_50, st_51, st_52, st_53, st_54, st_55, oIsNotN, isN, s2, hallD]
            exact hK
          · exact ⟨hr2, _, _, _, _, n3, rfl⟩
        · have hno : ∀ us, Hall 4 20 us → l ≠ hallTx txtS us := fun us hu e => hex ⟨us, hu, e⟩
          refine asg_of (fun d => d = .none) (fun K hK => ?_) ?_
          · simp [qRepL, qRev, qRet, qRetN, qAndV, qOrV, qNotV, qIsi, qV, qVB, qC, qNil, qCons, qANil, qACons, qAPrs, qTup, qLst, qOp, qBl, qChain, qUn, qTr, qAnd, qOr, qNot, qIf, qCa, qSl, qSo, qNo, qMt, qMt0, qCall, cal, qCallK, qNext, qSeq, qExp, qIfS, qAsg, and_assoc, qPar, qOwn, qFrz, qApp, qLstN, qListN, qLenE, qLenL, qLcE, qLcL, noOwn, iSeq, iRg1, iRg2, iZp, iEn, iEnT, qYes, qRaise, qTry, hdX, suB, exIn, qXf, qPOwn, qPWh, qSetOwn, qSetWh, qSetIx, fnE, startD, notDict, lcB, wipeD, qPn, qPc, qDct, qRetF, qCallF, qCallP, qBrk, qCnt, truthyD, lenOk, itemsD, seqD]
            exact ⟨l, 4, 4, 20, txtS, rfl, .inl ⟨rfl, rfl, rfl, rfl⟩, by omega, fun vs hv e => (hno vs hv e).elim, fun _ => hK _ rfl⟩
          rintro _ rfl
          refine even_if (fun d => d = .tuple [.str "text", stD l]) (fun K hK => ?_) ?_ ?_
          · simp [qRepL, qRev, qRet, qRetN, qAndV, qOrV, qNotV, qIsi, qV, qVB, qC, qNil, qCons, qANil, qACons, qAPrs, qTup, qLst, qOp, qBl, qChain, qUn, qTr, qAnd, qOr, qNot, qIf, qCa, qSl, qSo, qNo, qMt, qMt0, qCall, cal, qCallK, qNext, qSeq, qExp, qIfS, qAsg, and_assoc, qPar, qOwn, qFrz, qApp, qLstN, qListN, qLenE, qLenL, qLcE, qLcL, noOwn, iSeq, iRg1, iRg2, iZp, iEn, iEnT, qYes, qRaise, qTry, hdX, suB, exIn, qXf, qPOwn, qPWh, qSetOwn, qSetWh, qSetIx, fnE, startD, notDict, lcB, wipeD, qPn, qPc, qDct, qRetF, qCallF, qCallP, qBrk, qCnt, truthyD, lenOk, itemsD, seqD]
            exact ⟨1, _, rfl, .inr ⟨rfl, .inl ⟨l, rfl, by omega, fun vs hv e => (hno vs hv e).elim, fun _ => hK _ rfl⟩⟩⟩
          · rintro _ rfl
            rw [tt]
            refine ⟨(ev_told evl (by decide) (by decide) (by decide : (3000 + 11) * 2 ≤ 7000)).k (by decide) (by decide), fun K hK => ?_⟩
            simp [qRepL, qRev, qRet, qRetN, qAndV, qOrV, qNotV, qIsi, qV, qVB, qC, qNil, qCons, qANil, qACons, qAPrs, qTup, qLst, qOp, qBl, qChain, qUn, qTr, qAnd, qOr, qNot, qIf, qCa, qSl, qSo, qNo, qMt, qMt0, qCall, cal, qCallK, qNext, qSeq, qExp, qIfS, qAsg, and_assoc, qPar, qOwn, qFrz, qApp, qLstN, qListN, qLenE, qLenL, qLcE, qLcL, noOwn, iSeq, iRg1, iRg2, iZp, iEn, iEnT, qYes, qRaise, qTry, hdX, suB, exIn, qXf, qPOwn, qPWh, qSetOwn, qSetWh, qSetIx, fnE, startD, notDict, lcB, wipeD, qPn, qPc, qDct, qRetF, qCallF, qCallP, qBrk, qCnt, truthyD, lenOk, itemsD, seqD, st_0, st_1, st_2, st_3, st_4, st_5, st_6, st_7, st_8, st_9, st_10, st_11, st_12, st_13, st_14, st_15, st_16, st_17, st_18, st_19, st_20, st_21, st_22, st_23, st_24, st_25, st_26, st_27, st_28, st_29, st_30, st_31, st_32, st_33, st_34, st_35, st_36, st_37, st_38, st_39, st_40, st_41, st_42, st_43, st_44, st_45, st_46, st_47, st_48, st_49, st_50, st_51, st_52, st_53, st_54, st_55, oIsNotN, isN, s2]
            exact hK
          · exact ⟨hr2, _, _, _, _, n3, rfl⟩
    · obtain ⟨hr, t1, t3, t4, t5, n3, rfl⟩ := h'
      have hx := hr x List.mem_cons_self
      have hr2 := fun d hd => hr d (List.mem_cons_of_mem _ hd)
      obtain ⟨ev, gt⟩ := near_even hx
      obtain ⟨b, hb⟩ : ∃ b, b = isThings 4 20 x := ⟨_, rfl⟩
      refine asg_of (fun d => d = .bool b) (fun K hK => ?_) ?_
      · simp [qRepL, qRev, qRet, qRetN, qAndV, qOrV, qNotV, qIsi, qV, qVB, qC, qNil, qCons, qANil, qACons, qAPrs, qTup, qLst, qOp, qBl, qChain, qUn, qTr, qAnd, qOr, qNot, qIf, qCa, qSl, qSo, qNo, qMt, qMt0, qCall, cal, qCallK, qNext, qSeq, qExp, qIfS, qAsg, and_assoc, qPar, qOwn, qFrz, qApp, qLstN, qListN, qLenE, qLenL, qLcE, qLcL, noOwn, iSeq, iRg1, iRg2, iZp, iEn, iEnT, qYes, qRaise, qTry, hdX, suB, exIn, qXf, qPOwn, qPWh, qSetOwn, qSetWh, qSetIx, fnE, startD, notDict, lcB, wipeD, qPn, qPc, qDct, qRetF, qCallF, qCallP, qBrk, qCnt, truthyD, lenOk, itemsD, seqD]
        exact ⟨x, 20, 4, rfl, gt, by rw [← hb]; exact hK _ rfl⟩
      rintro _ rfl
      refine even_seq (fun d => d = .tuple [.bool b, .bool b]) (fun K hK => ?_) ?_ ?_
      · simp [qRepL, qRev, qRet, qRetN, qAndV, qOrV, qNotV, qIsi, qV, qVB, qC, qNil, qCons, qANil, qACons, qAPrs, qTup, qLst, qOp, qBl, qChain, qUn, qTr, qAnd, qOr, qNot, qIf, qCa, qSl, qSo, qNo, qMt, qMt0, qCall, cal, qCallK, qNext, qSeq, qExp, qIfS, qAsg, and_assoc, qPar, qOwn, qFrz, qApp, qLstN, qListN, qLenE, qLenL, qLcE, qLcL, noOwn, iSeq, iRg1, iRg2, iZp, iEn, iEnT, qYes, qRaise, qTry, hdX, suB, exIn, qXf, qPOwn, qPWh, qSetOwn, qSetWh, qSetIx, fnE, startD, notDict, lcB, wipeD, qPn, qPc, qDct, qRetF, qCallF, qCallP, qBrk, qCnt, truthyD, lenOk, itemsD, seqD, P_is_bag, s2]
        rw [← hb]
        exact ⟨gt, hK _ rfl⟩
      · rintro _ rfl
        refine ⟨(ev_tup (n := 0) (k := 0) (m := 2) (fun e he => ?_) (by simp)).k (by decide) (by decide), fun K hK => ?_⟩
        · simp at he; rw [he]; exact ev_bool
        · simp [qRepL, qRev, qRet, qRetN, qAndV, qOrV, qNotV, qIsi, qV, qVB, qC, qNil, qCons, qANil, qACons, qAPrs, qTup, qLst, qOp, qBl, qChain, qUn, qTr, qAnd, qOr, qNot, qIf, qCa, qSl, qSo, qNo, qMt, qMt0, qCall, cal, qCallK, qNext, qSeq, qExp, qIfS, qAsg, and_assoc, qPar, qOwn, qFrz, qApp, qLstN, qListN, qLenE, qLenL, qLcE, qLcL, noOwn, iSeq, iRg1, iRg2, iZp, iEn, iEnT, qYes, qRaise, qTry, hdX, suB, exIn, qXf, qPOwn, qPWh, qSetOwn, qSetWh, qSetIx, fnE, startD, notDict, lcB, wipeD, qPn, qPc, qDct, qRetF, qCallF, qCallP, qBrk, qCnt, truthyD, lenOk, itemsD, seqD, s2]; exact hK
      cases b with
      | true =>
        obtain ⟨us, rfl, hu⟩ := hall_of hb.symm
        have hul := hu.len
        have hlen := wrS.len hu.ok
        refine iflast_t (fun K hK => ?_) ?_
        · simp [qRepL, qRev, qRet, qRetN, qAndV, qOrV, qNotV, qIsi, qV, qVB, qC, qNil, qCons, qANil, qACons, qAPrs, qTup, qLst, qOp, qBl, qChain, qUn, qTr, qAnd, qOr, qNot, qIf, qCa, qSl, qSo, qNo, qMt, qMt0, qCall, cal, qCallK, qNext, qSeq, qExp, qIfS, qAsg, and_assoc, qPar, qOwn, qFrz, qApp, qLstN, qListN, qLenE, qLenL, qLcE, qLcL, noOwn, iSeq, iRg1, iRg2, iZp, iEn, iEnT, qYes, qRaise, qTry, hdX, suB, exIn, qXf, qPOwn, qPWh, qSetOwn, qSetWh, qSetIx, fnE, startD, notDict, lcB, wipeD, qPn, qPc, qDct, qRetF, qCallF, qCallP, qBrk, qCnt, truthyD, lenOk, itemsD, seqD]; exact hK
        refine asg_of (fun d => d = stD (hallTx txtS us)) (fun K hK => ?_) ?_
        · simp [qRepL, qRev, qRet, qRetN, qAndV, qOrV, qNotV, qIsi, qV, qVB, qC, qNil, qCons, qANil, qACons, qAPrs, qTup, qLst, qOp, qBl, qChain, qUn, qTr, qAnd, qOr, qNot, qIf, qCa, qSl, qSo, qNo, qMt, qMt0, qCall, cal, qCallK, qNext, qSeq, qExp, qIfS, qAsg, and_assoc, qPar, qOwn, qFrz, qApp, qLstN, qListN, qLenE, qLenL, qLcE, qLcL, noOwn, iSeq, iRg1, iRg2, iZp, iEn, iEnT, qYes, qRaise, qTry, hdX, suB, exIn, qXf, qPOwn, qPWh, qSetOwn, qSetWh, qSetIx, fnE, startD, notDict, lcB, wipeD, qPn, qPc, qDct, qRetF, qCallF, qCallP, qBrk, qCnt, truthyD, lenOk, itemsD, seqD]
          exact ⟨us, .inl ⟨rfl, hu.ok, hK _ rfl⟩, by omega⟩
        rintro _ rfl
        refine even_if (fun d => d = .tuple [stD (hallTx txtS us), stD (hallTx txtS us), hallD us, hallD us]) (fun K hK => ?_) ?_ ?_
        · simp [qRepL, qRev, qRet, qRetN, qAndV, qOrV, qNotV, qIsi, qV, qVB, qC, qNil, qCons, qANil, qACons, qAPrs, qTup, qLst, qOp, qBl, qChain, qUn, qTr, qAnd, qOr, qNot, qIf, qCa, qSl, qSo, qNo, qMt, qMt0, qCall, cal, qCallK, qNext, qSeq, qExp, qIfS, qAsg, and_assoc, qPar, qOwn, qFrz, qApp, qLstN, qListN, qLenE, qLenL, qLcE, qLcL, noOwn, iSeq, iRg1, iRg2, iZp, iEn, iEnT, qYes, qRaise, qTry, hdX, suB, exIn, qXf, qPOwn, qPWh, qSetOwn, qSetWh, qSetIx, fnE, startD, notDict, lcB, wipeD, qPn, qPc, qDct, qRetF, qCallF, qCallP, qBrk, qCnt, truthyD, lenOk, itemsD, seqD, s4]
          refine bag_text_ok hu ?_
          refine bag_text_ok hu ?_
          refine read_bag_ok hu ?_
          refine read_bag_ok hu ?_
          exact hK _ rfl
        · rintro _ rfl
          refine ⟨(ev_tup (n := 5000) (k := 2) (m := 4) (fun e he => ?_) (by simp)).k (by decide) (by decide), fun K hK => ?_⟩
          · have eh := (ev_hall (n := 20) (by decide) hu.ok hul).mono (m := 5000) (j := 2) (by decide) (by decide)
            have et : Ev 5000 2 (stD (hallTx txtS us)) := ev_str hlen.2 (by omega)
            simp only [List.mem_cons, List.not_mem_nil, or_false] at he
            rcases he with rfl | rfl | rfl | rfl
            · exact et
            · exact et
            · exact eh
            · exact eh
          · simp [qRepL, qRev, qRet, qRetN, qAndV, qOrV, qNotV, qIsi, qV, qVB, qC, qNil, qCons, qANil, qACons, qAPrs, qTup, qLst, qOp, qBl, qChain, qUn, qTr, qAnd, qOr, qNot, qIf, qCa, qSl, qSo, qNo, qMt, qMt0, qCall, cal, qCallK, qNext, qSeq, qExp, qIfS, qAsg, and_assoc, qPar, qOwn, qFrz, qApp, qLstN, qListN, qLenE, qLenL, qLcE, qLcL, noOwn, iSeq, iRg1, iRg2, iZp, iEn, iEnT, qYes, qRaise, qTry, hdX, suB, exIn, qXf, qPOwn, qPWh, qSetOwn, qSetWh, qSetIx, fnE, startD, notDict, lcB, wipeD, qPn, qPc, qDct, qRetF, qCallF, qCallP, qBrk, qCnt, truthyD, lenOk, itemsD, seqD, s4]; exact hK
        · exact ⟨hr2, _, _, _, _, nOwn_val _, rfl⟩
      | false =>
        refine iflast_f (fun K hK => ?_) ?_
        · simp [qRepL, qRev, qRet, qRetN, qAndV, qOrV, qNotV, qIsi, qV, qVB, qC, qNil, qCons, qANil, qACons, qAPrs, qTup, qLst, qOp, qBl, qChain, qUn, qTr, qAnd, qOr, qNot, qIf, qCa, qSl, qSo, qNo, qMt, qMt0, qCall, cal, qCallK, qNext, qSeq, qExp, qIfS, qAsg, and_assoc, qPar, qOwn, qFrz, qApp, qLstN, qListN, qLenE, qLenL, qLcE, qLcL, noOwn, iSeq, iRg1, iRg2, iZp, iEn, iEnT, qYes, qRaise, qTry, hdX, suB, exIn, qXf, qPOwn, qPWh, qSetOwn, qSetWh, qSetIx, fnE, startD, notDict, lcB, wipeD, qPn, qPc, qDct, qRetF, qCallF, qCallP, qBrk, qCnt, truthyD, lenOk, itemsD, seqD]; exact hK
        refine even_if (fun d => d = .list [.tuple [.str "bag", x]]) (fun K hK => ?_) ?_ ?_
        · simp [qRepL, qRev, qRet, qRetN, qAndV, qOrV, qNotV, qIsi, qV, qVB, qC, qNil, qCons, qANil, qACons, qAPrs, qTup, qLst, qOp, qBl, qChain, qUn, qTr, qAnd, qOr, qNot, qIf, qCa, qSl, qSo, qNo, qMt, qMt0, qCall, cal, qCallK, qNext, qSeq, qExp, qIfS, qAsg, and_assoc, qPar, qOwn, qFrz, qApp, qLstN, qListN, qLenE, qLenL, qLcE, qLcL, noOwn, iSeq, iRg1, iRg2, iZp, iEn, iEnT, qYes, qRaise, qTry, hdX, suB, exIn, qXf, qPOwn, qPWh, qSetOwn, qSetWh, qSetIx, fnE, startD, notDict, lcB, wipeD, qPn, qPc, qDct, qRetF, qCallF, qCallP, qBrk, qCnt, truthyD, lenOk, itemsD, seqD, s1]
          refine lcD_map (fun w : Nat => .int (w : Int)) (fun _ => .tuple [.str "bag", x]) (ts := [0]) rfl (fun w hw k hk => ?_) (hK _ rfl)
          refine lcB_of ?_
          simp at hw
          subst hw
          simp [qRepL, qRev, qRet, qRetN, qAndV, qOrV, qNotV, qIsi, qV, qVB, qC, qNil, qCons, qANil, qACons, qAPrs, qTup, qLst, qOp, qBl, qChain, qUn, qTr, qAnd, qOr, qNot, qIf, qCa, qSl, qSo, qNo, qMt, qMt0, qCall, cal, qCallK, qNext, qSeq, qExp, qIfS, qAsg, and_assoc, qPar, qOwn, qFrz, qApp, qLstN, qListN, qLenE, qLenL, qLcE, qLcL, noOwn, iSeq, iRg1, iRg2, iZp, iEn, iEnT, qYes, qRaise, qTry, hdX, suB, exIn, qXf, qPOwn, qPWh, qSetOwn, qSetWh, qSetIx, fnE, startD, notDict, lcB, wipeD, qPn, qPc, qDct, qRetF, qCallF, qCallP, qBrk, qCnt, truthyD, lenOk, itemsD, seqD]
          exact ⟨0, x, rfl, .inl ⟨rfl, gt, hb.symm, hk⟩⟩
        · rintro _ rfl
          refine ⟨ev, fun K hK => ?_⟩
          simp [qRepL, qRev, qRet, qRetN, qAndV, qOrV, qNotV, qIsi, qV, qVB, qC, qNil, qCons, qANil, qACons, qAPrs, qTup, qLst, qOp, qBl, qChain, qUn, qTr, qAnd, qOr, qNot, qIf, qCa, qSl, qSo, qNo, qMt, qMt0, qCall, cal, qCallK, qNext, qSeq, qExp, qIfS, qAsg, and_assoc, qPar, qOwn, qFrz, qApp, qLstN, qListN, qLenE, qLenL, qLcE, qLcL, noOwn, iSeq, iRg1, iRg2, iZp, iEn, iEnT, qYes, qRaise, qTry, hdX, suB, exIn, qXf, qPOwn, qPWh, qSetOwn, qSetWh, qSetIx, fnE, startD, notDict, lcB, wipeD, qPn, qPc, qDct, qRetF, qCallF, qCallP, qBrk, qCnt, truthyD, lenOk, itemsD, seqD, s1, s2]
          exact hK
        · exact ⟨hr2, _, _, _, _, nOwn_val _, rfl⟩
theorem sc__law_holds_all : FnScope ["press", "lap", "own", "thing", "due", "text", "which"] ["press"] (defScope s__law_holds_all) := ⟨rfl, rfl, rfl, by decide +kernel, rfl, by decide +kernel, by decide +kernel⟩
theorem ok__law_holds_all {P : Program} {w : World} {K : Fg} {mg : Str → Option Value} {base : Heap} (T : Tx K mg) : HasD P w K mg base PJ "_law_holds_all" (defArgs s__law_holds_all) 9 ["press"] P__law_holds_all := by
  obtain ⟨f, fd, hm0, F⟩ := T.d__law_holds_all
  exact ⟨f, fd, _, _, hm0, F, fnD_of (N := ["press", "lap", "own", "thing", "due", "text", "which"]) F sc__law_holds_all fun cdv A outer s H E g Ex hr hG hm hP hE tk => ⟨t__law_holds_all Ex,
    (qss_cons (qs_for (passes_of rfl) rfl (qi_range1 rfl T.n_range (qlb_cons (QE.bb qe_int) qlb_nil)) (qg_name 1 sc__law_holds_all.nd) (qss_cons (qs_set 2 (by exact (qe_callH (ps := ["press", "many"]) hE hP (ok__law_sorts T) bd__law_sorts (hr.mono (by decide)) hG hm tk rfl (qa_prs 0 (qa_cons qe_int qa_nil)))) sc__law_holds_all.nd)
    (qss_cons (qs_for (passes_of rfl) rfl (qi_seq (qe_len (by exact (qe_callH (ps := ["press", "own"]) hE hP (ok__law_near T) bd__law_near (hr.mono (by decide)) hG hm tk rfl (qa_prs 0 (qa_cons (qe_v 2) qa_nil)))))) (qg_name 3 sc__law_holds_all.nd) (qss_cons (qs_set 4 (by exact (qe_callH (ps := ["thing", "many", "most"]) hE hP (ok__law_is_things T) bd__law_is_things (hr.mono (by decide)) hG hm tk rfl (qa_cons (qe_v 3) (qa_cons qe_int (qa_cons qe_int qa_nil))))) sc__law_holds_all.nd)
    (qss_cons (qs_if (qt_not (qt_of (QE.bb (by exact (qe_callH (ps := ["told", "due"]) hE hP (ok__law_even T) bd__law_even (hr.mono (by decide)) hG hm tk rfl (qa_cons (qe_tup (ql_cons (by exact (qe_callH (ps := ["value"]) hE hP (ok_is_bag T) bd_is_bag (hr.mono (by decide)) hG hm tk rfl (qa_cons (qe_v 3) qa_nil))) (ql_cons (by exact (qe_callKH0 (pm := [0]) (ps := ["value"]) hE hP (ok_is_bag T) (by decide) bk_is_bag_0_value (hr.mono (by decide)) hG hm tk rfl (qk_cons (qe_v 3) qk_nil))) ql_nil))) (qa_cons (qe_tup (ql_cons (qe_v 4) (ql_cons (qe_v 4) ql_nil))) qa_nil))))))) (qss_one (qs_ret (QE.bb qe_bl))) qss_nil)
    (qss_one (qs_if (qt_of (QE.bb (qe_v 4))) (qss_cons (qs_set 5 (by exact (qe_callH (ps := ["hall", "most"]) hE hP (ok__law_text T) bd__law_text (hr.mono (by decide)) hG hm tk rfl (qa_cons (qe_v 3) (qa_cons qe_int qa_nil)))) sc__law_holds_all.nd)
    (qss_one (qs_if (qt_not (qt_of (QE.bb (by exact (qe_callH (ps := ["told", "due"]) hE hP (ok__law_even T) bd__law_even (hr.mono (by decide)) hG hm tk rfl (qa_cons (qe_tup (ql_cons (by exact (qe_callH (ps := ["bag"]) hE hP (ok_bag_text T) bd_bag_text (hr.mono (by decide)) hG hm tk rfl (qa_cons (qe_v 3) qa_nil))) (ql_cons (by exact (qe_callKH0 (pm := [0]) (ps := ["bag"]) hE hP (ok_bag_text T) (by decide) bk_bag_text_0_bag (hr.mono (by decide)) hG hm tk rfl (qk_cons (qe_v 3) qk_nil))) (ql_cons (by exact (qe_callH (ps := ["text"]) hE hP (ok_read_bag T) bd_read_bag (hr.mono (by decide)) hG hm tk rfl (qa_cons (qe_v 5) qa_nil))) (ql_cons (by exact (qe_callKH0 (pm := [0]) (ps := ["text"]) hE hP (ok_read_bag T) (by decide) bk_read_bag_0_text (hr.mono (by decide)) hG hm tk rfl (qk_cons (qe_v 5) qk_nil))) ql_nil))))) (qa_cons (qe_tup (ql_cons (qe_v 5) (ql_cons (qe_v 5) (ql_cons (qe_v 3) (ql_cons (qe_v 3) ql_nil))))) qa_nil))))))) (qss_one (qs_ret (QE.bb qe_bl))) qss_nil))) (qss_one (qs_if (qt_not (qt_of (QE.bb (by exact (qe_callH (ps := ["told", "due"]) hE hP (ok__law_even T) bd__law_even (hr.mono (by decide)) hG hm tk rfl (qa_cons (by exact (QN.qe (qn_lc (own := [("which", 6)]) rfl sc__law_holds_all.nd (by exact (qi_seq (qe_len (qe_tup (ql_cons qe_int ql_nil))))) (by exact blkOk_by (N := ["press", "lap", "own", "thing", "due", "text", "which"]) (sc := defScope s__law_holds_all) (own := [("which", 6)]) (by decide +kernel)) (fun s H C cl fp hd => by exact (qg_name 6 sc__law_holds_all.nd)) (fun s H C cl fp hd => by exact qts_nil) (fun s H C cl fp hd => by exact (by exact (qe_callH (ps := ["which", "thing"]) rfl hP (ok__law_heard T) bd__law_heard (hr.mono (by decide)) hG hm (takesE0 rfl) rfl (qa_cons (qe_v 6) (qa_cons (qe_v 3) qa_nil)))))))) (qa_cons (qe_repL (ql_cons (qe_tup (ql_cons qe_str (ql_cons (qe_v 3) ql_nil))) ql_nil) (QE.bb qe_int)) qa_nil))))))) (qss_one (qs_ret (QE.bb qe_bl))) qss_nil)))))))
    (qss_cons (qs_for (passes_of rfl) rfl (qi_seq (qe_len (by exact (qe_callH (ps := ["press", "text"]) hE hP (ok__law_near_texts T) bd__law_near_texts (hr.mono (by decide)) hG hm tk rfl (qa_prs 0 (qa_cons (by exact (qe_callH (ps := ["hall", "most"]) hE hP (ok__law_text T) bd__law_text (hr.mono (by decide)) hG hm tk rfl (qa_cons (qe_v 2) (qa_cons qe_int qa_nil)))) qa_nil)))))) (qg_name 5 sc__law_holds_all.nd) (qss_cons (qs_set 4 (by exact (qe_callH (ps := ["text", "most"]) hE hP (ok__law_read T) bd__law_read (hr.mono (by decide)) hG hm tk rfl (qa_cons (qe_v 5) (qa_cons qe_int qa_nil)))) sc__law_holds_all.nd)
    (qss_one (qs_if (qt_not (qt_of (QE.bb (by exact (qe_callH (ps := ["told", "due"]) hE hP (ok__law_even T) bd__law_even (hr.mono (by decide)) hG hm tk rfl (qa_cons (by exact (qe_callH (ps := ["which", "thing"]) hE hP (ok__law_heard T) bd__law_heard (hr.mono (by decide)) hG hm tk rfl (qa_cons qe_int (qa_cons (qe_v 5) qa_nil)))) (qa_cons (qe_if (qt_cmp opd_isnotN (QE.bb (qe_v 4)) (QE.bb qe_non)) (qe_tup (ql_cons qe_str (ql_cons (qe_v 4) ql_nil))) (qe_tup (ql_cons qe_str (ql_cons (qe_v 5) ql_nil)))) qa_nil))))))) (qss_one (qs_ret (QE.bb qe_bl))) qss_nil))))
    (qss_one (qs_if (qt_not (qt_of (QE.bb (by exact (qe_callH (ps := ["told", "due"]) hE hP (ok__law_even T) bd__law_even (hr.mono (by decide)) hG hm tk rfl (qa_cons (qe_tup (ql_cons (by exact (qe_callH (ps := ["value"]) hE hP (ok_is_hall T) bd_is_hall (hr.mono (by decide)) hG hm tk rfl (qa_cons (qe_v 2) qa_nil))) (ql_cons (by exact (qe_callH (ps := ["hall"]) hE hP (ok_bag_of T) bd_bag_of (hr.mono (by decide)) hG hm tk rfl (qa_cons (qe_v 2) qa_nil))) (ql_cons (by exact (qe_callKH0 (pm := [0]) (ps := ["hall"]) hE hP (ok_bag_of T) (by decide) bk_bag_of_0_hall (hr.mono (by decide)) hG hm tk rfl (qk_cons (qe_v 2) qk_nil))) (ql_cons (by exact (qe_callH (ps := ["hall", "bag"]) hE hP (ok_has T) bd_has (hr.mono (by decide)) hG hm tk rfl (qa_cons (qe_v 2) (qa_cons (qe_v 2) qa_nil)))) (ql_cons (by exact (qe_callKH0 (pm := [1, 0]) (ps := ["hall", "bag"]) hE hP (ok_has T) (by decide) bk_has_0_bag_hall (hr.mono (by decide)) hG hm tk rfl (qk_cons (qe_tup ql_nil) (qk_cons (qe_v 2) qk_nil)))) ql_nil)))))) (qa_cons (qe_tup (ql_cons qe_bl (ql_cons (qe_v 2) (ql_cons (qe_v 2) (ql_cons qe_bl (ql_cons qe_bl ql_nil)))))) qa_nil))))))) (qss_one (qs_ret (QE.bb qe_bl))) qss_nil))))))
    (qss_one (qs_ret (QE.bb (by exact (qe_callB (cad_all rfl) rfl T.n_all boot_all (qlb_cons (QE.bb (by exact (QN.qe (qn_lc (own := [("thing", 3)]) rfl sc__law_holds_all.nd (by exact (qi_seq (qe_len (qe_tup (ql_cons qe_non (ql_cons qe_int (ql_cons (qe_tup (ql_cons qe_str ql_nil)) (ql_cons (qe_lst (ql_cons qe_str ql_nil)) (ql_cons qe_bl ql_nil))))))))) (by exact blkOk_by (N := ["press", "lap", "own", "thing", "due", "text", "which"]) (sc := defScope s__law_holds_all) (own := [("thing", 3)]) (by decide +kernel)) (fun s H C cl fp hd => by exact (qg_name 3 sc__law_holds_all.nd)) (fun s H C cl fp hd => by exact qts_nil) (fun s H C cl fp hd => by exact (by exact (qe_callH (ps := ["told", "due"]) rfl hP (ok__law_even T) bd__law_even (hr.mono (by decide)) hG hm (takesE0 rfl) rfl (qa_cons (by exact (qe_callH (ps := ["which", "thing"]) rfl hP (ok__law_heard T) bd__law_heard (hr.mono (by decide)) hG hm (takesE0 rfl) rfl (qa_cons qe_int (qa_cons (qe_v 3) qa_nil)))) (qa_cons (qe_tup (ql_cons qe_str (ql_cons (qe_v 3) ql_nil))) qa_nil))))))))) qlb_nil))))))),
    fun as R hl h => pure__law_holds_all as R Ex hl h⟩⟩
/-! ### law -/
def P_law : FS := fun as R _ => ∃ xs : List Int, as = [.val (.list (xs.map .int))] ∧ xs.length ≤ 1000 ∧ R (.bool true)
def t_law (Ex : Exc → Prop) : TrS := (qRet (qCa cAll (qCons (qLcE (qLcL [1] (iSeq (qLenE (qTup (qCons (qC (.int 0)) (qCons (qC (.int 1)) qNil))))) (gNm 1) qYes (qCallP E0 P__law_holds_all (qCallF E0 2 P__law_press (qACons (qV 0) (qACons (qV 1) qANil)))))) qNil)))
theorem pure_law (as : List Sl) (R : D → Prop) (Ex : Exc → Prop) (hl : as.length = 1) (h : P_law as R Ex) : t_law Ex (fnE R) (startD ["script", "lap"] as) := by
  obtain ⟨xs, rfl, hz, h⟩ := h
  simp [t_law, qRepL, qRev, qRet, qRetN, qAndV, qOrV, qNotV, qIsi, qV, qVB, qC, qNil, qCons, qANil, qACons, qAPrs, qTup, qLst, qOp, qBl, qChain, qUn, qTr, qAnd, qOr, qNot, qIf, qCa, qSl, qSo, qNo, qMt, qMt0, qCall, cal, qCallK, qNext, qSeq, qExp, qIfS, qAsg, and_assoc, qPar, qOwn, qFrz, qApp, qLstN, qListN, qLenE, qLenL, qLcE, qLcL, noOwn, iSeq, iRg1, iRg2, iZp, iEn, iEnT, qYes, qRaise, qTry, hdX, suB, exIn, qXf, qPOwn, qPWh, qSetOwn, qSetWh, qSetIx, fnE, startD, notDict, lcB, wipeD, qPn, qPc, qDct, qRetF, qCallF, qCallP, qBrk, qCnt, truthyD, lenOk, itemsD, seqD, P__law_press, P__law_holds_all]
  have h2 : 2 ≤ sizeLine := by rw [sizeLine_eq]; decide
  refine ⟨h2, fun _ => ⟨h2, lcD_map (fun l : Nat => .int l) (fun _ => .bool true) (ts := [0, 1]) rfl (fun l hl k hk => ?_) ?_⟩⟩
  · simp [qRepL, qRev, qRet, qRetN, qAndV, qOrV, qNotV, qIsi, qV, qVB, qC, qNil, qCons, qANil, qACons, qAPrs, qTup, qLst, qOp, qBl, qChain, qUn, qTr, qAnd, qOr, qNot, qIf, qCa, qSl, qSo, qNo, qMt, qMt0, qCall, cal, qCallK, qNext, qSeq, qExp, qIfS, qAsg, and_assoc, qPar, qOwn, qFrz, qApp, qLstN, qListN, qLenE, qLenL, qLcE, qLcL, noOwn, iSeq, iRg1, iRg2, iZp, iEn, iEnT, qYes, qRaise, qTry, hdX, suB, exIn, qXf, qPOwn, qPWh, qSetOwn, qSetWh, qSetIx, fnE, startD, notDict, lcB, wipeD, qPn, qPc, qDct, qRetF, qCallF, qCallP, qBrk, qCnt, truthyD, lenOk, itemsD, seqD, P__law_press, P__law_holds_all]
    have no : noOwns [Sl.val (.list (xs.map .int)), Sl.val (.int (l : Nat))] := by
      intro i ds
      match i with
      | 0 => simp
      | 1 => simp
      | _ + 2 => simp
    refine ⟨no, xs, rfl, l, rfl, ?_, hz, fun n i j hn => ⟨⟨_, rfl⟩, ⟨n, i, j, rfl, hn⟩, hk⟩⟩
    simp at hl
    omega
  · rw [cAll_map]
    exact ⟨trivial, by simpa using h⟩
theorem sc_law : FnScope ["script", "lap"] ["script"] (defScope s_law) := ⟨rfl, rfl, rfl, by decide +kernel, rfl, by decide +kernel, by decide +kernel⟩
theorem ok_law {P : Program} {w : World} {K : Fg} {mg : Str → Option Value} {base : Heap} (T : Tx K mg) {f : Addr} {fd : FuncData} (F : FunD K "law" "law" (defArgs s_law) (defBody s_law) (defScope s_law) [] [] f fd) : FnC (fun pa => pa = none) P w K mg base PJ 10 f fd ["script"] P_law :=
  fnC_of (N := ["script", "lap"]) F sc_law fun cdv A outer s H E g Ex hr hG hm hP hE hpa tk => ⟨t_law Ex,
    (qss_one (qs_ret (QE.bb (by exact (qe_callB (cad_all rfl) rfl T.n_all boot_all (qlb_cons (QE.bb (by exact (QN.qe (qn_lc (own := [("lap", 1)]) rfl sc_law.nd (by exact (qi_seq (qe_len (qe_tup (ql_cons qe_int (ql_cons qe_int ql_nil)))))) (by exact blkOk_by (N := ["script", "lap"]) (sc := defScope s_law) (own := [("lap", 1)]) (by decide +kernel)) (fun s H C cl fp hd => by exact (qg_name 1 sc_law.nd)) (fun s H C cl fp hd => by exact qts_nil) (fun s H C cl fp hd => by exact (by exact (qe_callPH rfl hpa (ok__law_holds_all T) bd__law_holds_all (hr.mono (by decide)) hG hm (takesE0 rfl) rfl (qf_callH (ps := ["script", "lap"]) rfl hP (ok__law_press T) bd__law_press (hr.mono (by decide)) hG hm (takesE0 rfl) rfl (qa_cons (qe_v 0) (qa_cons (qe_v 1) qa_nil)))))))))) qlb_nil)))))),
    fun as R hl h => pure_law as R Ex hl h⟩
/-! ### the head -/
def dd_is_whole : He.DefD := ⟨("is_whole", none), "is_whole", "is_whole", defArgs s_is_whole, defBody s_is_whole, defScope s_is_whole, [], []⟩
def dd_is_between : He.DefD := ⟨("is_between", none), "is_between", "is_between", defArgs s_is_between, defBody s_is_between, defScope s_is_between, [], []⟩
def dd_plain_number : He.DefD := ⟨("plain_number", none), "plain_number", "plain_number", defArgs s_plain_number, defBody s_plain_number, defScope s_plain_number, [], []⟩
def dd_kind_ok : He.DefD := ⟨("kind_ok", none), "kind_ok", "kind_ok", defArgs s_kind_ok, defBody s_kind_ok, defScope s_kind_ok, [], []⟩
def dd_is_aging : He.DefD := ⟨("is_aging", none), "is_aging", "is_aging", defArgs s_is_aging, defBody s_is_aging, defScope s_is_aging, [], []⟩
def dd_thing_ok : He.DefD := ⟨("thing_ok", none), "thing_ok", "thing_ok", defArgs s_thing_ok, defBody s_thing_ok, defScope s_thing_ok, [], []⟩
def dd_things_ok : He.DefD := ⟨("things_ok", none), "things_ok", "things_ok", defArgs s_things_ok, defBody s_things_ok, defScope s_things_ok, [], []⟩
def dd_hall_ok : He.DefD := ⟨("hall_ok", none), "hall_ok", "hall_ok", defArgs s_hall_ok, defBody s_hall_ok, defScope s_hall_ok, [], []⟩
def dd_bag_ok : He.DefD := ⟨("bag_ok", none), "bag_ok", "bag_ok", defArgs s_bag_ok, defBody s_bag_ok, defScope s_bag_ok, [], []⟩
def dd_text_of_thing : He.DefD := ⟨("text_of_thing", none), "text_of_thing", "text_of_thing", defArgs s_text_of_thing, defBody s_text_of_thing, defScope s_text_of_thing, [], []⟩
def dd_text_of_sort : He.DefD := ⟨("text_of_sort", none), "text_of_sort", "text_of_sort", defArgs s_text_of_sort, defBody s_text_of_sort, defScope s_text_of_sort, [], []⟩
def dd_joined_texts : He.DefD := ⟨("joined_texts", none), "joined_texts", "joined_texts", defArgs s_joined_texts, defBody s_joined_texts, defScope s_joined_texts, [], []⟩
def dd_text_of_bag : He.DefD := ⟨("text_of_bag", none), "text_of_bag", "text_of_bag", defArgs s_text_of_bag, defBody s_text_of_bag, defScope s_text_of_bag, [], []⟩
def dd_thing_from : He.DefD := ⟨("thing_from", none), "thing_from", "thing_from", defArgs s_thing_from, defBody s_thing_from, defScope s_thing_from, [], []⟩
def dd_sort_from : He.DefD := ⟨("sort_from", none), "sort_from", "sort_from", defArgs s_sort_from, defBody s_sort_from, defScope s_sort_from, [], []⟩
def dd_bag_from : He.DefD := ⟨("bag_from", none), "bag_from", "bag_from", defArgs s_bag_from, defBody s_bag_from, defScope s_bag_from, [], []⟩
def dd_bag_by : He.DefD := ⟨("bag_by", none), "bag_by", "bag_by", defArgs s_bag_by, defBody s_bag_by, defScope s_bag_by, [], []⟩
def dd_numbers_of : He.DefD := ⟨("numbers_of", none), "numbers_of", "numbers_of", defArgs s_numbers_of, defBody s_numbers_of, defScope s_numbers_of, [], []⟩
def dd_are_within : He.DefD := ⟨("are_within", none), "are_within", "are_within", defArgs s_are_within, defBody s_are_within, defScope s_are_within, [], []⟩
def dd_has_by : He.DefD := ⟨("has_by", none), "has_by", "has_by", defArgs s_has_by, defBody s_has_by, defScope s_has_by, [], []⟩
def dd_check_hall : He.DefD := ⟨("check_hall", none), "check_hall", "check_hall", defArgs s_check_hall, defBody s_check_hall, defScope s_check_hall, [], []⟩
def dd_check_bag : He.DefD := ⟨("check_bag", none), "check_bag", "check_bag", defArgs s_check_bag, defBody s_check_bag, defScope s_check_bag, [], []⟩
def dd_check_text : He.DefD := ⟨("check_text", none), "check_text", "check_text", defArgs s_check_text, defBody s_check_text, defScope s_check_text, [], []⟩
def dd_is_hall : He.DefD := ⟨("is_hall", none), "is_hall", "is_hall", defArgs s_is_hall, defBody s_is_hall, defScope s_is_hall, [], []⟩
def dd_is_bag : He.DefD := ⟨("is_bag", none), "is_bag", "is_bag", defArgs s_is_bag, defBody s_is_bag, defScope s_is_bag, [], []⟩
def dd_bag_text : He.DefD := ⟨("bag_text", none), "bag_text", "bag_text", defArgs s_bag_text, defBody s_bag_text, defScope s_bag_text, [], []⟩
def dd_read_bag : He.DefD := ⟨("read_bag", none), "read_bag", "read_bag", defArgs s_read_bag, defBody s_read_bag, defScope s_read_bag, [], []⟩
def dd_bag_of : He.DefD := ⟨("bag_of", none), "bag_of", "bag_of", defArgs s_bag_of, defBody s_bag_of, defScope s_bag_of, [], []⟩
def dd_has : He.DefD := ⟨("has", none), "has", "has", defArgs s_has, defBody s_has, defScope s_has, [], []⟩
def dd__law_press : He.DefD := ⟨("_law_press", none), "_law_press", "_law_press", defArgs s__law_press, defBody s__law_press, defScope s__law_press, [], []⟩
def dd__law_out : He.DefD := ⟨("_law_out", none), "_law_out", "_law_out", defArgs s__law_out, defBody s__law_out, defScope s__law_out, [], []⟩
def dd__law_of : He.DefD := ⟨("_law_of", none), "_law_of", "_law_of", defArgs s__law_of, defBody s__law_of, defScope s__law_of, [], []⟩
def dd__law_even : He.DefD := ⟨("_law_even", none), "_law_even", "_law_even", defArgs s__law_even, defBody s__law_even, defScope s__law_even, [], []⟩
def dd__law_num : He.DefD := ⟨("_law_num", none), "_law_num", "_law_num", defArgs s__law_num, defBody s__law_num, defScope s__law_num, [], []⟩
def dd__law_is_things : He.DefD := ⟨("_law_is_things", none), "_law_is_things", "_law_is_things", defArgs s__law_is_things, defBody s__law_is_things, defScope s__law_is_things, [], []⟩
def dd__law_bag : He.DefD := ⟨("_law_bag", none), "_law_bag", "_law_bag", defArgs s__law_bag, defBody s__law_bag, defScope s__law_bag, [], []⟩
def dd__law_text : He.DefD := ⟨("_law_text", none), "_law_text", "_law_text", defArgs s__law_text, defBody s__law_text, defScope s__law_text, [], []⟩
def dd__law_hall : He.DefD := ⟨("_law_hall", none), "_law_hall", "_law_hall", defArgs s__law_hall, defBody s__law_hall, defScope s__law_hall, [], []⟩
def dd__law_sorts : He.DefD := ⟨("_law_sorts", none), "_law_sorts", "_law_sorts", defArgs s__law_sorts, defBody s__law_sorts, defScope s__law_sorts, [], []⟩
def dd__law_read : He.DefD := ⟨("_law_read", none), "_law_read", "_law_read", defArgs s__law_read, defBody s__law_read, defScope s__law_read, [], []⟩
def dd__law_near : He.DefD := ⟨("_law_near", none), "_law_near", "_law_near", defArgs s__law_near, defBody s__law_near, defScope s__law_near, [], []⟩
def dd__law_near_texts : He.DefD := ⟨("_law_near_texts", none), "_law_near_texts", "_law_near_texts", defArgs s__law_near_texts, defBody s__law_near_texts, defScope s__law_near_texts, [], []⟩
def dd__law_heard : He.DefD := ⟨("_law_heard", none), "_law_heard", "_law_heard", defArgs s__law_heard, defBody s__law_heard, defScope s__law_heard, [], []⟩
def dd__law_holds_all : He.DefD := ⟨("_law_holds_all", none), "_law_holds_all", "_law_holds_all", defArgs s__law_holds_all, defBody s__law_holds_all, defScope s__law_holds_all, [], []⟩
def dd_law : He.DefD := ⟨("law", none), "law", "law", defArgs s_law, defBody s_law, defScope s_law, [], []⟩
def dd_InvalidBag_init : He.DefD := ⟨("InvalidBag", some "__init__"), "__init__", "InvalidBag.__init__", defArgs s_InvalidBag_init, defBody s_InvalidBag_init, defScope s_InvalidBag_init, [], []⟩
def dd_InvalidHall_init : He.DefD := ⟨("InvalidHall", some "__init__"), "__init__", "InvalidHall.__init__", defArgs s_InvalidHall_init, defBody s_InvalidHall_init, defScope s_InvalidHall_init, [], []⟩
def dd_InvalidText_init : He.DefD := ⟨("InvalidText", some "__init__"), "__init__", "InvalidText.__init__", defArgs s_InvalidText_init, defBody s_InvalidText_init, defScope s_InvalidText_init, [], []⟩
def fnL : List He.DefD := [dd_is_whole, dd_is_between, dd_plain_number, dd_kind_ok, dd_is_aging, dd_thing_ok, dd_things_ok, dd_hall_ok, dd_bag_ok, dd_text_of_thing, dd_text_of_sort, dd_joined_texts, dd_text_of_bag, dd_thing_from, dd_sort_from, dd_bag_from, dd_bag_by, dd_numbers_of, dd_are_within, dd_has_by, dd_check_hall, dd_check_bag, dd_check_text, dd_is_hall, dd_is_bag, dd_bag_text, dd_read_bag, dd_bag_of, dd_has, dd__law_press, dd__law_out, dd__law_of, dd__law_even, dd__law_num, dd__law_is_things, dd__law_bag, dd__law_text, dd__law_hall, dd__law_sorts, dd__law_read, dd__law_near, dd__law_near_texts, dd__law_heard, dd__law_holds_all, dd_law, dd_InvalidBag_init, dd_InvalidHall_init, dd_InvalidText_init]
def faL : List He.Fa := [.glo "is_whole", .glo "is_between", .glo "plain_number", .glo "kind_ok", .glo "is_aging", .glo "thing_ok", .glo "things_ok", .glo "hall_ok", .glo "bag_ok", .glo "text_of_thing", .glo "text_of_sort", .glo "joined_texts", .glo "text_of_bag", .glo "thing_from", .glo "sort_from", .glo "bag_from", .glo "bag_by", .glo "numbers_of", .glo "are_within", .glo "has_by", .glo "check_hall", .glo "check_bag", .glo "check_text", .glo "is_hall", .glo "is_bag", .glo "bag_text", .glo "read_bag", .glo "bag_of", .glo "has", .glo "_law_press", .glo "_law_out", .glo "_law_of", .glo "_law_even", .glo "_law_num", .glo "_law_is_things", .glo "_law_bag", .glo "_law_text", .glo "_law_hall", .glo "_law_sorts", .glo "_law_read", .glo "_law_near", .glo "_law_near_texts", .glo "_law_heard", .glo "_law_holds_all", .glo "law", .glo "AgeError", .glo "InvalidBag", .glo "InvalidHall", .glo "InvalidText", .free "abs", .free "all", .free "bool", .free "enumerate", .free "int", .free "isinstance", .free "len", .free "list", .free "min", .free "range", .free "repr", .free "sorted", .free "str", .free "tuple", .free "zip", .exm "InvalidBag" "AgeError" true, .exm "InvalidBag" "InvalidBag" true, .exm "InvalidBag" "InvalidText" false, .exm "InvalidHall" "AgeError" true, .exm "InvalidHall" "InvalidBag" false, .exm "InvalidHall" "InvalidText" false, .exm "InvalidText" "AgeError" true, .exm "InvalidText" "InvalidBag" false, .exm "InvalidText" "InvalidText" true]
def exL (K : Fg) : Bool := gloB K "FIGURES" c_FIGURES && (gloB K "LONGEST_NUMBER" c_LONGEST_NUMBER && (gloB K "AGING" c_AGING && (gloB K "KINDS" c_KINDS && (gloB K "YOUNG" c_YOUNG && (gloB K "OLD" c_OLD && (gloB K "MOST_AGE" c_MOST_AGE && (gloB K "MOST_THINGS" c_MOST_THINGS && (gloB K "MOST_SORTS" c_MOST_SORTS && (gloB K "BLANK" c_BLANK && (gloB K "NOTHING" c_NOTHING && (gloB K "OLD_TEXT" c_OLD_TEXT && (gloB K "SORTS" c_SORTS && (xclB K "InvalidBag" "given" && (xclB K "InvalidHall" "given" && (xclB K "InvalidText" "given")))))))))))))))
theorem headTx_of {w : World} {K : Fg} {h : Heap} {mg : Str → Option Value} (X : K.In h) (G : h.Ns mainGlobals mg) (c : He.SaysX faL fnL [] [] exL w h K) : Tx K mg := by
  have D := c.t.d
  have ex := c.more
  unfold exL at ex
  simp only [Bool.and_eq_true] at ex
  obtain ⟨ek_FIGURES, ek_LONGEST_NUMBER, ek_AGING, ek_KINDS, ek_YOUNG, ek_OLD, ek_MOST_AGE, ek_MOST_THINGS, ek_MOST_SORTS, ek_BLANK, ek_NOTHING, ek_OLD_TEXT, ek_SORTS, ex_InvalidBag, ex_InvalidHall, ex_InvalidText⟩ := ex
  have gl_is_whole := He.glo_ok X G (D.fact 0 (f := .glo "is_whole") rfl)
  have gl_is_between := He.glo_ok X G (D.fact 1 (f := .glo "is_between") rfl)
  have gl_plain_number := He.glo_ok X G (D.fact 2 (f := .glo "plain_number") rfl)
  have gl_kind_ok := He.glo_ok X G (D.fact 3 (f := .glo "kind_ok") rfl)
  have gl_is_aging := He.glo_ok X G (D.fact 4 (f := .glo "is_aging") rfl)
  have gl_thing_ok := He.glo_ok X G (D.fact 5 (f := .glo "thing_ok") rfl)
  have gl_things_ok := He.glo_ok X G (D.fact 6 (f := .glo "things_ok") rfl)
  have gl_hall_ok := He.glo_ok X G (D.fact 7 (f := .glo "hall_ok") rfl)
  have gl_bag_ok := He.glo_ok X G (D.fact 8 (f := .glo "bag_ok") rfl)
  have gl_text_of_thing := He.glo_ok X G (D.fact 9 (f := .glo "text_of_thing") rfl)
  have gl_text_of_sort := He.glo_ok X G (D.fact 10 (f := .glo "text_of_sort") rfl)
  have gl_joined_texts := He.glo_ok X G (D.fact 11 (f := .glo "joined_texts") rfl)
  have gl_text_of_bag := He.glo_ok X G (D.fact 12 (f := .glo "text_of_bag") rfl)
  have gl_thing_from := He.glo_ok X G (D.fact 13 (f := .glo "thing_from") rfl)
  have gl_sort_from := He.glo_ok X G (D.fact 14 (f := .glo "sort_from") rfl)
  have gl_bag_from := He.glo_ok X G (D.fact 15 (f := .glo "bag_from") rfl)
  have gl_bag_by := He.glo_ok X G (D.fact 16 (f := .glo "bag_by") rfl)
  have gl_numbers_of := He.glo_ok X G (D.fact 17 (f := .glo "numbers_of") rfl)
  have gl_are_within := He.glo_ok X G (D.fact 18 (f := .glo "are_within") rfl)
  have gl_has_by := He.glo_ok X G (D.fact 19 (f := .glo "has_by") rfl)
  have gl_check_hall := He.glo_ok X G (D.fact 20 (f := .glo "check_hall") rfl)
  have gl_check_bag := He.glo_ok X G (D.fact 21 (f := .glo "check_bag") rfl)
  have gl_check_text := He.glo_ok X G (D.fact 22 (f := .glo "check_text") rfl)
  have gl_is_hall := He.glo_ok X G (D.fact 23 (f := .glo "is_hall") rfl)
  have gl_is_bag := He.glo_ok X G (D.fact 24 (f := .glo "is_bag") rfl)
  have gl_bag_text := He.glo_ok X G (D.fact 25 (f := .glo "bag_text") rfl)
  have gl_read_bag := He.glo_ok X G (D.fact 26 (f := .glo "read_bag") rfl)
  have gl_bag_of := He.glo_ok X G (D.fact 27 (f := .glo "bag_of") rfl)
  have gl_has := He.glo_ok X G (D.fact 28 (f := .glo "has") rfl)
  have gl__law_press := He.glo_ok X G (D.fact 29 (f := .glo "_law_press") rfl)
  have gl__law_out := He.glo_ok X G (D.fact 30 (f := .glo "_law_out") rfl)
  have gl__law_of := He.glo_ok X G (D.fact 31 (f := .glo "_law_of") rfl)
  have gl__law_even := He.glo_ok X G (D.fact 32 (f := .glo "_law_even") rfl)
  have gl__law_num := He.glo_ok X G (D.fact 33 (f := .glo "_law_num") rfl)
  have gl__law_is_things := He.glo_ok X G (D.fact 34 (f := .glo "_law_is_things") rfl)
  have gl__law_bag := He.glo_ok X G (D.fact 35 (f := .glo "_law_bag") rfl)
  have gl__law_text := He.glo_ok X G (D.fact 36 (f := .glo "_law_text") rfl)
  have gl__law_hall := He.glo_ok X G (D.fact 37 (f := .glo "_law_hall") rfl)
  have gl__law_sorts := He.glo_ok X G (D.fact 38 (f := .glo "_law_sorts") rfl)
  have gl__law_read := He.glo_ok X G (D.fact 39 (f := .glo "_law_read") rfl)
  have gl__law_near := He.glo_ok X G (D.fact 40 (f := .glo "_law_near") rfl)
  have gl__law_near_texts := He.glo_ok X G (D.fact 41 (f := .glo "_law_near_texts") rfl)
  have gl__law_heard := He.glo_ok X G (D.fact 42 (f := .glo "_law_heard") rfl)
  have gl__law_holds_all := He.glo_ok X G (D.fact 43 (f := .glo "_law_holds_all") rfl)
  have gl_law := He.glo_ok X G (D.fact 44 (f := .glo "law") rfl)
  have gl_AgeError := He.glo_ok X G (D.fact 45 (f := .glo "AgeError") rfl)
  have gl_InvalidBag := He.glo_ok X G (D.fact 46 (f := .glo "InvalidBag") rfl)
  have gl_InvalidHall := He.glo_ok X G (D.fact 47 (f := .glo "InvalidHall") rfl)
  have gl_InvalidText := He.glo_ok X G (D.fact 48 (f := .glo "InvalidText") rfl)
  obtain ⟨fd_is_whole, F_is_whole⟩ := D.def_ 0 (d := dd_is_whole) rfl
  obtain ⟨fd_is_between, F_is_between⟩ := D.def_ 1 (d := dd_is_between) rfl
  obtain ⟨fd_plain_number, F_plain_number⟩ := D.def_ 2 (d := dd_plain_number) rfl
  obtain ⟨fd_kind_ok, F_kind_ok⟩ := D.def_ 3 (d := dd_kind_ok) rfl
  obtain ⟨fd_is_aging, F_is_aging⟩ := D.def_ 4 (d := dd_is_aging) rfl
  obtain ⟨fd_thing_ok, F_thing_ok⟩ := D.def_ 5 (d := dd_thing_ok) rfl
  obtain ⟨fd_things_ok, F_things_ok⟩ := D.def_ 6 (d := dd_things_ok) rfl
  obtain ⟨fd_hall_ok, F_hall_ok⟩ := D.def_ 7 (d := dd_hall_ok) rfl
  obtain ⟨fd_bag_ok, F_bag_ok⟩ := D.def_ 8 (d := dd_bag_ok) rfl
  obtain ⟨fd_text_of_thing, F_text_of_thing⟩ := D.def_ 9 (d := dd_text_of_thing) rfl
  obtain ⟨fd_text_of_sort, F_text_of_sort⟩ := D.def_ 10 (d := dd_text_of_sort) rfl
  obtain ⟨fd_joined_texts, F_joined_texts⟩ := D.def_ 11 (d := dd_joined_texts) rfl
  obtain ⟨fd_text_of_bag, F_text_of_bag⟩ := D.def_ 12 (d := dd_text_of_bag) rfl
  obtain ⟨fd_thing_from, F_thing_from⟩ := D.def_ 13 (d := dd_thing_from) rfl
  obtain ⟨fd_sort_from, F_sort_from⟩ := D.def_ 14 (d := dd_sort_from) rfl
  obtain ⟨fd_bag_from, F_bag_from⟩ := D.def_ 15 (d := dd_bag_from) rfl
  obtain ⟨fd_bag_by, F_bag_by⟩ := D.def_ 16 (d := dd_bag_by) rfl
  obtain ⟨fd_numbers_of, F_numbers_of⟩ := D.def_ 17 (d := dd_numbers_of) rfl
  obtain ⟨fd_are_within, F_are_within⟩ := D.def_ 18 (d := dd_are_within) rfl
  obtain ⟨fd_has_by, F_has_by⟩ := D.def_ 19 (d := dd_has_by) rfl
  obtain ⟨fd_check_hall, F_check_hall⟩ := D.def_ 20 (d := dd_check_hall) rfl
  obtain ⟨fd_check_bag, F_check_bag⟩ := D.def_ 21 (d := dd_check_bag) rfl
  obtain ⟨fd_check_text, F_check_text⟩ := D.def_ 22 (d := dd_check_text) rfl
  obtain ⟨fd_is_hall, F_is_hall⟩ := D.def_ 23 (d := dd_is_hall) rfl
  obtain ⟨fd_is_bag, F_is_bag⟩ := D.def_ 24 (d := dd_is_bag) rfl
  obtain ⟨fd_bag_text, F_bag_text⟩ := D.def_ 25 (d := dd_bag_text) rfl
  obtain ⟨fd_read_bag, F_read_bag⟩ := D.def_ 26 (d := dd_read_bag) rfl
  obtain ⟨fd_bag_of, F_bag_of⟩ := D.def_ 27 (d := dd_bag_of) rfl
  obtain ⟨fd_has, F_has⟩ := D.def_ 28 (d := dd_has) rfl
  obtain ⟨fd__law_press, F__law_press⟩ := D.def_ 29 (d := dd__law_press) rfl
  obtain ⟨fd__law_out, F__law_out⟩ := D.def_ 30 (d := dd__law_out) rfl
  obtain ⟨fd__law_of, F__law_of⟩ := D.def_ 31 (d := dd__law_of) rfl
  obtain ⟨fd__law_even, F__law_even⟩ := D.def_ 32 (d := dd__law_even) rfl
  obtain ⟨fd__law_num, F__law_num⟩ := D.def_ 33 (d := dd__law_num) rfl
  obtain ⟨fd__law_is_things, F__law_is_things⟩ := D.def_ 34 (d := dd__law_is_things) rfl
  obtain ⟨fd__law_bag, F__law_bag⟩ := D.def_ 35 (d := dd__law_bag) rfl
  obtain ⟨fd__law_text, F__law_text⟩ := D.def_ 36 (d := dd__law_text) rfl
  obtain ⟨fd__law_hall, F__law_hall⟩ := D.def_ 37 (d := dd__law_hall) rfl
  obtain ⟨fd__law_sorts, F__law_sorts⟩ := D.def_ 38 (d := dd__law_sorts) rfl
  obtain ⟨fd__law_read, F__law_read⟩ := D.def_ 39 (d := dd__law_read) rfl
  obtain ⟨fd__law_near, F__law_near⟩ := D.def_ 40 (d := dd__law_near) rfl
  obtain ⟨fd__law_near_texts, F__law_near_texts⟩ := D.def_ 41 (d := dd__law_near_texts) rfl
  obtain ⟨fd__law_heard, F__law_heard⟩ := D.def_ 42 (d := dd__law_heard) rfl
  obtain ⟨fd__law_holds_all, F__law_holds_all⟩ := D.def_ 43 (d := dd__law_holds_all) rfl
  obtain ⟨fd_law, F_law⟩ := D.def_ 44 (d := dd_law) rfl
  obtain ⟨fd_InvalidBag_init, F_InvalidBag_init⟩ := D.def_ 45 (d := dd_InvalidBag_init) rfl
  obtain ⟨fd_InvalidHall_init, F_InvalidHall_init⟩ := D.def_ 46 (d := dd_InvalidHall_init) rfl
  obtain ⟨fd_InvalidText_init, F_InvalidText_init⟩ := D.def_ 47 (d := dd_InvalidText_init) rfl
  constructor
  · exact ⟨_, fd_is_whole, gl_is_whole, F_is_whole⟩
  · exact ⟨_, fd_is_between, gl_is_between, F_is_between⟩
  · exact ⟨_, fd_plain_number, gl_plain_number, F_plain_number⟩
  · exact ⟨_, fd_kind_ok, gl_kind_ok, F_kind_ok⟩
  · exact ⟨_, fd_is_aging, gl_is_aging, F_is_aging⟩
  · exact ⟨_, fd_thing_ok, gl_thing_ok, F_thing_ok⟩
  · exact ⟨_, fd_things_ok, gl_things_ok, F_things_ok⟩
  · exact ⟨_, fd_hall_ok, gl_hall_ok, F_hall_ok⟩
  · exact ⟨_, fd_bag_ok, gl_bag_ok, F_bag_ok⟩
  · exact ⟨_, fd_text_of_thing, gl_text_of_thing, F_text_of_thing⟩
  · exact ⟨_, fd_text_of_sort, gl_text_of_sort, F_text_of_sort⟩
  · exact ⟨_, fd_joined_texts, gl_joined_texts, F_joined_texts⟩
  · exact ⟨_, fd_text_of_bag, gl_text_of_bag, F_text_of_bag⟩
  · exact ⟨_, fd_thing_from, gl_thing_from, F_thing_from⟩
  · exact ⟨_, fd_sort_from, gl_sort_from, F_sort_from⟩
  · exact ⟨_, fd_bag_from, gl_bag_from, F_bag_from⟩
  · exact ⟨_, fd_bag_by, gl_bag_by, F_bag_by⟩
  · exact ⟨_, fd_numbers_of, gl_numbers_of, F_numbers_of⟩
  · exact ⟨_, fd_are_within, gl_are_within, F_are_within⟩
  · exact ⟨_, fd_has_by, gl_has_by, F_has_by⟩
  · exact ⟨_, fd_check_hall, gl_check_hall, F_check_hall⟩
  · exact ⟨_, fd_check_bag, gl_check_bag, F_check_bag⟩
  · exact ⟨_, fd_check_text, gl_check_text, F_check_text⟩
  · exact ⟨_, fd_is_hall, gl_is_hall, F_is_hall⟩
  · exact ⟨_, fd_is_bag, gl_is_bag, F_is_bag⟩
  · exact ⟨_, fd_bag_text, gl_bag_text, F_bag_text⟩
  · exact ⟨_, fd_read_bag, gl_read_bag, F_read_bag⟩
  · exact ⟨_, fd_bag_of, gl_bag_of, F_bag_of⟩
  · exact ⟨_, fd_has, gl_has, F_has⟩
  · exact ⟨_, fd__law_press, gl__law_press, F__law_press⟩
  · exact ⟨_, fd__law_out, gl__law_out, F__law_out⟩
  · exact ⟨_, fd__law_of, gl__law_of, F__law_of⟩
  · exact ⟨_, fd__law_even, gl__law_even, F__law_even⟩
  · exact ⟨_, fd__law_num, gl__law_num, F__law_num⟩
  · exact ⟨_, fd__law_is_things, gl__law_is_things, F__law_is_things⟩
  · exact ⟨_, fd__law_bag, gl__law_bag, F__law_bag⟩
  · exact ⟨_, fd__law_text, gl__law_text, F__law_text⟩
  · exact ⟨_, fd__law_hall, gl__law_hall, F__law_hall⟩
  · exact ⟨_, fd__law_sorts, gl__law_sorts, F__law_sorts⟩
  · exact ⟨_, fd__law_read, gl__law_read, F__law_read⟩
  · exact ⟨_, fd__law_near, gl__law_near, F__law_near⟩
  · exact ⟨_, fd__law_near_texts, gl__law_near_texts, F__law_near_texts⟩
  · exact ⟨_, fd__law_heard, gl__law_heard, F__law_heard⟩
  · exact ⟨_, fd__law_holds_all, gl__law_holds_all, F__law_holds_all⟩
  · exact ⟨_, fd_law, gl_law, F_law⟩
  · exact He.free_ok X G (D.fact 49 (f := .free "abs") rfl)
  · exact He.free_ok X G (D.fact 50 (f := .free "all") rfl)
  · exact He.free_ok X G (D.fact 51 (f := .free "bool") rfl)
  · exact He.free_ok X G (D.fact 52 (f := .free "enumerate") rfl)
  · exact He.free_ok X G (D.fact 53 (f := .free "int") rfl)
  · exact He.free_ok X G (D.fact 54 (f := .free "isinstance") rfl)
  · exact He.free_ok X G (D.fact 55 (f := .free "len") rfl)
  · exact He.free_ok X G (D.fact 56 (f := .free "list") rfl)
  · exact He.free_ok X G (D.fact 57 (f := .free "min") rfl)
  · exact He.free_ok X G (D.fact 58 (f := .free "range") rfl)
  · exact He.free_ok X G (D.fact 59 (f := .free "repr") rfl)
  · exact He.free_ok X G (D.fact 60 (f := .free "sorted") rfl)
  · exact He.free_ok X G (D.fact 61 (f := .free "str") rfl)
  · exact He.free_ok X G (D.fact 62 (f := .free "tuple") rfl)
  · exact He.free_ok X G (D.fact 63 (f := .free "zip") rfl)
  · exact gloB_ok X G ek_FIGURES
  · exact gloB_ok X G ek_LONGEST_NUMBER
  · exact gloB_ok X G ek_AGING
  · exact gloB_ok X G ek_KINDS
  · exact gloB_ok X G ek_YOUNG
  · exact gloB_ok X G ek_OLD
  · exact gloB_ok X G ek_MOST_AGE
  · exact gloB_ok X G ek_MOST_THINGS
  · exact gloB_ok X G ek_MOST_SORTS
  · exact gloB_ok X G ek_BLANK
  · exact gloB_ok X G ek_NOTHING
  · exact gloB_ok X G ek_OLD_TEXT
  · exact gloB_ok X G ek_SORTS
  · exact fun P w base => ⟨_, xcl_ok (base := base) X G (D.fact 46 (f := .glo "InvalidBag") rfl) ex_InvalidBag F_InvalidBag_init ⟨rfl, rfl, rfl, by decide +kernel, rfl, by decide +kernel, by decide +kernel⟩ (Or.inl rfl) (Or.inl rfl) (by decide +kernel) (by decide +kernel) (fun _ => rfl) (fun _ _ _ _ _ _ us hl => match us, hl with | [_, _], _ => rfl)⟩
  · exact fun P w base => ⟨_, xcl_ok (base := base) X G (D.fact 47 (f := .glo "InvalidHall") rfl) ex_InvalidHall F_InvalidHall_init ⟨rfl, rfl, rfl, by decide +kernel, rfl, by decide +kernel, by decide +kernel⟩ (Or.inl rfl) (Or.inl rfl) (by decide +kernel) (by decide +kernel) (fun _ => rfl) (fun _ _ _ _ _ _ us hl => match us, hl with | [_, _], _ => rfl)⟩
  · exact fun P w base => ⟨_, xcl_ok (base := base) X G (D.fact 48 (f := .glo "InvalidText") rfl) ex_InvalidText F_InvalidText_init ⟨rfl, rfl, rfl, by decide +kernel, rfl, by decide +kernel, by decide +kernel⟩ (Or.inl rfl) (Or.inl rfl) (by decide +kernel) (by decide +kernel) (fun _ => rfl) (fun _ _ _ _ _ _ us hl => match us, hl with | [_, _], _ => rfl)⟩
  · refine ⟨_, gl_AgeError, fun C b Ca hm hg => ?_⟩
    unfold m_AgeError at hm
    by_cases e_InvalidBag : C = "InvalidBag"
    · subst e_InvalidBag
      rw [if_pos rfl] at hm
      cases hm
      have z := gl_InvalidBag
      rw [hg] at z
      cases z
      exact He.exm_ok (D.fact 64 (f := .exm "InvalidBag" "AgeError" true) rfl)
    rw [if_neg e_InvalidBag] at hm
    by_cases e_InvalidHall : C = "InvalidHall"
    · subst e_InvalidHall
      rw [if_pos rfl] at hm
      cases hm
      have z := gl_InvalidHall
      rw [hg] at z
      cases z
      exact He.exm_ok (D.fact 67 (f := .exm "InvalidHall" "AgeError" true) rfl)
    rw [if_neg e_InvalidHall] at hm
    by_cases e_InvalidText : C = "InvalidText"
    · subst e_InvalidText
      rw [if_pos rfl] at hm
      cases hm
      have z := gl_InvalidText
      rw [hg] at z
      cases z
      exact He.exm_ok (D.fact 70 (f := .exm "InvalidText" "AgeError" true) rfl)
    rw [if_neg e_InvalidText] at hm
    cases hm
  · refine ⟨_, gl_InvalidBag, fun C b Ca hm hg => ?_⟩
    unfold m_InvalidBag at hm
    by_cases e_InvalidBag : C = "InvalidBag"
    · subst e_InvalidBag
      rw [if_pos rfl] at hm
      cases hm
      have z := gl_InvalidBag
      rw [hg] at z
      cases z
      exact He.exm_ok (D.fact 65 (f := .exm "InvalidBag" "InvalidBag" true) rfl)
    rw [if_neg e_InvalidBag] at hm
    by_cases e_InvalidHall : C = "InvalidHall"
    · subst e_InvalidHall
      rw [if_pos rfl] at hm
      cases hm
      have z := gl_InvalidHall
      rw [hg] at z
      cases z
      exact He.exm_ok (D.fact 68 (f := .exm "InvalidHall" "InvalidBag" false) rfl)
    rw [if_neg e_InvalidHall] at hm
    by_cases e_InvalidText : C = "InvalidText"
    · subst e_InvalidText
      rw [if_pos rfl] at hm
      cases hm
      have z := gl_InvalidText
      rw [hg] at z
      cases z
      exact He.exm_ok (D.fact 71 (f := .exm "InvalidText" "InvalidBag" false) rfl)
    rw [if_neg e_InvalidText] at hm
    cases hm
  · refine ⟨_, gl_InvalidText, fun C b Ca hm hg => ?_⟩
    unfold m_InvalidText at hm
    by_cases e_InvalidBag : C = "InvalidBag"
    · subst e_InvalidBag
      rw [if_pos rfl] at hm
      cases hm
      have z := gl_InvalidBag
      rw [hg] at z
      cases z
      exact He.exm_ok (D.fact 66 (f := .exm "InvalidBag" "InvalidText" false) rfl)
    rw [if_neg e_InvalidBag] at hm
    by_cases e_InvalidHall : C = "InvalidHall"
    · subst e_InvalidHall
      rw [if_pos rfl] at hm
      cases hm
      have z := gl_InvalidHall
      rw [hg] at z
      cases z
      exact He.exm_ok (D.fact 69 (f := .exm "InvalidHall" "InvalidText" false) rfl)
    rw [if_neg e_InvalidHall] at hm
    by_cases e_InvalidText : C = "InvalidText"
    · subst e_InvalidText
      rw [if_pos rfl] at hm
      cases hm
      have z := gl_InvalidText
      rw [hg] at z
      cases z
      exact He.exm_ok (D.fact 72 (f := .exm "InvalidText" "InvalidText" true) rfl)
    rw [if_neg e_InvalidText] at hm
    cases hm
  · intro C Ca hc hg
    unfold XOK at hc
    rcases hc with rfl | rfl | rfl
    · have z := gl_InvalidBag
      rw [hg] at z
      cases z
      have y := ex_InvalidBag
      unfold xclB at y
      simp only [Bool.and_eq_true, decide_eq_true_eq] at y
      exact ⟨xfB_ok y.2.2.2.2, y.2.1⟩
    · have z := gl_InvalidHall
      rw [hg] at z
      cases z
      have y := ex_InvalidHall
      unfold xclB at y
      simp only [Bool.and_eq_true, decide_eq_true_eq] at y
      exact ⟨xfB_ok y.2.2.2.2, y.2.1⟩
    · have z := gl_InvalidText
      rw [hg] at z
      cases z
      have y := ex_InvalidText
      unfold xclB at y
      simp only [Bool.and_eq_true, decide_eq_true_eq] at y
      exact ⟨xfB_ok y.2.2.2.2, y.2.1⟩
abbrev Rw : PySem.W.OpenRow := PySem.W.OpenLaw.row PySem.Challenge.rw_agehalls_k03_whole_bags_written_and_read
abbrev hkL : PySem.W.Hook := He.hookX 4 faL fnL [] [] exL
def obL (s : PySem.W.SharedT) : He.AlX := He.obsX 4 faL fnL [] [] exL (HandSHeadRun.getT s)
theorem obL_eq (s : PySem.W.SharedT) : obL s = hkL.obs s.abs := He.obsX_eq (HandSHeadRun.getT_eq s)
def looseL : List Str := (["is_whole", "is_between", "plain_number", "kind_ok", "is_aging", "thing_ok", "things_ok", "hall_ok", "bag_ok", "text_of_thing", "text_of_sort", "joined_texts", "text_of_bag", "thing_from", "sort_from", "bag_from", "bag_by", "numbers_of", "are_within", "has_by", "check_hall", "check_bag", "check_text", "is_hall", "is_bag", "bag_text", "read_bag", "bag_of", "has", "_law_press"] : List Str) ++ (["_law_out", "_law_of", "_law_even", "_law_num", "_law_is_things", "_law_bag", "_law_text", "_law_hall", "_law_sorts", "_law_read", "_law_near", "_law_near_texts", "_law_heard", "_law_holds_all", "AgeError", "InvalidHall", "InvalidBag", "InvalidText", "FIGURES", "LONGEST_NUMBER", "AGING", "KINDS", "YOUNG", "OLD", "MOST_AGE", "MOST_THINGS", "MOST_SORTS", "BLANK", "NOTHING", "OLD_TEXT"] : List Str) ++ (["SORTS", "SIGNS"] : List Str)
theorem runL (w : World) : HandSHeadRun.RunEq Rw (PySem.W.view Rw.prog [68]) hkL obL 3000 looseL w := by
  intro os
  kernel_rfl
end PL
open PySem PySem.W PySem.Calls PyProof.Rows
theorem PySem.Challenge.cw_agehalls_k03_whole_bags_written_and_read_holds : PySem.Challenge.rw_agehalls_k03_whole_bags_written_and_read.Holds := by
  w_on; o_law
  refine HandSHeadRun.head_any (r := OpenLaw.row PySem.Challenge.rw_agehalls_k03_whole_bags_written_and_read) (q := view (OpenLaw.row PySem.Challenge.rw_agehalls_k03_whole_bags_written_and_read).prog [68]) (H := PL.hkL) (ob := PL.obL) (M := 3000) (loose := PL.looseL) (d := HandSHeadRun.topDef (OpenLaw.row PySem.Challenge.rw_agehalls_k03_whole_bags_written_and_read).prog 68) (kwd := []) PL.obL_eq
    (by kernel_rfl) (fun s => by kernel_rfl) PL.runL (by kernel_rfl) (by kernel_rfl) (by kernel_rfl) (by rfl) (by first | assumption | decide +kernel) (by decide +kernel) ⟨rfl, rfl, rfl, rfl, rfl, by decide +kernel⟩ ?hw ?hc
  case hw => w_witness2
  case hc =>
    refine PL.walkG_of (l := PySem.Challenge.rw_agehalls_k03_whole_bags_written_and_read) (n := 63) (k := 10) (x := "script") rfl (by decide) (by kernel_rfl) ⟨rfl, by decide, by decide⟩ ?F
    intro w mg fa h Y G hmg0
    obtain ⟨K, KX, c⟩ := Y
    have hmg : mg ("law" : PySem.Str) = some (.ref fa) := by
      have e : (HandSHeadRun.topDef (OpenLaw.row PySem.Challenge.rw_agehalls_k03_whole_bags_written_and_read).prog 68).name = ("law" : PySem.Str) := by kernel_rfl
      rw [← e]
      exact hmg0
    have T := PL.headTx_of KX G c
    obtain ⟨f, fd, gf, F⟩ := T.d_law
    have e := hmg.symm.trans gf
    cases e
    have b := L2.FunD.bindsA (ps := ["script"]) F fun _ _ _ _ _ _ us hl => match us, hl with | [_], _ => rfl
    exact ⟨K, fd, PL.PJ, PL.P_law, KX, fun s v => b s [v] rfl, fun ns R hl hR => ⟨ns, rfl, Nat.le_trans hl (by decide), hR⟩, fun base _ _ => PL.ok_law T F⟩
end
