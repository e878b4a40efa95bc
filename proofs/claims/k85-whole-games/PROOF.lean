import PyProof.Rows.All
import Wide.All
import OpenK.AllK
import Wide.FinOn
import HandS.ForMost
import HandS.TupAny
import HandS.Zip
import HandS.Star
import HandS.IsInst
import HandS.Walk
import HandS.Style
import HandS.Sort
import KE.SortData
import KE.GoesMore
import KE.GoesEnum
import KE.KDictDisplayH
import KE.KSuper
import HandS.Nested
import HandS.Defaults
import PySem.Challenge.RW_ropesays_k85_whole_games_told_and_fewest
section
set_option Elab.async false
set_option linter.all false
set_option maxRecDepth 100000
set_option maxHeartbeats 4000000
/-! Qa: data in a heap, descriptions of states, what readings give on descriptions. -/
namespace Q
open PySem L2
/-! ### data -/
/-- a tuple that may be a key (one of two items need not) -/
def TupG (K : PySem.W.Frag) (G : Hp) (a : Addr) (vs : List V) : Prop := G a = some (.tup vs) ∨ (vs.length = 2 ∧ SqT K G a vs)
mutual
inductive At (K : PySem.W.Frag) (G : Hp) : PyData → V → Prop
  | non : At K G .none .non
  | bl (b : Bool) : At K G (.bool b) (.bl b)
  | int (i : Int) : At K G (.int i) (.int i)
  | str (x : Str) : At K G (.str x) (.str x)
  | lst {a : Addr} {vs : List V} {ds : List PyData} : G a = some (.lst vs) → AtL K G ds vs → At K G (.list ds) (.ref a)
  | tup {a : Addr} {vs : List V} {ds : List PyData} : TupG K G a vs → AtL K G ds vs → At K G (.tuple ds) (.ref a)
inductive AtL (K : PySem.W.Frag) (G : Hp) : List PyData → List V → Prop
  | nil : AtL K G [] []
  | cons {d : PyData} {v : V} {ds : List PyData} {vs : List V} : At K G d v → AtL K G ds vs → AtL K G (d :: ds) (v :: vs)
end
def Ex (G H : Hp) : Prop := ∀ a o, G a = some o → H a = some o
theorem Ex.refl (H : Hp) : Ex H H := fun _ _ h => h
theorem Ex.trans {H H1 H2 : Hp} (a : Ex H H1) (b : Ex H1 H2) : Ex H H2 := fun x o h => b x o (a x o h)
theorem Ex.rd {G H : Hp} {a : Addr} {u : HO} (e : Ex G H) (h : Rd G a u) : Rd H a u := by
  rcases h with h | ⟨o, h⟩
  · exact .inl (e _ _ h)
  · exact .inr ⟨o, e _ _ h⟩
theorem Ex.sqT {K : PySem.W.Frag} {G H : Hp} {a : Addr} {xs : List V} (e : Ex G H) (h : SqT K G a xs) : SqT K H a xs := by
  rcases h with h | h
  · exact .inl (e.rd h)
  · exact .inr h
theorem Ex.sqL {K : PySem.W.Frag} {G H : Hp} {a : Addr} {xs : List V} (e : Ex G H) (h : SqL K G a xs) : SqL K H a xs := by
  rcases h with h | h
  · exact .inl (e.rd h)
  · exact .inr h
theorem Ex.tup {K : PySem.W.Frag} {G H : Hp} {a : Addr} {xs : List V} (e : Ex G H) (h : TupG K G a xs) : SqT K H a xs := by
  rcases h with h | ⟨_, h⟩
  · exact .inl (.inl (e _ _ h))
  · exact e.sqT h
theorem Ex.tupG {K : PySem.W.Frag} {G H : Hp} {a : Addr} {xs : List V} (e : Ex G H) (h : TupG K G a xs) : TupG K H a xs := by
  rcases h with h | ⟨l, h⟩
  · exact .inl (e _ _ h)
  · exact .inr ⟨l, e.sqT h⟩
theorem Ex.new {H : Hp} {p : Addr} {o : HO} (h : H p = none) : Ex H (upd H p o) := fun a u e => by
  rw [upd_ne (ne_of_none e h)]
  exact e
/-- a place that G does not know may change in H -/
theorem Ex.mut {G H : Hp} {p : Addr} {o : HO} (e : Ex G H) (h : G p = none) : Ex G (upd H p o) := fun a u ha => by
  rw [upd_ne (ne_of_none ha h)]
  exact e a u ha
theorem Ex.both {G H : Hp} {p : Addr} {o : HO} (e : Ex G H) : Ex (upd G p o) (upd H p o) := fun a u ha => by
  by_cases z : a = p
  · subst z
    rw [upd_same] at ha ⊢
    exact ha
  · rw [upd_ne z] at ha ⊢
    exact e a u ha
theorem Ex.free {G H : Hp} {p : Addr} (e : Ex G H) (h : H p = none) : G p = none := by
  cases q : G p with
  | none => rfl
  | some o =>
    rw [e p o q] at h
    cases h
section
variable {K : PySem.W.Frag} {G G' H : Hp}
mutual
theorem At.mono (e : Ex G G') : ∀ (d : PyData) (v : V), At K G d v → At K G' d v
  | .none, _, h => by cases h; exact .non
  | .bool b, _, h => by cases h; exact .bl b
  | .int i, _, h => by cases h; exact .int i
  | .str x, _, h => by cases h; exact .str x
  | .list ds, _, h => by
    cases h with
    | lst h1 h2 => exact .lst (e _ _ h1) (AtL.mono e ds _ h2)
  | .tuple ds, _, h => by
    cases h with
    | tup h1 h2 => exact .tup (e.tupG h1) (AtL.mono e ds _ h2)
  | .dict _, _, h => by cases h
theorem AtL.mono (e : Ex G G') : ∀ (ds : List PyData) (vs : List V), AtL K G ds vs → AtL K G' ds vs
  | [], _, h => by cases h; exact .nil
  | d :: ds, _, h => by
    cases h with
    | cons h1 h2 => exact .cons (At.mono e d _ h1) (AtL.mono e ds _ h2)
end
theorem At.up {d : PyData} {v : V} (h : At K G d v) (e : Ex G G') : At K G' d v := At.mono e d v h
theorem AtL.up {ds : List PyData} {vs : List V} (h : AtL K G ds vs) (e : Ex G G') : AtL K G' ds vs := AtL.mono e ds vs h
theorem AtL.length : ∀ {ds : List PyData} {vs : List V}, AtL K G ds vs → ds.length = vs.length
  | [], _, h => by cases h; rfl
  | d :: ds, _, h => by
    cases h with
    | cons h1 h2 => rw [List.length_cons, List.length_cons, AtL.length h2]
theorem AtL.get : ∀ {ds : List PyData} {vs : List V} {i : Nat} {d : PyData}, AtL K G ds vs → ds[i]? = some d → ∃ v, vs[i]? = some v ∧ At K G d v
  | [], _, _, _, h, e => by simp at e
  | d :: ds, _, 0, d', h, e => by
    cases h with
    | cons h1 h2 =>
      have e' : d = d' := by simpa using e
      subst e'
      exact ⟨_, rfl, h1⟩
  | d :: ds, _, i + 1, d', h, e => by
    cases h with
    | cons h1 h2 =>
      obtain ⟨v, q, r⟩ := AtL.get (i := i) (d := d') h2 (by simpa using e)
      exact ⟨v, by simpa using q, r⟩
theorem AtL.getV {ds : List PyData} {vs : List V} {i : Nat} {v : V} (h : AtL K G ds vs) (e : vs[i]? = some v) : ∃ d, ds[i]? = some d ∧ At K G d v := by
  have hl : i < ds.length := by
    rw [h.length]
    exact (List.getElem?_eq_some_iff.mp e).1
  obtain ⟨w, e', r⟩ := h.get (List.getElem?_eq_getElem hl)
  rw [e] at e'
  cases e'
  exact ⟨_, List.getElem?_eq_getElem hl, r⟩
theorem AtL.append : ∀ {ds es : List PyData} {vs ws : List V}, AtL K G ds vs → AtL K G es ws → AtL K G (ds ++ es) (vs ++ ws)
  | [], _, _, _, h, h' => by cases h; exact h'
  | _ :: _, _, _, _, h, h' => by
    cases h with
    | cons h1 h2 => exact .cons h1 (AtL.append h2 h')
theorem AtL.take : ∀ {ds : List PyData} {vs : List V} (n : Nat), AtL K G ds vs → AtL K G (ds.take n) (vs.take n)
  | _, _, 0, _ => .nil
  | [], _, _ + 1, h => by cases h; exact .nil
  | _ :: _, _, n + 1, h => by
    cases h with
    | cons h1 h2 => exact .cons h1 (AtL.take n h2)
theorem AtL.drop : ∀ {ds : List PyData} {vs : List V} (n : Nat), AtL K G ds vs → AtL K G (ds.drop n) (vs.drop n)
  | _, _, 0, h => h
  | [], _, _ + 1, h => by cases h; exact .nil
  | _ :: _, _, n + 1, h => by
    cases h with
    | cons h1 h2 => exact AtL.drop n h2
theorem AtL.set : ∀ {ds : List PyData} {vs : List V} {d : PyData} {v : V} (n : Nat), AtL K G ds vs → At K G d v → AtL K G (ds.set n d) (vs.set n v)
  | [], _, _, _, _, h, _ => by cases h; exact .nil
  | _ :: _, _, _, _, 0, h, hd => by
    cases h with
    | cons h1 h2 => exact .cons hd h2
  | _ :: _, _, _, _, n + 1, h, hd => by
    cases h with
    | cons h1 h2 => exact .cons h1 (AtL.set n h2 hd)
theorem AtL.rep {ds : List PyData} {vs : List V} (h : AtL K G ds vs) : ∀ n : Nat, AtL K G (List.replicate n ds).flatten (List.replicate n vs).flatten
  | 0 => .nil
  | n + 1 => by
    rw [List.replicate_succ, List.replicate_succ, List.flatten_cons, List.flatten_cons]
    exact h.append (AtL.rep h n)
theorem AtL.snoc {ds : List PyData} {vs : List V} {d : PyData} {v : V} (h : AtL K G ds vs) (hd : At K G d v) : AtL K G (ds ++ [d]) (vs ++ [v]) := h.append (.cons hd .nil)
theorem AtL.one {d : PyData} {v : V} (h : At K G d v) : AtL K G [d] [v] := .cons h .nil
theorem AtL.ofInts : ∀ (ns : List Int), AtL K G (ns.map PyData.int) (ns.map V.int)
  | [] => .nil
  | n :: ns => .cons (.int n) (AtL.ofInts ns)
theorem AtL.ints : ∀ {ns : List Int} {vs : List V}, AtL K G (ns.map PyData.int) vs → vs = ns.map V.int
  | [], _, h => by cases h; rfl
  | n :: ns, _, h => by
    cases h with
    | cons h1 h2 =>
      cases h1
      rw [AtL.ints h2]
      rfl
theorem AtL.bls : ∀ {ns : List Bool} {vs : List V}, AtL K G (ns.map PyData.bool) vs → vs = ns.map V.bl
  | [], _, h => by cases h; rfl
  | n :: ns, _, h => by
    cases h with
    | cons h1 h2 =>
      cases h1
      rw [AtL.bls h2]
      rfl
mutual
theorem At.dp (e : Ex G H) : ∀ (d : PyData) (v : V), At K G d v → Dp K H v d
  | .none, _, h => by cases h; exact .non
  | .bool b, _, h => by cases h; exact .bl b
  | .int i, _, h => by cases h; exact .int i
  | .str x, _, h => by cases h; exact .str x
  | .list ds, _, h => by
    cases h with
    | lst h1 h2 => exact .lst (.inl (.inl (e _ _ h1))) (AtL.dp e ds _ h2)
  | .tuple ds, _, h => by
    cases h with
    | tup h1 h2 => exact .tup (e.tup h1) (AtL.dp e ds _ h2)
  | .dict _, _, h => by cases h
theorem AtL.dp (e : Ex G H) : ∀ (ds : List PyData) (vs : List V), AtL K G ds vs → DpAll K H vs ds
  | [], _, h => by cases h; exact .nil
  | d :: ds, _, h => by
    cases h with
    | cons h1 h2 => exact .cons (At.dp e d _ h1) (AtL.dp e ds _ h2)
end
end
/-! ### descriptions of states -/
/-- what is known of a slot -/
inductive Sl where
  | un | d (d : PyData) | l (k : Nat) | p (ns : List Int) | s (ns : List Int)
/-- an own object that may change -/
inductive MO where
  | lst (ds : List PyData) | dct (kvs : List (List Int × PyData)) | ins (C : Addr) (fs : List (Str × Sl))
def SlAt (K : PySem.W.Frag) (G : Hp) (as : List Addr) : Sl → Option V → Prop
  | .un, _ => True
  | .d d, o => ∃ v, o = some v ∧ At K G d v
  | .l k, o => ∃ a, as[k]? = some a ∧ o = some (.ref a)
  | .p ns, o => ∃ a ob, o = some (.ref a) ∧ G a = some (.frz ob (.tup (ns.map V.int))) ∧ ob.dict = none
  | .s ns, o => ∃ a, o = some (.ref a) ∧ SqL K G a (ns.map V.int)
def MAt (K : PySem.W.Frag) (G H : Hp) (as : List Addr) (a : Addr) : MO → Prop
  | .lst ds => ∃ vs, H a = some (.lst vs) ∧ AtL K G ds vs
  | .dct kvs => ∃ es : List (List Key × V), H a = some (.dT es) ∧ Paired (fun (p : List Int × PyData) (q : List Key × V) => q.1 = p.1.map Sum.inl ∧ At K G p.2 q.2) kvs es
  | .ins C fs => ∃ dx vs, H a = some (.ins C dx vs) ∧ Paired (fun (p : Str × Sl) (q : Str × V) => p.1 = q.1 ∧ SlAt K G as p.2 (some q.2)) fs vs
structure Rep (K : PySem.W.Frag) (G H : Hp) (as : List Addr) (M : List MO) : Prop where
  ex : Ex G H
  nd : as.Nodup
  len : as.length = M.length
  at_ : ∀ (k : Nat) (a : Addr) (m : MO), as[k]? = some a → M[k]? = some m → G a = none ∧ MAt K G H as a m
structure SlotsAt (K : PySem.W.Frag) (G : Hp) (as : List Addr) (es : List Sl) (σ : L2.St) : Prop where
  len : es.length = σ.length
  at_ : ∀ (i : Nat) (e : Sl) (o : Option V), es[i]? = some e → σ[i]? = some o → SlAt K G as e o
/-- all that stood stands; G grows by what is new alone -/
structure StepP (G H G' H' : Hp) : Prop where
  g : Ex G G'
  h : Ex H H'
  gh : Ex G' H'
  fr : ∀ b, H b ≠ none → G b = none → G' b = none
/-- the objects at as may change, new ones may come behind them -/
structure Step (as : List Addr) (G H : Hp) (as' : List Addr) (G' H' : Hp) : Prop where
  g : Ex G G'
  keep : ∀ b o, b ∉ as → H b = some o → H' b = some o
  gh : Ex G' H'
  fr : ∀ b, H b ≠ none → G b = none → G' b = none
  live : ∀ b, H b ≠ none → H' b ≠ none
  more : ∃ new, as' = as ++ new ∧ ∀ b ∈ new, H b = none
section
variable {K : PySem.W.Frag} {G G1 G2 H H1 H2 : Hp} {as as1 as2 : List Addr} {M : List MO} {es : List Sl} {σ : L2.St}
theorem StepP.refl (e : Ex G H) : StepP G H G H := ⟨.refl _, .refl _, e, fun _ _ h => h⟩
theorem StepP.trans (a : StepP G H G1 H1) (b : StepP G1 H1 G2 H2) : StepP G H G2 H2 :=
  ⟨a.g.trans b.g, a.h.trans b.h, b.gh, fun c h1 h2 => b.fr c (by
    cases q : H c with
    | none => exact absurd q h1
    | some o => rw [a.h c o q]; exact fun z => nomatch z) (a.fr c h1 h2)⟩
theorem StepP.step (a : StepP G H G1 H1) : Step as G H as G1 H1 := by
  refine ⟨a.g, fun b o _ h => a.h b o h, a.gh, a.fr, fun b h => ?_, [], (List.append_nil _).symm, fun b hb => absurd hb (List.not_mem_nil)⟩
  cases q : H b with
  | none => exact absurd q h
  | some o =>
    rw [a.h b o q]
    exact fun z => nomatch z
theorem Step.refl (e : Ex G H) : Step as G H as G H := (StepP.refl e).step
theorem Step.trans (a : Step as G H as1 G1 H1) (b : Step as1 G1 H1 as2 G2 H2) : Step as G H as2 G2 H2 := by
  obtain ⟨n1, e1, f1⟩ := a.more
  obtain ⟨n2, e2, f2⟩ := b.more
  refine ⟨a.g.trans b.g, fun c o hc h => b.keep c o (fun z => ?_) (a.keep c o hc h), b.gh, fun c h1 h2 => b.fr c (a.live c h1) (a.fr c h1 h2), fun c h => b.live c (a.live c h), n1 ++ n2, ?_, fun c hc => ?_⟩
  · rw [e1] at z
    rcases List.mem_append.mp z with z | z
    · exact hc z
    · rw [f1 c z] at h
      cases h
  · rw [e2, e1, List.append_assoc]
  · rcases List.mem_append.mp hc with z | z
    · exact f1 c z
    · have := f2 c z
      cases q : H c with
      | none => rfl
      | some o => exact absurd this (a.live c (by rw [q]; exact fun z => nomatch z))
theorem SlAt.up {s : Sl} {o : Option V} {more : List Addr} (h : SlAt K G as s o) (e : Ex G G1) : SlAt K G1 (as ++ more) s o := by
  cases s with
  | un => trivial
  | d d =>
    obtain ⟨v, h1, h2⟩ := h
    exact ⟨v, h1, h2.up e⟩
  | l k =>
    obtain ⟨a, h1, h2⟩ := h
    exact ⟨a, by rw [List.getElem?_append_left (List.getElem?_eq_some_iff.mp h1).1]; exact h1, h2⟩
  | p ns =>
    obtain ⟨a, ob, h1, h2, h3⟩ := h
    exact ⟨a, ob, h1, e _ _ h2, h3⟩
  | s ns =>
    obtain ⟨a, h1, h2⟩ := h
    exact ⟨a, h1, e.sqL h2⟩
theorem SlAt.up0 {s : Sl} {o : Option V} (h : SlAt K G as s o) (e : Ex G G1) : SlAt K G1 as s o := by
  have := SlAt.up (more := []) h e
  rwa [List.append_nil] at this
theorem SlotsAt.up (h : SlotsAt K G as es σ) (e : Ex G G1) (more : List Addr) : SlotsAt K G1 (as ++ more) es σ :=
  ⟨h.len, fun i s o h1 h2 => (h.at_ i s o h1 h2).up e⟩
theorem SlotsAt.up0 (h : SlotsAt K G as es σ) (e : Ex G G1) : SlotsAt K G1 as es σ :=
  ⟨h.len, fun i s o h1 h2 => (h.at_ i s o h1 h2).up0 e⟩
theorem SlotsAt.step (h : SlotsAt K G as es σ) (s : Step as G H as1 G1 H1) : SlotsAt K G1 as1 es σ := by
  obtain ⟨new, e, _⟩ := s.more
  subst e
  exact h.up s.g new
theorem MAt.up {a : Addr} {m : MO} {more : List Addr} (h : MAt K G H as a m) (e : Ex G G1) (e2 : ∀ o, H a = some o → H1 a = some o) : MAt K G1 H1 (as ++ more) a m := by
  cases m with
  | lst ds =>
    obtain ⟨vs, h1, h2⟩ := h
    exact ⟨vs, e2 _ h1, h2.up e⟩
  | dct kvs =>
    obtain ⟨es, h1, h2⟩ := h
    exact ⟨es, e2 _ h1, Paired.mapP h2 fun p q z => ⟨z.1, z.2.up e⟩⟩
  | ins C fs =>
    obtain ⟨dx, vs, h1, h2⟩ := h
    exact ⟨dx, vs, e2 _ h1, Paired.mapP h2 fun p q z => ⟨z.1, z.2.up e⟩⟩
theorem MAt.ne {a : Addr} {m : MO} (h : MAt K G H as a m) : H a ≠ none := by
  cases m with
  | lst ds => obtain ⟨vs, h1, h2⟩ := h; rw [h1]; exact fun z => nomatch z
  | dct kvs => obtain ⟨es, h1, h2⟩ := h; rw [h1]; exact fun z => nomatch z
  | ins C fs => obtain ⟨dx, vs, h1, h2⟩ := h; rw [h1]; exact fun z => nomatch z
theorem Rep.stepP (r : Rep K G H as M) (s : StepP G H G1 H1) : Rep K G1 H1 as M :=
  ⟨s.gh, r.nd, r.len, fun k a m h1 h2 => by
    obtain ⟨z, q⟩ := r.at_ k a m h1 h2
    refine ⟨s.fr a q.ne z, ?_⟩
    have := q.up (more := []) s.g (H1 := H1) fun o ho => s.h a o ho
    rwa [List.append_nil] at this⟩
theorem Rep.mem (r : Rep K G H as M) {a : Addr} (h : a ∈ as) : G a = none ∧ H a ≠ none := by
  obtain ⟨k, hk⟩ := List.mem_iff_getElem?.mp h
  have hl : k < M.length := by rw [← r.len]; exact (List.getElem?_eq_some_iff.mp hk).1
  obtain ⟨z, q⟩ := r.at_ k a _ hk (List.getElem?_eq_getElem hl)
  exact ⟨z, q.ne⟩
/-- the k-th own object changes -/
theorem Rep.put (r : Rep K G H as M) {k : Nat} {a : Addr} {m : MO} {o : HO} (hk : as[k]? = some a) (hm : MAt K G (upd H a o) as a m) : Rep K G (upd H a o) as (M.set k m) ∧ Step as G H as G (upd H a o) := by
  have ha : a ∈ as := List.mem_of_getElem? hk
  obtain ⟨ga, ha'⟩ := r.mem ha
  refine ⟨⟨r.ex.mut ga, r.nd, by rw [List.length_set]; exact r.len, fun j b m' h1 h2 => ?_⟩, ⟨.refl _, fun b u hb h => ?_, r.ex.mut ga, fun b _ h => h, fun b h => ?_, [], by simp, by simp⟩⟩
  · by_cases hj : k = j
    · subst hj
      rw [hk] at h1
      cases h1
      have hl : k < M.length := by rw [← r.len]; exact (List.getElem?_eq_some_iff.mp hk).1
      rw [List.getElem?_set_self hl] at h2
      cases h2
      exact ⟨ga, hm⟩
    · rw [List.getElem?_set_ne hj] at h2
      obtain ⟨z, q⟩ := r.at_ j b m' h1 h2
      have hne : b ≠ a := fun e => by
        subst e
        obtain ⟨l1, e1⟩ := List.getElem?_eq_some_iff.mp hk
        obtain ⟨l2, e2⟩ := List.getElem?_eq_some_iff.mp h1
        exact hj ((List.getElem_inj r.nd).mp (e1.trans e2.symm))
      refine ⟨z, ?_⟩
      have := q.up (more := []) (Ex.refl G) (H1 := upd H a o) fun u hu => by rw [upd_ne hne]; exact hu
      rwa [List.append_nil] at this
  · rw [upd_ne fun e => hb (by rw [e]; exact ha)]
    exact h
  · by_cases e : b = a
    · subst e
      rw [upd_same]
      exact fun z => nomatch z
    · rw [upd_ne e]
      exact h
/-- a new own object -/
theorem Rep.push (r : Rep K G H as M) {a : Addr} {m : MO} {o : HO} (ha : H a = none) (hm : MAt K G (upd H a o) (as ++ [a]) a m) : Rep K G (upd H a o) (as ++ [a]) (M ++ [m]) ∧ Step as G H (as ++ [a]) G (upd H a o) := by
  have ga : G a = none := r.ex.free ha
  have na : a ∉ as := fun h => (r.mem h).2 ha
  refine ⟨⟨r.ex.mut ga, ?_, by rw [List.length_append, List.length_append, r.len]; rfl, fun j b m' h1 h2 => ?_⟩, ⟨.refl _, fun b u _ h => Ex.new ha b u h, r.ex.mut ga, fun b _ h => h, fun b h => ?_, [a], rfl, fun b hb => by rw [List.mem_singleton.mp hb]; exact ha⟩⟩
  · exact nd_snoc r.nd na
  · by_cases hj : j < as.length
    · rw [List.getElem?_append_left hj] at h1
      rw [List.getElem?_append_left (by rw [← r.len]; exact hj)] at h2
      obtain ⟨z, q⟩ := r.at_ j b m' h1 h2
      exact ⟨z, q.up (Ex.refl G) fun u hu => Ex.new ha b u hu⟩
    · have hj' : as.length ≤ j := Nat.le_of_not_lt hj
      rw [List.getElem?_append_right hj'] at h1
      rw [List.getElem?_append_right (by rw [← r.len]; exact hj'), ← r.len] at h2
      cases q : j - as.length with
      | zero =>
        rw [q] at h1 h2
        simp at h1 h2
        subst h1 h2
        exact ⟨ga, hm⟩
      | succ n =>
        rw [q] at h1
        simp at h1
  · by_cases e : b = a
    · subst e
      rw [upd_same]
      exact fun z => nomatch z
    · rw [upd_ne e]
      exact h
/-- a new object that will never change -/
theorem StepP.new {a : Addr} {o : HO} (e : Ex G H) (ha : H a = none) : StepP G H (upd G a o) (upd H a o) :=
  ⟨.new (e.free ha), .new ha, e.both, fun b h1 h2 => by
    rw [upd_ne fun z => h1 (by rw [z]; exact ha)]
    exact h2⟩
/-- own objects behind the first n are let go -/
theorem Rep.take (r : Rep K G H as M) (n : Nat) (hf : ∀ k m, k < n → M[k]? = some m → ∀ C fs, m ≠ .ins C fs) : Rep K G H (as.take n) (M.take n) :=
  ⟨r.ex, r.nd.sublist (List.take_sublist _ _), by rw [List.length_take, List.length_take, r.len], fun k a m h1 h2 => by
    rw [List.getElem?_take] at h1 h2
    by_cases hk : k < n
    · rw [if_pos hk] at h1 h2
      obtain ⟨z, q⟩ := r.at_ k a m h1 h2
      refine ⟨z, ?_⟩
      cases m with
      | lst ds => exact q
      | dct kvs => exact q
      | ins C fs => exact absurd rfl (hf k _ hk h2 C fs)
    · rw [if_neg hk] at h1
      cases h1⟩
end
end Q
end
section
set_option Elab.async false
set_option linter.all false
set_option maxRecDepth 100000
set_option maxHeartbeats 4000000
/-! Qb: what readings of expressions give on descriptions. -/
namespace Q
open PySem L2
section
variable (K : PySem.W.Frag)
/-- a pure expression: data -/
def EvP (te : TE) (es : List Sl) (M : List MO) (d : PyData) : Prop :=
  ∀ G H as σ, Rep K G H as M → SlotsAt K G as es σ → ∀ Q : VK, (∀ v G' H', StepP G H G' H' → At K G' d v → Q v H') → te σ H Q
/-- a list's items, of one that never changes or an own one -/
def EvS (te : TE) (es : List Sl) (M : List MO) (ds : List PyData) : Prop :=
  ∀ G H as σ, Rep K G H as M → SlotsAt K G as es σ → ∀ Q : VK, (∀ a vs G' H', StepP G H G' H' → H' a = some (.lst vs) → AtL K G' ds vs → Q (.ref a) H') → te σ H Q
/-- a new own object -/
def EvN (te : TE) (es : List Sl) (M : List MO) (m : MO) : Prop :=
  ∀ G H as σ, Rep K G H as M → SlotsAt K G as es σ → ∀ Q : VK, (∀ a G' H', StepP G H G' H' → H a = none → G' a = none → MAt K G' H' as a m → Q (.ref a) H') → te σ H Q
/-- a pure test -/
def EvTP (tt : TT) (es : List Sl) (M : List MO) (b : Bool) : Prop :=
  ∀ G H as σ, Rep K G H as M → SlotsAt K G as es σ → ∀ Q : Bool → Hp → Prop, (∀ G' H', StepP G H G' H' → Q b H') → tt σ H Q
def EvAP (ta : TA) (es : List Sl) (M : List MO) (ds : List PyData) : Prop :=
  ∀ G H as σ, Rep K G H as M → SlotsAt K G as es σ → ∀ Q : List V → Hp → Prop, (∀ vs G' H', StepP G H G' H' → AtL K G' ds vs → Q vs H') → ta σ H Q
def EvO (to : TO) (es : List Sl) (M : List MO) (o : Option Int) : Prop :=
  ∀ G H as σ, Rep K G H as M → SlotsAt K G as es σ → ∀ Q : Option Int → Hp → Prop, (∀ G' H', StepP G H G' H' → Q o H') → to σ H Q
end
section
variable {K : PySem.W.Frag} {te ta tb tc : TE} {tt tu : TT} {tr : TA} {es : List Sl} {M : List MO} {d x y z : PyData} {ds ds' : List PyData} {r : R2}
theorem SlotsAt.get {G : Hp} {as : List Addr} {σ : L2.St} {i : Nat} {e : Sl} (S : SlotsAt K G as es σ) (h : es[i]? = some e) : ∃ o, σ[i]? = some o ∧ SlAt K G as e o := by
  have hl : i < σ.length := by
    rw [← S.len]
    exact (List.getElem?_eq_some_iff.mp h).1
  exact ⟨σ[i], List.getElem?_eq_getElem hl, S.at_ i e _ h (List.getElem?_eq_getElem hl)⟩
theorem evp_is (h : EvP K te es M x) (e : x = d) : EvP K te es M d := e ▸ h
theorem evt_is {a b : Bool} (h : EvTP K tt es M a) (e : a = b) : EvTP K tt es M b := e ▸ h
theorem evs_is (h : EvS K te es M ds) (e : ds = ds') : EvS K te es M ds' := e ▸ h
theorem evn_is {m m' : MO} (h : EvN K te es M m) (e : m = m') : EvN K te es M m' := e ▸ h
/-! ### names, constants -/
theorem evp_var {i : Nat} (h : es[i]? = some (.d d)) : EvP K (tVar i) es M d := fun G H as σ R S Q q => by
  obtain ⟨o, e, v, rfl, hv⟩ := S.get h
  exact ⟨v, e, q v G H (.refl R.ex) hv⟩
theorem evs_var {i k : Nat} (h : es[i]? = some (.l k)) (hm : M[k]? = some (.lst ds)) : EvS K (tVar i) es M ds := fun G H as σ R S Q q => by
  obtain ⟨o, e, a, ha, rfl⟩ := S.get h
  obtain ⟨_, vs, h1, h2⟩ := R.at_ k a _ ha hm
  exact ⟨_, e, q a vs G H (.refl R.ex) h1 h2⟩
theorem evs_of (h : EvP K te es M (.list ds)) : EvS K te es M ds := fun G H as σ R S Q q => by
  refine h G H as σ R S Q fun v G' H' s a => ?_
  cases a with
  | lst h1 h2 => exact q _ _ G' H' s (s.gh _ _ h1) h2
theorem evp_of_new (h : EvN K te es M (.lst ds)) : EvP K te es M (.list ds) := fun G H as σ R S Q q => by
  refine h G H as σ R S Q fun a G' H' s ha ga ⟨vs, h1, h2⟩ => ?_
  have gn : Ex G' (upd G' a (.lst vs)) := .new ga
  refine q _ (upd G' a (.lst vs)) H' ⟨s.g.trans gn, s.h, fun b o hb => ?_, fun b h1 h2 => ?_⟩ (.lst upd_same (h2.up gn))
  · by_cases e : b = a
    · subst e
      rw [upd_same] at hb
      cases hb
      exact h1
    · rw [upd_ne e] at hb
      exact s.gh b o hb
  · rw [upd_ne fun e => h1 (by rw [e]; exact ha)]
    exact s.fr b h1 h2
theorem evs_new (h : EvN K te es M (.lst ds)) : EvS K te es M ds := evs_of (evp_of_new h)
theorem evp_int {i : Int} : EvP K (tC (.int i)) es M (.int i) := fun G H as σ R S Q q => q _ G H (.refl R.ex) (.int i)
theorem evp_str {i : Str} : EvP K (tC (.str i)) es M (.str i) := fun G H as σ R S Q q => q _ G H (.refl R.ex) (.str i)
theorem evp_bl {i : Bool} : EvP K (tC (.bl i)) es M (.bool i) := fun G H as σ R S Q q => q _ G H (.refl R.ex) (.bl i)
theorem evp_non : EvP K (tC .non) es M .none := fun G H as σ R S Q q => q _ G H (.refl R.ex) .non
/-- a written tuple of ints -/
theorem evp_wt {a : Addr} {ns : List Int} (h : ∀ G, SqT K G a (ns.map V.int)) (hl : ns.length = 2) : EvP K (tC (.ref a)) es M (.tuple (ns.map PyData.int)) := fun G H as σ R S Q q => q _ G H (.refl R.ex) (.tup (.inr ⟨by rw [List.length_map]; exact hl, h G⟩) (.ofInts ns))
/-! ### two operands -/
theorem evp_bin (ha : EvP K ta es M x) (hb : EvP K tb es M y) (hr : ∀ G H v u, Ex G H → At K G x v → At K G y u → ∀ Q : VK, (∀ w G' H', StepP G H G' H' → At K G' d w → Q w H') → r v u H Q) : EvP K (tOp r ta tb) es M d := fun G H as σ R S Q q =>
  ha G H as σ R S _ fun v G1 H1 s1 a1 => hb G1 H1 as σ (R.stepP s1) (S.up0 s1.g) _ fun u G2 H2 s2 a2 =>
    hr G2 H2 v u s2.gh (a1.up s2.g) a2 Q fun w G3 H3 s3 a3 => q w G3 H3 ((s1.trans s2).trans s3) a3
/-- the first one a list -/
theorem evs_bin (ha : EvS K ta es M ds) (hb : EvP K tb es M y) (hr : ∀ G H a vs u, Ex G H → H a = some (.lst vs) → AtL K G ds vs → At K G y u → ∀ Q : VK, (∀ w G' H', StepP G H G' H' → At K G' d w → Q w H') → r (.ref a) u H Q) : EvP K (tOp r ta tb) es M d := fun G H as σ R S Q q =>
  ha G H as σ R S _ fun a vs G1 H1 s1 h1 a1 => hb G1 H1 as σ (R.stepP s1) (S.up0 s1.g) _ fun u G2 H2 s2 a2 =>
    hr G2 H2 a vs u s2.gh (s2.h _ _ h1) (a1.up s2.g) a2 Q fun w G3 H3 s3 a3 => q w G3 H3 ((s1.trans s2).trans s3) a3
/-- a new object of two lists -/
theorem evn_ss {m : MO} (ha : EvS K ta es M ds) (hb : EvS K tb es M ds') (hr : ∀ G H as a vs b ws, Ex G H → H a = some (.lst vs) → AtL K G ds vs → H b = some (.lst ws) → AtL K G ds' ws → ∀ Q : VK, (∀ c G' H', StepP G H G' H' → H c = none → G' c = none → MAt K G' H' as c m → Q (.ref c) H') → r (.ref a) (.ref b) H Q) :
    EvN K (tOp r ta tb) es M m := fun G H as σ R S Q q =>
  ha G H as σ R S _ fun a vs G1 H1 s1 h1 a1 => hb G1 H1 as σ (R.stepP s1) (S.up0 s1.g) _ fun b ws G2 H2 s2 h2 a2 =>
    hr G2 H2 as a vs b ws s2.gh (s2.h _ _ h1) (a1.up s2.g) h2 a2 Q fun c G3 H3 s3 hc gc mc => q c G3 H3 ((s1.trans s2).trans s3) ((s1.trans s2).h.free hc) gc mc
theorem evn_sp {m : MO} (ha : EvS K ta es M ds) (hb : EvP K tb es M y) (hr : ∀ G H as a vs u, Ex G H → H a = some (.lst vs) → AtL K G ds vs → At K G y u → ∀ Q : VK, (∀ c G' H', StepP G H G' H' → H c = none → G' c = none → MAt K G' H' as c m → Q (.ref c) H') → r (.ref a) u H Q) :
    EvN K (tOp r ta tb) es M m := fun G H as σ R S Q q =>
  ha G H as σ R S _ fun a vs G1 H1 s1 h1 a1 => hb G1 H1 as σ (R.stepP s1) (S.up0 s1.g) _ fun u G2 H2 s2 a2 =>
    hr G2 H2 as a vs u s2.gh (s2.h _ _ h1) (a1.up s2.g) a2 Q fun c G3 H3 s3 hc gc mc => q c G3 H3 ((s1.trans s2).trans s3) ((s1.trans s2).h.free hc) gc mc
/-- ints to an int, to a truth -/
theorem evp_Ii {C : Int → Int → Prop} {g : Int → Int → Int} {i j : Int} (ha : EvP K ta es M (.int i)) (hb : EvP K tb es M (.int j)) (hc : C i j) : EvP K (tOp (rI C fun i j => .int (g i j)) ta tb) es M (.int (g i j)) :=
  evp_bin ha hb fun G H v u e a1 a2 Q q => by
    cases a1
    cases a2
    exact ⟨i, j, rfl, rfl, hc, q _ G H (.refl e) (.int _)⟩
theorem evp_I0i {g : Int → Int → Int} {i j : Int} (ha : EvP K ta es M (.int i)) (hb : EvP K tb es M (.int j)) : EvP K (tOp (rI0 fun i j => .int (g i j)) ta tb) es M (.int (g i j)) :=
  evp_bin ha hb fun G H v u e a1 a2 Q q => by
    cases a1
    cases a2
    exact ⟨i, j, rfl, rfl, q _ G H (.refl e) (.int _)⟩
theorem evp_I0b {g : Int → Int → Bool} {i j : Int} (ha : EvP K ta es M (.int i)) (hb : EvP K tb es M (.int j)) : EvP K (tOp (rI0 fun i j => .bl (g i j)) ta tb) es M (.bool (g i j)) :=
  evp_bin ha hb fun G H v u e a1 a2 Q q => by
    cases a1
    cases a2
    exact ⟨i, j, rfl, rfl, q _ G H (.refl e) (.bl _)⟩
theorem evp_neg {i : Int} (ha : EvP K ta es M (.int i)) : EvP K (tUn (rU fun i => .int (-i)) ta) es M (.int (-i)) := fun G H as σ R S Q q =>
  ha G H as σ R S _ fun v G1 H1 s1 a1 => by
    cases a1
    exact ⟨i, rfl, q _ G1 H1 s1 (.int _)⟩
end
/-! ### the union rules -/
/-- + of ints, lists, tuples -/
def rAddX (K : PySem.W.Frag) : R2 := fun x y H Q => (rI0 (fun i j => .int (i + j)) x y H Q ∨ rCat x y H Q) ∨ rCatA K x y H Q
theorem op_addX {X : Cx} : OpR X (binaryOp .Add) (rAddX X.K) := (op_add.or op_cat).or op_catA
/-- * of ints, of a list and an int -/
def rMulX : R2 := fun x y H Q => rI CMul (fun i j => .int (i * j)) x y H Q ∨ rRep x y H Q
theorem op_mulX {X : Cx} : OpR X (binaryOp .Mult) rMulX := op_mul.or op_rep
/-- a slice of a list, of a tuple -/
def rSlX (K : PySem.W.Frag) : V → Option Int → Option Int → Hp → VK → Prop := fun x lo hi H Q => rSlL K x lo hi H Q ∨ rSlA K x lo hi H Q
theorem sl_X {X : Cx} : SlR X (rSlX X.K) := sl_list.or sl_tupA
section
variable {K : PySem.W.Frag} {te ta tb tc : TE} {tt tu : TT} {tr : TA} {tl th : TO} {es : List Sl} {M : List MO} {d x y z : PyData} {ds ds' : List PyData} {r : R2}
theorem sz6 {n : Nat} (h : n ≤ 1000000) : n ≤ sizeLine := Nat.le_trans h (by decide)
theorem sz6' {n : Nat} (h : n < 1000000) : n < sizeLine := Nat.lt_of_lt_of_le h (by decide)
/-- the end of a new tuple, a new list -/
theorem fin_tup {G H : Hp} {vs : List V} {Q : VK} (e : Ex G H) (a : AtL K G ds vs) (q : ∀ w G' H', StepP G H G' H' → At K G' (.tuple ds) w → Q w H') : ∀ p, H p = none → Q (.ref p) (upd H p (.tup vs)) := fun p hp =>
  q _ _ _ (.new e hp) (.tup (.inl upd_same) (a.up (.new (e.free hp))))
theorem fin_new {G H : Hp} {as : List Addr} {vs : List V} {Q : VK} (e : Ex G H) (a : AtL K G ds vs) (q : ∀ c G' H', StepP G H G' H' → H c = none → G' c = none → MAt K G' H' as c (.lst ds) → Q (.ref c) H') : ∀ p, H p = none → Q (.ref p) (upd H p (.lst vs)) := fun p hp =>
  q p G _ ⟨.refl _, .new hp, e.mut (e.free hp), fun _ _ h => h⟩ hp (e.free hp) ⟨vs, upd_same, a⟩
theorem evp_add {i j : Int} (ha : EvP K ta es M (.int i)) (hb : EvP K tb es M (.int j)) : EvP K (tOp (rAddX K) ta tb) es M (.int (i + j)) :=
  evp_bin ha hb fun G H v u e a1 a2 Q q => by
    cases a1
    cases a2
    exact .inl (.inl ⟨i, j, rfl, rfl, q _ G H (.refl e) (.int _)⟩)
theorem evp_mul {i j : Int} (ha : EvP K ta es M (.int i)) (hb : EvP K tb es M (.int j)) (hc : CMul i j) : EvP K (tOp rMulX ta tb) es M (.int (i * j)) :=
  evp_bin ha hb fun G H v u e a1 a2 Q q => by
    cases a1
    cases a2
    exact .inl ⟨i, j, rfl, rfl, hc, q _ G H (.refl e) (.int _)⟩
theorem evp_addT (ha : EvP K ta es M (.tuple ds)) (hb : EvP K tb es M (.tuple ds')) (hl : ds.length + ds'.length ≤ 1000000) : EvP K (tOp (rAddX K) ta tb) es M (.tuple (ds ++ ds')) :=
  evp_bin ha hb fun G H v u e a1 a2 Q q => by
    cases a1 with
    | @tup a vs _ h1 l1 =>
      cases a2 with
      | @tup b ws _ h2 l2 =>
        refine .inr ⟨a, b, vs, ws, rfl, rfl, e.tup h1, e.tup h2, by rw [← l1.length, ← l2.length]; exact sz6 hl, fun z => ?_, fun _ z => ?_, fun _ _ => fin_tup e (l1.append l2) q⟩
        · subst z
          cases l1
          exact q _ G H (.refl e) (.tup h2 l2)
        · subst z
          cases l2
          rw [List.append_nil] at q
          exact q _ G H (.refl e) (.tup h1 l1)
theorem evn_cat (ha : EvS K ta es M ds) (hb : EvS K tb es M ds') (hl : ds.length + ds'.length ≤ 1000000) : EvN K (tOp (rAddX K) ta tb) es M (.lst (ds ++ ds')) :=
  evn_ss ha hb fun G H as a vs b ws e h1 l1 h2 l2 Q q => .inl (.inr ⟨a, b, vs, ws, rfl, rfl, h1, h2, by rw [← l1.length, ← l2.length]; exact sz6 hl, fin_new e (l1.append l2) q⟩)
theorem evn_rep {k : Int} (ha : EvS K ta es M ds) (hb : EvP K tb es M (.int k)) (h0 : -1000000 ≤ k) (h1 : k ≤ 1000000) (hl : ds.length * k.toNat ≤ 1000000) : EvN K (tOp rMulX ta tb) es M (.lst (List.replicate k.toNat ds).flatten) :=
  evn_sp ha hb fun G H as a vs u e h2 l2 a2 Q q => by
    cases a2
    exact .inr ⟨a, k, vs, rfl, rfl, h2, by omega, by omega, by rw [← l2.length]; exact sz6 hl, fin_new e (l2.rep _) q⟩
/-! ### items -/
theorem atI_of {α : Type} {xs : List α} {i : Int} {j : Nat} {v : α} (hj : ixN xs.length i = some j) (h : xs[j]? = some v) : atI xs i = some v := by
  unfold atI
  rw [hj]
  exact h
theorem evp_ixS {i : Int} {j : Nat} (ha : EvS K ta es M ds) (hb : EvP K tb es M (.int i)) (hj : ixN ds.length i = some j) (h : ds[j]? = some d) : EvP K (tOp (rIx K) ta tb) es M d :=
  evs_bin ha hb fun G H a vs u e h1 l1 a2 Q q => by
    cases a2
    obtain ⟨v, hv, av⟩ := l1.get h
    exact .inl ⟨a, vs, i, v, rfl, rfl, .inl (.inl h1), atI_of (by rw [← l1.length]; exact hj) hv, q v G H (.refl e) av⟩
theorem evp_ixT {i : Int} {j : Nat} (ha : EvP K ta es M (.tuple ds)) (hb : EvP K tb es M (.int i)) (hj : ixN ds.length i = some j) (h : ds[j]? = some d) : EvP K (tOp (rIx K) ta tb) es M d :=
  evp_bin ha hb fun G H v u e a1 a2 Q q => by
    cases a2
    cases a1 with
    | @tup a vs _ h1 l1 =>
      obtain ⟨v, hv, av⟩ := l1.get h
      exact .inr (.inl ⟨a, vs, i, v, rfl, rfl, e.tup h1, atI_of (by rw [← l1.length]; exact hj) hv, q v G H (.refl e) av⟩)
/-! ### slices -/
/-- the part of a list from lo to hi -/
def cutD {α : Type} (xs : List α) (lo hi : Option Int) : List α := (xs.drop (HT.sIx xs.length 0 lo)).take (HT.sIx xs.length xs.length hi - HT.sIx xs.length 0 lo)
theorem cutD_len {α : Type} (xs : List α) (lo hi : Option Int) : (cutD xs lo hi).length ≤ xs.length := by
  unfold cutD
  rw [List.length_take, List.length_drop]
  omega
theorem AtL.cut {G : Hp} {vs : List V} (h : AtL K G ds vs) (lo hi : Option Int) : AtL K G (cutD ds lo hi) (cutV vs lo hi) := by
  unfold cutD cutV
  rw [h.length]
  exact (h.drop _).take _
theorem evo_none : EvO K tNoPart es M none := fun G H as σ R S Q q => q G H (.refl R.ex)
theorem evo_some {i : Int} (h : EvP K te es M (.int i)) : EvO K (tPart te) es M (some i) := fun G H as σ R S Q q => h G H as σ R S _ fun v G1 H1 s1 a1 => by
  cases a1
  exact ⟨i, rfl, q G1 H1 s1⟩
theorem evn_slS {lo hi : Option Int} (ha : EvS K ta es M ds) (hl : EvO K tl es M lo) (hh : EvO K th es M hi) : EvN K (tSl (rSlX K) ta tl th) es M (.lst (cutD ds lo hi)) := fun G H as σ R S Q q =>
  ha G H as σ R S _ fun a vs G1 H1 s1 h1 l1 => hl G1 H1 as σ (R.stepP s1) (S.up0 s1.g) _ fun G2 H2 s2 => hh G2 H2 as σ ((R.stepP s1).stepP s2) ((S.up0 s1.g).up0 s2.g) _ fun G3 H3 s3 =>
    .inl ⟨a, vs, rfl, .inl (.inl (s3.h _ _ (s2.h _ _ h1))), fin_new s3.gh ((l1.up (s2.g.trans s3.g)).cut lo hi) fun c G' H' s hc gc mc => q c G' H' (((s1.trans s2).trans s3).trans s) (((s1.trans s2).trans s3).h.free hc) gc mc⟩
theorem cutD_all {α : Type} {xs : List α} {lo hi : Option Int} (h : HT.sIx xs.length 0 lo = 0 ∧ HT.sIx xs.length xs.length hi = xs.length) : cutD xs lo hi = xs := by
  unfold cutD
  rw [h.1, h.2, List.drop_zero, Nat.sub_zero, List.take_length]
theorem evp_slT {lo hi : Option Int} (ha : EvP K ta es M (.tuple ds)) (hl : EvO K tl es M lo) (hh : EvO K th es M hi) : EvP K (tSl (rSlX K) ta tl th) es M (.tuple (cutD ds lo hi)) := fun G H as σ R S Q q =>
  ha G H as σ R S _ fun v G1 H1 s1 a1 => hl G1 H1 as σ (R.stepP s1) (S.up0 s1.g) _ fun G2 H2 s2 => hh G2 H2 as σ ((R.stepP s1).stepP s2) ((S.up0 s1.g).up0 s2.g) _ fun G3 H3 s3 => by
    cases a1 with
    | @tup a vs _ h1 l1 =>
      have h1' := s3.gh.tup (s3.g.tupG (s2.g.tupG h1))
      have l1' := l1.up (s2.g.trans s3.g)
      refine .inr ⟨a, vs, rfl, h1', fun z => ?_, fun _ => fin_tup s3.gh (l1'.cut lo hi) fun w G' H' s b => q w G' H' (((s1.trans s2).trans s3).trans s) b⟩
      have e : cutD ds lo hi = ds := cutD_all (by rw [l1.length]; exact z)
      rw [e] at q
      exact q _ G3 H3 ((s1.trans s2).trans s3) (.tup (s3.g.tupG (s2.g.tupG h1)) l1')
/-! ### arguments, displays -/
theorem eva_nil : EvAP K tNil es M [] := fun G H as σ R S Q q => q [] G H (.refl R.ex) .nil
theorem eva_cons (h : EvP K te es M d) (hr : EvAP K tr es M ds) : EvAP K (tCons te tr) es M (d :: ds) := fun G H as σ R S Q q =>
  h G H as σ R S _ fun v G1 H1 s1 a1 => hr G1 H1 as σ (R.stepP s1) (S.up0 s1.g) _ fun vs G2 H2 s2 a2 => q _ G2 H2 (s1.trans s2) (.cons (a1.up s2.g) a2)
theorem eva_starT (h : EvP K te es M (.tuple ds')) (hr : EvAP K tr es M ds) : EvAP K (StX.tStar K te tr) es M (ds' ++ ds) := fun G H as σ R S Q q =>
  h G H as σ R S _ fun v G1 H1 s1 a1 => by
    cases a1 with
    | @tup a vs _ h1 l1 => exact ⟨a, vs, rfl, .inl (s1.gh.tup h1), hr G1 H1 as σ (R.stepP s1) (S.up0 s1.g) _ fun ws G2 H2 s2 a2 => q _ G2 H2 (s1.trans s2) ((l1.up s2.g).append a2)⟩
theorem evp_tup (h : EvAP K tr es M ds) (hl : ds.length ≤ 1000000) : EvP K (tTup tr) es M (.tuple ds) := fun G H as σ R S Q q =>
  h G H as σ R S _ fun vs G1 H1 s1 a1 => ⟨by rw [← a1.length]; exact sz6 hl, fin_tup s1.gh a1 fun w G' H' s b => q w G' H' (s1.trans s) b⟩
theorem evn_lst (h : EvAP K tr es M ds) (hl : ds.length ≤ 1000000) : EvN K (tLst tr) es M (.lst ds) := fun G H as σ R S Q q =>
  h G H as σ R S _ fun vs G1 H1 s1 a1 => ⟨by rw [← a1.length]; exact sz6 hl, fin_new s1.gh a1 fun c G' H' s hc gc mc => q c G' H' (s1.trans s) (s1.h.free hc) gc mc⟩
/-! ### truth, tests -/
theorem evp_andV {a b : Bool} (h1 : EvP K ta es M (.bool a)) (h2 : a = true → EvP K tb es M (.bool b)) : EvP K (tAndV ta tb) es M (.bool (a && b)) := fun G H as σ R S Q q =>
  h1 G H as σ R S _ fun v G1 H1 s1 a1 => by
    cases a1
    refine ⟨a, rfl, ?_⟩
    cases a with
    | true => exact iteT (h2 rfl G1 H1 as σ (R.stepP s1) (S.up0 s1.g) Q fun w G2 H2 s2 a2 => q w G2 H2 (s1.trans s2) a2)
    | false => exact iteF (q _ G1 H1 s1 (.bl _))
theorem evp_orV {a b : Bool} (h1 : EvP K ta es M (.bool a)) (h2 : a = false → EvP K tb es M (.bool b)) : EvP K (tOrV ta tb) es M (.bool (a || b)) := fun G H as σ R S Q q =>
  h1 G H as σ R S _ fun v G1 H1 s1 a1 => by
    cases a1
    refine ⟨a, rfl, ?_⟩
    cases a with
    | true => exact iteT (q _ G1 H1 s1 (.bl _))
    | false => exact iteF (h2 rfl G1 H1 as σ (R.stepP s1) (S.up0 s1.g) Q fun w G2 H2 s2 a2 => q w G2 H2 (s1.trans s2) a2)
theorem evp_notV {a : Bool} (h1 : EvP K ta es M (.bool a)) : EvP K (tNotV ta) es M (.bool (!a)) := fun G H as σ R S Q q =>
  h1 G H as σ R S _ fun v G1 H1 s1 a1 => by
    cases a1
    exact ⟨a, rfl, q _ G1 H1 s1 (.bl _)⟩
theorem evt_test {b : Bool} (h : EvP K te es M (.bool b)) : EvTP K (tTest te) es M b := fun G H as σ R S Q q => h G H as σ R S _ fun v G1 H1 s1 a1 => by
  cases a1
  exact ⟨b, rfl, q G1 H1 s1⟩
theorem evt_B {b : Bool} (h : EvP K te es M (.bool b)) : EvTP K (tB te) es M b := fun G H as σ R S Q q => h G H as σ R S _ fun v G1 H1 s1 a1 => by
  cases a1
  exact ⟨b, rfl, q G1 H1 s1⟩
theorem evt_and {a b : Bool} (h1 : EvTP K tt es M a) (h2 : a = true → EvTP K tu es M b) : EvTP K (tAnd tt tu) es M (a && b) := fun G H as σ R S Q q =>
  h1 G H as σ R S _ fun G1 H1 s1 => by
    cases a with
    | true => exact iteT (h2 rfl G1 H1 as σ (R.stepP s1) (S.up0 s1.g) Q fun G2 H2 s2 => q G2 H2 (s1.trans s2))
    | false => exact iteF (q G1 H1 s1)
theorem evt_or {a b : Bool} (h1 : EvTP K tt es M a) (h2 : a = false → EvTP K tu es M b) : EvTP K (tOr tt tu) es M (a || b) := fun G H as σ R S Q q =>
  h1 G H as σ R S _ fun G1 H1 s1 => by
    cases a with
    | true => exact iteT (q G1 H1 s1)
    | false => exact iteF (h2 rfl G1 H1 as σ (R.stepP s1) (S.up0 s1.g) Q fun G2 H2 s2 => q G2 H2 (s1.trans s2))
theorem evt_not {a : Bool} (h1 : EvTP K tt es M a) : EvTP K (tNot tt) es M (!a) := fun G H as σ R S Q q => h1 G H as σ R S _ q
theorem evt_yes : EvTP K tYes es M true := fun G H as σ R S Q q => q G H (.refl R.ex)
theorem evp_if {b : Bool} (h : EvTP K tt es M b) (h1 : b = true → EvP K ta es M d) (h2 : b = false → EvP K tb es M d) : EvP K (tIf tt ta tb) es M d := fun G H as σ R S Q q =>
  h G H as σ R S _ fun G1 H1 s1 => by
    cases b with
    | true => exact iteT (h1 rfl G1 H1 as σ (R.stepP s1) (S.up0 s1.g) Q fun w G2 H2 s2 a2 => q w G2 H2 (s1.trans s2) a2)
    | false => exact iteF (h2 rfl G1 H1 as σ (R.stepP s1) (S.up0 s1.g) Q fun w G2 H2 s2 a2 => q w G2 H2 (s1.trans s2) a2)
theorem evn_if {m : MO} {b : Bool} (h : EvTP K tt es M b) (h1 : b = true → EvN K ta es M m) (h2 : b = false → EvN K tb es M m) : EvN K (tIf tt ta tb) es M m := fun G H as σ R S Q q =>
  h G H as σ R S _ fun G1 H1 s1 => by
    cases b with
    | true => exact iteT (h1 rfl G1 H1 as σ (R.stepP s1) (S.up0 s1.g) Q fun c G2 H2 s2 hc gc mc => q c G2 H2 (s1.trans s2) (s1.h.free hc) gc mc)
    | false => exact iteF (h2 rfl G1 H1 as σ (R.stepP s1) (S.up0 s1.g) Q fun c G2 H2 s2 hc gc mc => q c G2 H2 (s1.trans s2) (s1.h.free hc) gc mc)
/-! ### ==, !=, in -/
theorem evp_eq (ha : EvP K ta es M x) (hb : EvP K tb es M y) (h1 : SeqAt.shaped x = true) (h2 : SeqAt.shaped y = true) : EvP K (tOp (rEqD K) ta tb) es M (.bool (PyData.eqv x y)) :=
  evp_bin ha hb fun G H v u e a1 a2 Q q => ⟨x, y, At.dp e x v a1, At.dp e y u a2, h1, h2, q _ G H (.refl e) (.bl _)⟩
theorem evp_ne (ha : EvP K ta es M x) (hb : EvP K tb es M y) (h1 : SeqAt.shaped x = true) (h2 : SeqAt.shaped y = true) : EvP K (tOp (rNeD K) ta tb) es M (.bool (!PyData.eqv x y)) :=
  evp_bin ha hb fun G H v u e a1 a2 Q q => ⟨x, y, At.dp e x v a1, At.dp e y u a2, h1, h2, q _ G H (.refl e) (.bl _)⟩
theorem inV_ints (i : Int) (ns : List Int) : inV (.int i) (ns.map V.int) = decide (i ∈ ns) := by
  unfold inV
  rw [List.any_map]
  induction ns with
  | nil => simp
  | cons n ns ih =>
    rw [List.any_cons, ih]
    show ((n == i) || decide (i ∈ ns)) = decide (i ∈ n :: ns)
    by_cases h : n = i
    · subst h
      simp
    · have h' : ¬ i = n := fun e => h e.symm
      simp [h, h']
theorem flat_ints (ns : List Int) : (ns.map V.int).all flatV = true := by
  rw [List.all_eq_true]
  intro v hv
  obtain ⟨n, _, rfl⟩ := List.mem_map.mp hv
  rfl
theorem evp_inT {i : Int} {ns : List Int} (ha : EvP K ta es M (.int i)) (hb : EvP K tb es M (.tuple (ns.map PyData.int))) : EvP K (tOp (rIn K false) ta tb) es M (.bool (decide (i ∈ ns))) :=
  evp_bin ha hb fun G H v u e a1 a2 Q q => by
    cases a1
    cases a2 with
    | @tup a vs _ h1 l1 =>
      have z := l1.ints
      subst z
      exact ⟨a, _, rfl, .inr (e.tup h1), rfl, flat_ints ns, by rw [inV_ints]; exact q _ G H (.refl e) (.bl _)⟩
theorem evp_niT {i : Int} {ns : List Int} (ha : EvP K ta es M (.int i)) (hb : EvP K tb es M (.tuple (ns.map PyData.int))) : EvP K (tOp (rIn K true) ta tb) es M (.bool (!decide (i ∈ ns))) :=
  evp_bin ha hb fun G H v u e a1 a2 Q q => by
    cases a1
    cases a2 with
    | @tup a vs _ h1 l1 =>
      have z := l1.ints
      subst z
      exact ⟨a, _, rfl, .inr (e.tup h1), rfl, flat_ints ns, by rw [inV_ints]; exact q _ G H (.refl e) (.bl _)⟩
theorem evp_niS {i : Int} {ns : List Int} (ha : EvP K ta es M (.int i)) (hb : EvS K tb es M (ns.map PyData.int)) : EvP K (tOp (rIn K true) ta tb) es M (.bool (!decide (i ∈ ns))) := fun G H as σ R S Q q =>
  ha G H as σ R S _ fun v G1 H1 s1 a1 => hb G1 H1 as σ (R.stepP s1) (S.up0 s1.g) _ fun a vs G2 H2 s2 h2 a2 => by
    cases a1
    have z := a2.ints
    subst z
    exact ⟨a, _, rfl, .inl (.inl (.inl h2)), rfl, flat_ints ns, by rw [inV_ints]; exact q _ G2 H2 (s1.trans s2) (.bl _)⟩
end
/-- is it None? -/
def isNon : PyData → Bool
  | .none => true
  | _ => false
section
variable {K : PySem.W.Frag} {te ta tb tc : TE} {tt tu : TT} {tr : TA} {es : List Sl} {M : List MO} {d x y z : PyData} {ds ds' : List PyData} {r : R2}
theorem evp_isN (ha : EvP K ta es M x) : EvP K (tOp (fun x y H Q => y = .non ∧ Q (.bl (decide (x = .non))) H) ta (tC .non)) es M (.bool (isNon x)) := fun G H as σ R S Q q =>
  ha G H as σ R S _ fun v G1 H1 s1 a1 => ⟨rfl, by
    cases a1 <;> exact q _ G1 H1 s1 (.bl _)⟩
theorem evp_notN (ha : EvP K ta es M x) : EvP K (tOp (fun x y H Q => y = .non ∧ Q (.bl (!decide (x = .non))) H) ta (tC .non)) es M (.bool (!isNon x)) := fun G H as σ R S Q q =>
  ha G H as σ R S _ fun v G1 H1 s1 a1 => ⟨rfl, by
    cases a1 <;> exact q _ G1 H1 s1 (.bl _)⟩
/-! ### built-ins -/
abbrev rLenX (K : PySem.W.Frag) : List V → Hp → VK → Prop := fun xs H Q => ∃ x n, xs = [x] ∧ LenV K x H n ∧ Q (.int n) H
theorem evp_lenS (h : EvS K te es M ds) : EvP K (tCB (rLenX K) (tCons te tNil)) es M (.int ds.length) := fun G H as σ R S Q q =>
  h G H as σ R S _ fun a vs G1 H1 s1 h1 l1 => ⟨_, vs.length, rfl, .inl ⟨vs, .inl (.inl h1), rfl⟩, by rw [← l1.length]; exact q _ G1 H1 s1 (.int _)⟩
theorem evp_lenT (h : EvP K te es M (.tuple ds)) : EvP K (tCB (rLenX K) (tCons te tNil)) es M (.int ds.length) := fun G H as σ R S Q q =>
  h G H as σ R S _ fun v G1 H1 s1 a1 => by
    cases a1 with
    | @tup a vs _ h1 l1 => exact ⟨_, vs.length, rfl, .inr ⟨vs, s1.gh.tup h1, rfl⟩, by rw [← l1.length]; exact q _ G1 H1 s1 (.int _)⟩
abbrev rIntX : List V → Hp → VK → Prop := fun xs H Q => (∃ i, xs = [.int i] ∧ Q (.int i) H) ∨ ∃ k, xs = [.bl k] ∧ Q (.int (if k then 1 else 0)) H
theorem evp_intI {i : Int} (h : EvP K te es M (.int i)) : EvP K (tCB rIntX (tCons te tNil)) es M (.int i) := fun G H as σ R S Q q =>
  h G H as σ R S _ fun v G1 H1 s1 a1 => by
    cases a1
    exact .inl ⟨i, rfl, q _ G1 H1 s1 (.int _)⟩
theorem evp_intB {b : Bool} (h : EvP K te es M (.bool b)) : EvP K (tCB rIntX (tCons te tNil)) es M (.int (if b then 1 else 0)) := fun G H as σ R S Q q =>
  h G H as σ R S _ fun v G1 H1 s1 a1 => by
    cases a1
    exact .inr ⟨b, rfl, q _ G1 H1 s1 (.int _)⟩
abbrev rAbsX : List V → Hp → VK → Prop := fun xs H Q => ∃ i, xs = [.int i] ∧ Q (.int (if i < 0 then -i else i)) H
theorem evp_abs {i : Int} (h : EvP K te es M (.int i)) : EvP K (tCB rAbsX (tCons te tNil)) es M (.int (if i < 0 then -i else i)) := fun G H as σ R S Q q =>
  h G H as σ R S _ fun v G1 H1 s1 a1 => by
    cases a1
    exact ⟨i, rfl, q _ G1 H1 s1 (.int _)⟩
abbrev rMaxX : List V → Hp → VK → Prop := fun xs H Q => ∃ i j, xs = [.int i, .int j] ∧ Q (.int (if j > i then j else i)) H
theorem evp_max {i j : Int} (h : EvAP K tr es M [.int i, .int j]) : EvP K (tCB rMaxX tr) es M (.int (if j > i then j else i)) := fun G H as σ R S Q q =>
  h G H as σ R S _ fun v G1 H1 s1 a1 => by
    cases a1 with
    | cons h1 h2 =>
      cases h2 with
      | cons h3 h4 =>
        cases h4
        cases h1
        cases h3
        exact ⟨i, j, rfl, q _ G1 H1 s1 (.int _)⟩
abbrev rListX (K : PySem.W.Frag) : List V → Hp → VK → Prop := fun xs H Q => ∃ p ys, xs = [.ref p] ∧ (SqL K H p ys ∨ SqT K H p ys) ∧ ∀ l, H l = none → Q (.ref l) (upd H l (.lst ys))
theorem evn_listS (h : EvS K te es M ds) : EvN K (tCB (rListX K) (tCons te tNil)) es M (.lst ds) := fun G H as σ R S Q q =>
  h G H as σ R S _ fun a vs G1 H1 s1 h1 l1 => ⟨a, vs, rfl, .inl (.inl (.inl h1)), fin_new s1.gh l1 fun c G' H' s hc gc mc => q c G' H' (s1.trans s) (s1.h.free hc) gc mc⟩
theorem evn_listT (h : EvP K te es M (.tuple ds)) : EvN K (tCB (rListX K) (tCons te tNil)) es M (.lst ds) := fun G H as σ R S Q q =>
  h G H as σ R S _ fun v G1 H1 s1 a1 => by
    cases a1 with
    | @tup a vs _ h1 l1 => exact ⟨a, vs, rfl, .inr (s1.gh.tup h1), fin_new s1.gh l1 fun c G' H' s hc gc mc => q c G' H' (s1.trans s) (s1.h.free hc) gc mc⟩
abbrev rTupX (K : PySem.W.Frag) : List V → Hp → VK → Prop := fun xs H Q => ∃ p ys, xs = [.ref p] ∧ ((SqL K H p ys ∧ ∀ l, H l = none → Q (.ref l) (upd H l (.tup ys))) ∨ (SqT K H p ys ∧ Q (.ref p) H))
theorem evp_tupS (h : EvS K te es M ds) : EvP K (tCB (rTupX K) (tCons te tNil)) es M (.tuple ds) := fun G H as σ R S Q q =>
  h G H as σ R S _ fun a vs G1 H1 s1 h1 l1 => ⟨a, vs, rfl, .inl ⟨.inl (.inl h1), fin_tup s1.gh l1 fun w G' H' s b => q w G' H' (s1.trans s) b⟩⟩
theorem evp_tupT (h : EvP K te es M (.tuple ds)) : EvP K (tCB (rTupX K) (tCons te tNil)) es M (.tuple ds) := fun G H as σ R S Q q =>
  h G H as σ R S _ fun v G1 H1 s1 a1 => by
    cases a1 with
    | @tup a vs _ h1 l1 => exact ⟨a, vs, rfl, .inr ⟨s1.gh.tup h1, q _ G1 H1 s1 (.tup h1 l1)⟩⟩
theorem evp_any {bs : List Bool} (h : EvS K te es M (bs.map PyData.bool)) : EvP K (tCB (rAny K) (tCons te tNil)) es M (.bool (bs.any id)) := fun G H as σ R S Q q =>
  h G H as σ R S _ fun a vs G1 H1 s1 h1 l1 => by
    have z := l1.bls
    subst z
    exact ⟨a, bs, rfl, .inl (.inl h1), q _ G1 H1 s1 (.bl _)⟩
theorem evp_all {bs : List Bool} (h : EvS K te es M (bs.map PyData.bool)) : EvP K (tCB (rAll K) (tCons te tNil)) es M (.bool (bs.all id)) := fun G H as σ R S Q q =>
  h G H as σ R S _ fun a vs G1 H1 s1 h1 l1 => by
    have z := l1.bls
    subst z
    exact ⟨a, bs, rfl, .inl (.inl h1), q _ G1 H1 s1 (.bl _)⟩
/-! ### calls of pure defs -/
/-- data in, data out; all that stood stands -/
def spP (K : PySem.W.Frag) (P : List PyData → PyData → Prop) : Sp := fun vs H Q _ => ∃ G ds d, Ex G H ∧ AtL K G ds vs ∧ P ds d ∧ ∀ v G' H', StepP G H G' H' → At K G' d v → Q v H'
theorem evp_call {P : List PyData → PyData → Prop} {E : XK} (h : EvAP K tr es M ds) (hp : P ds d) : EvP K (tCall (spP K P) [] E tr) es M d := fun G H as σ R S Q q =>
  h G H as σ R S _ fun vs G1 H1 s1 a1 => by
    show spP K P (vs ++ []) H1 Q E
    rw [List.append_nil]
    exact ⟨G1, ds, d, s1.gh, a1, hp, fun v G' H' s b => q v G' H' (s1.trans s) b⟩
end
end Q
end
section
set_option Elab.async false
set_option linter.all false
set_option maxRecDepth 100000
set_option maxHeartbeats 4000000
/-! Qc: what is walked, comprehensions, statements on descriptions. -/
namespace Q
open PySem L2
/-! ### targets -/
/-- a target takes d: the slots behind it; but the slots vs none changes -/
def GT (K : PySem.W.Frag) (g : TG) (d : PyData) (es es' : List Sl) (vs : List Nat) : Prop :=
  ∀ G H as σ v, Ex G H → SlotsAt K G as es σ → At K G d v → ∀ Q : L2.St → Hp → Prop, (∀ σ', SlotsAt K G as es' σ' → σ'.length = σ.length → (∀ k, k ∉ vs → σ'[k]? = σ[k]?) → Q σ' H) → g v σ H Q
def GTs (K : PySem.W.Frag) (g : TGs) (ds : List PyData) (es es' : List Sl) (vs : List Nat) : Prop :=
  ∀ G H as σ ws, Ex G H → SlotsAt K G as es σ → AtL K G ds ws → ∀ Q : L2.St → Hp → Prop, (∀ σ', SlotsAt K G as es' σ' → σ'.length = σ.length → (∀ k, k ∉ vs → σ'[k]? = σ[k]?) → Q σ' H) → g ws σ H Q
section
variable {K : PySem.W.Frag} {g : TG} {gs : TGs} {d : PyData} {ds : List PyData} {es es' es2 : List Sl} {vs : List Nat} {i : Nat}
theorem SlotsAt.set {G : Hp} {as : List Addr} {σ : L2.St} {s : Sl} {v : V} (S : SlotsAt K G as es σ) (i : Nat) (h : SlAt K G as s (some v)) : SlotsAt K G as (es.set i s) (σ.set i (some v)) :=
  ⟨by rw [List.length_set, List.length_set]; exact S.len, fun j e o h1 h2 => by
    by_cases hj : i = j
    · subst hj
      have l1 : i < es.length := by
        have := (List.getElem?_eq_some_iff.mp h1).1
        rwa [List.length_set] at this
      rw [List.getElem?_set_self l1] at h1
      rw [List.getElem?_set_self (by rw [← S.len]; exact l1)] at h2
      cases h1
      cases h2
      exact h
    · rw [List.getElem?_set_ne hj] at h1 h2
      exact S.at_ j e o h1 h2⟩
theorem gt_name (hi : i ∈ vs) : GT K (gName i) d es (es.set i (.d d)) vs := fun G H as σ v e S a Q q =>
  q _ (S.set i ⟨v, rfl, a⟩) (List.length_set ..) fun k hk => List.getElem?_set_ne fun z => hk (by rw [← z]; exact hi)
theorem gts_nil : GTs K gNil [] es es vs := fun G H as σ ws e S a Q q => by
  cases a
  exact ⟨rfl, q σ S rfl fun _ _ => rfl⟩
theorem gts_cons (h1 : GT K g d es es2 vs) (h2 : GTs K gs ds es2 es' vs) : GTs K (gCons g gs) (d :: ds) es es' vs := fun G H as σ ws e S a Q q => by
  cases a with
  | cons a1 a2 =>
    refine ⟨_, _, rfl, h1 G H as σ _ e S a1 _ fun σ1 S1 l1 k1 => ?_⟩
    exact h2 G H as σ1 _ e S1 a2 _ fun σ2 S2 l2 k2 => q σ2 S2 (l2.trans l1) fun k hk => (k2 k hk).trans (k1 k hk)
theorem gt_tup {n : Nat} (h : GTs K gs ds es es' vs) (hn : ds.length = n := by rfl) : GT K (gTup K n gs) (.tuple ds) es es' vs := fun G H as σ v e S a Q q => by
  cases a with
  | @tup b ws _ h1 l1 => exact ⟨b, ws, rfl, e.tup h1, by rw [← l1.length]; exact hn, h G H as σ ws e S l1 Q q⟩
end
/-! ### what is walked -/
structure WalkD (K : PySem.W.Frag) (J : It) (ds : List PyData) (G : Hp) : Prop where
  go : ∀ i H, Ex G H → i < ds.length → J.go i H
  stop : ∀ H, Ex G H → J.stop ds.length H
  yld : ∀ i G' H' x H'', Ex G G' → Ex G' H' → i < ds.length → J.yld i H' x H'' → ∃ d G'', ds[i]? = some d ∧ StepP G' H' G'' H'' ∧ At K G'' d x
def EvW (K : PySem.W.Frag) (wi : TI) (es : List Sl) (M : List MO) (ds : List PyData) : Prop :=
  ∀ G H as σ, Rep K G H as M → SlotsAt K G as es σ → ∀ R : It → Hp → Prop, (∀ J G' H', StepP G H G' H' → WalkD K J ds G' → R J H') → wi σ H R
/-- a list or a tuple -/
def iSeqX (K : PySem.W.Frag) (tl : TE) : TI := fun σ H R => tl σ H fun x H1 => ∃ a, x = .ref a ∧ (((∃ xs, SqL K H1 a xs) ∧ R (Itl K a) H1) ∨ ((∃ xs, SqT K H1 a xs) ∧ R (Itt K a) H1))
theorem pi_seqX {X : Cx} {tg l : Expr} {tl : TE} (hl : PE X l tl) : PI X tg l (iSeqX X.K tl) := by
  refine ⟨fun pins s σ H R I h => ?_⟩
  refine thn (hl.run pins s σ H _ I h) fun v s1 ⟨x, H1, I1, r1, q1⟩ => ?_
  obtain ⟨a, e, q⟩ := q1
  subst e
  cases r1
  rcases q with ⟨⟨xs, hq⟩, q⟩ | ⟨⟨xs, hq⟩, q⟩
  · obtain ⟨its, rv, p, hz⟩ := I1.list hq
    refine PySem.wpAny_pyIter_list p.isList ?_
    refine ⟨s1.heap.objs.size, [s1.heap.objs.size], _, _, H1, rfl, I1.kept (t' := s1.toks) fun b o e => Heap.get?_push_of_some _ e, turn_list a _, ⟨_, Heap.get?_push_size _ rfl, rfl, rfl⟩, fun b hb => ?_, q⟩
    have e : b = s1.heap.objs.size := by simpa using hb
    subst e
    exact I1.fpOk (Nat.le_refl _) (I1.hok.fresh (Nat.le_refl _))
  · obtain ⟨its, rv, p, hz⟩ := I1.tuple hq
    refine PySem.wpAny_pyIter_tuple (show s1.heap.IsTuple a its.toArray from p) ?_
    refine ⟨s1.heap.objs.size, [s1.heap.objs.size], _, _, H1, rfl, I1.kept (t' := s1.toks) fun b o e => Heap.get?_push_of_some _ e, turn_tuple a _, ⟨_, Heap.get?_push_size _ rfl, rfl, rfl⟩, fun b hb => ?_, q⟩
    have e : b = s1.heap.objs.size := by simpa using hb
    subst e
    exact I1.fpOk (Nat.le_refl _) (I1.hok.fresh (Nat.le_refl _))
section
variable {K : PySem.W.Frag} {te : TE} {ta : TA} {es : List Sl} {M : List MO} {ds ds' : List PyData}
theorem evw_L (h : EvP K te es M (.list ds)) : EvW K (iSeqX K te) es M ds := fun G H as σ R S Q q => h G H as σ R S _ fun v G1 H1 s1 a1 => by
  cases a1 with
  | @lst a vs _ h1 l1 =>
    have sq : ∀ H', Ex G1 H' → SqL K H' a vs := fun H' e => .inl (.inl (e _ _ h1))
    refine ⟨a, rfl, .inl ⟨⟨vs, sq H1 s1.gh⟩, q _ G1 H1 s1 ⟨fun i H' e hi => ?_, fun H' e => ?_, fun i G' H' x H'' e1 e2 hi y => ?_⟩⟩⟩
    · exact walk_list.goes i H' (by rw [← l1.length]; exact hi) (sq H' e)
    · rw [l1.length]
      exact walk_list.stops H' (sq H' e)
    · obtain ⟨e, z⟩ := walk_list.yields i H' x H'' (by rw [← l1.length]; exact hi) (sq H' (e1.trans e2)) y
      subst e
      obtain ⟨d, hd, ad⟩ := l1.getV z
      exact ⟨d, G', hd, .refl e2, ad.up e1⟩
theorem evw_T (h : EvP K te es M (.tuple ds)) : EvW K (iSeqX K te) es M ds := fun G H as σ R S Q q => h G H as σ R S _ fun v G1 H1 s1 a1 => by
  cases a1 with
  | @tup a vs _ h1 l1 =>
    have sq : ∀ H', Ex G1 H' → SqT K H' a vs := fun H' e => e.tup h1
    refine ⟨a, rfl, .inr ⟨⟨vs, sq H1 s1.gh⟩, q _ G1 H1 s1 ⟨fun i H' e hi => ?_, fun H' e => ?_, fun i G' H' x H'' e1 e2 hi y => ?_⟩⟩⟩
    · exact walk_tup.goes i H' (by rw [← l1.length]; exact hi) (sq H' e)
    · rw [l1.length]
      exact walk_tup.stops H' (sq H' e)
    · obtain ⟨e, z⟩ := walk_tup.yields i H' x H'' (by rw [← l1.length]; exact hi) (sq H' (e1.trans e2)) y
      subst e
      obtain ⟨d, hd, ad⟩ := l1.getV z
      exact ⟨d, G', hd, .refl e2, ad.up e1⟩
/-- n ints from lo by c -/
def rgD (lo c : Int) (n : Nat) : List Int := (List.range n).map fun (i : Nat) => lo + (i : Int) * c
theorem rgD_len (lo c : Int) (n : Nat) : (rgD lo c n).length = n := by simp [rgD]
theorem rgD_get {lo c : Int} {n i : Nat} (h : i < n) : (rgD lo c n)[i]? = some (lo + (i : Int) * c) := by simp [rgD, h]
theorem walkD_rg {G : Hp} {lo : Int} {n : Nat} : WalkD K (Itr lo n) ((rgD lo 1 n).map PyData.int) G :=
  ⟨fun i H e hi => by rw [List.length_map, rgD_len] at hi; exact hi, fun H e => by rw [List.length_map, rgD_len]; exact Nat.le_refl _, fun i G' H' x H'' e1 e2 hi y => by
    rw [List.length_map, rgD_len] at hi
    obtain ⟨e, z⟩ := y
    subst e z
    exact ⟨_, G', by rw [List.getElem?_map, rgD_get hi]; rfl, .refl e2, by rw [Int.mul_one]; exact .int _⟩⟩
theorem evw_r1 {j : Int} (h : EvAP K ta es M [.int j]) (h0 : -1000000 ≤ j) (h1 : j ≤ 1000000) : EvW K (iRng1 ta) es M ((rgD 0 1 j.toNat).map PyData.int) := fun G H as σ R S Q q => h G H as σ R S _ fun vs G1 H1 s1 a1 => by
  cases a1 with
  | cons x1 x2 =>
    cases x1
    cases x2
    exact ⟨j, rfl, by omega, by omega, q _ G1 H1 s1 walkD_rg⟩
theorem evw_r2 {i j : Int} (h : EvAP K ta es M [.int i, .int j]) (h0 : -1000000 ≤ i ∧ i ≤ 1000000) (h1 : -1000000 ≤ j ∧ j ≤ 1000000) : EvW K (iRng2 ta) es M ((rgD i 1 (j - i).toNat).map PyData.int) := fun G H as σ R S Q q => h G H as σ R S _ fun vs G1 H1 s1 a1 => by
  cases a1 with
  | cons x1 x2 =>
    cases x1
    cases x2 with
    | cons x3 x4 =>
      cases x3
      cases x4
      exact ⟨i, j, rfl, ⟨by omega, by omega, by omega, by omega⟩, q _ G1 H1 s1 walkD_rg⟩
theorem evw_r3 {i j c : Int} {n : Nat} (h : EvAP K ta es M [.int i, .int j, .int c]) (hc : RgC i j c n) : EvW K (iRng3 ta) es M ((rgD i c n).map PyData.int) := fun G H as σ R S Q q => h G H as σ R S _ fun vs G1 H1 s1 a1 => by
  cases a1 with
  | cons x1 x2 =>
    cases x1
    cases x2 with
    | cons x3 x4 =>
      cases x3
      cases x4 with
      | cons x5 x6 =>
        cases x5
        cases x6
        refine ⟨i, j, c, n, rfl, hc, q _ G1 H1 s1 ⟨fun k H e hi => by rw [List.length_map, rgD_len] at hi; exact hi, fun H e => by rw [List.length_map, rgD_len]; exact Nat.le_refl _, fun k G' H' x H'' e1 e2 hi y => ?_⟩⟩
        rw [List.length_map, rgD_len] at hi
        obtain ⟨e, z⟩ := y
        subst e z
        exact ⟨_, G', by rw [List.getElem?_map, rgD_get hi]; rfl, .refl e2, .int _⟩
/-- new pairs -/
theorem walkD_pair {J : It} {n : Nat} {G : Hp} {Gd : Hp → Prop} {f g : Nat → Option V} {ps : List PyData} (w : Walk J n Gd (YPair f g)) (hG : ∀ H, Ex G H → Gd H) (hn : ps.length = n)
    (hp : ∀ i x y, f i = some x → g i = some y → i < n → ∃ d1 d2, ps[i]? = some (.tuple [d1, d2]) ∧ At K G d1 x ∧ At K G d2 y) : WalkD K J ps G :=
  ⟨fun i H e hi => w.goes i H (by rw [← hn]; exact hi) (hG H e), fun H e => by rw [hn]; exact w.stops H (hG H e), fun i G' H' x H'' e1 e2 hi y => by
    rw [hn] at hi
    obtain ⟨T, x1, y1, rfl, hT, rfl, h1, h2⟩ := w.yields i H' x H'' hi (hG H' (e1.trans e2)) y
    obtain ⟨d1, d2, hd, a1, a2⟩ := hp i x1 y1 h1 h2 hi
    have gn : Ex G' (upd G' T (.tup [x1, y1])) := .new (e2.free hT)
    exact ⟨_, upd G' T (.tup [x1, y1]), hd, .new e2 hT, .tup (.inl upd_same) (.cons (a1.up (e1.trans gn)) (.cons (a2.up (e1.trans gn)) .nil))⟩⟩
def enumD (ds : List PyData) : List PyData := ds.mapIdx fun i d => .tuple [.int i, d]
theorem evw_enum (h : EvAP K ta es M [.list ds]) : EvW K (iEnum K ta) es M (enumD ds) := fun G H as σ R S Q q => h G H as σ R S _ fun vs G1 H1 s1 a1 => by
  cases a1 with
  | cons x1 x2 =>
    cases x2
    cases x1 with
    | @lst a vs _ h1 l1 =>
      refine ⟨a, vs, rfl, .inl (.inl (s1.gh _ _ h1)), q _ G1 H1 s1 (walkD_pair (walk_enum (xs := vs)) (fun H e => .inl (.inl (e _ _ h1))) (by rw [enumD, List.length_mapIdx, l1.length]) fun i x y e1 e2 hi => ?_)⟩
      obtain ⟨d, hd, ad⟩ := l1.getV e2
      have e1' : V.int (i : Nat) = x := Option.some.inj e1
      subst e1'
      exact ⟨.int i, d, by rw [enumD, List.getElem?_mapIdx, hd]; rfl, .int _, ad⟩
def zipD (ds ds' : List PyData) : List PyData := List.zipWith (fun a b => .tuple [a, b]) ds ds'
theorem evw_zipL (h : EvAP K ta es M [.list ds, .list ds']) : EvW K (RZ.iZipA K ta) es M (zipD ds ds') := fun G H as σ R S Q q => h G H as σ R S _ fun vs G1 H1 s1 a1 => by
  cases a1 with
  | cons x1 x2 =>
    cases x2 with
    | cons x3 x4 =>
      cases x4
      cases x1 with
      | @lst a vs _ h1 l1 =>
        cases x3 with
        | @lst b ws _ h2 l2 =>
          refine ⟨a, b, vs, ws, rfl, .inl ⟨.inl (.inl (s1.gh _ _ h1)), .inl (.inl (s1.gh _ _ h2)), q _ G1 H1 s1 (walkD_pair (walk_zip (xs := vs) (ys := ws) rfl) (fun H e => ⟨.inl (.inl (e _ _ h1)), .inl (.inl (e _ _ h2))⟩) (by rw [zipD, List.length_zipWith, l1.length, l2.length]) fun i x y e1 e2 hi => ?_)⟩⟩
          obtain ⟨d, hd, ad⟩ := l1.getV e1
          obtain ⟨d', hd', ad'⟩ := l2.getV e2
          exact ⟨d, d', by rw [zipD, List.getElem?_zipWith, hd, hd'], ad, ad'⟩
theorem walk_zipT {a b : Addr} {xs ys : List V} {n : Nat} (hn : n = min xs.length ys.length) : Walk (RZ.ItzT K a b) n (fun H => SqT K H a xs ∧ SqT K H b ys) (YPair (fun i => xs[i]?) (fun i => ys[i]?)) := by
  subst hn
  refine ⟨fun i _ hi q => ?_, fun _ q => ⟨xs, ys, q.1, q.2, by omega⟩, fun i H v H' _ q y => ?_⟩
  · have h1 : i < xs.length := by omega
    have h2 : i < ys.length := by omega
    exact ⟨xs, ys, xs[i], ys[i], q.1, q.2, by simp [h1], by simp [h2]⟩
  · obtain ⟨T, x, z, h1, h2, h3, h4, h5⟩ := y
    exact ⟨T, x, z, h1, h2, h3, h4 xs q.1, h5 ys q.2⟩
theorem evw_zipT (h : EvAP K ta es M [.tuple ds, .tuple ds']) : EvW K (RZ.iZipA K ta) es M (zipD ds ds') := fun G H as σ R S Q q => h G H as σ R S _ fun vs G1 H1 s1 a1 => by
  cases a1 with
  | cons x1 x2 =>
    cases x2 with
    | cons x3 x4 =>
      cases x4
      cases x1 with
      | @tup a vs _ h1 l1 =>
        cases x3 with
        | @tup b ws _ h2 l2 =>
          refine ⟨a, b, vs, ws, rfl, .inr ⟨s1.gh.tup h1, s1.gh.tup h2, q _ G1 H1 s1 (walkD_pair (walk_zipT (xs := vs) (ys := ws) rfl) (fun H e => ⟨e.tup h1, e.tup h2⟩) (by rw [zipD, List.length_zipWith, l1.length, l2.length]) fun i x y e1 e2 hi => ?_)⟩⟩
          obtain ⟨d, hd, ad⟩ := l1.getV e1
          obtain ⟨d', hd', ad'⟩ := l2.getV e2
          exact ⟨d, d', by rw [zipD, List.getElem?_zipWith, hd, hd'], ad, ad'⟩
end
/-! ### comprehensions -/
/-- the block's own names forgotten -/
def wipeE (es : List Sl) : List Nat → List Sl
  | [] => es
  | v :: vs => (wipeE es vs).set v .un
theorem SlotsAt.wipe {K : PySem.W.Frag} {G : Hp} {as : List Addr} {es : List Sl} {σ : L2.St} (S : SlotsAt K G as es σ) : ∀ vs : List Nat, SlotsAt K G as (wipeE es vs) (L2.wipe σ vs)
  | [] => S
  | v :: vs => by
    have T := SlotsAt.wipe S vs
    unfold wipeE L2.wipe
    refine ⟨by rw [List.length_set, List.length_set]; exact T.len, fun j e o h1 h2 => ?_⟩
    by_cases hj : v = j
    · subst hj
      have l1 : v < (wipeE es vs).length := by
        have := (List.getElem?_eq_some_iff.mp h1).1
        rwa [List.length_set] at this
      rw [List.getElem?_set_self l1] at h1
      cases h1
      trivial
    · rw [List.getElem?_set_ne hj] at h1 h2
      exact T.at_ j e o h1 h2
theorem wipe_in {σ : L2.St} {k : Nat} : ∀ {vs : List Nat}, k ∈ vs → k < σ.length → (L2.wipe σ vs)[k]? = some none
  | [], h, _ => nomatch h
  | v :: vs, h, hl => by
    unfold L2.wipe
    by_cases hv : v = k
    · subst hv
      rw [List.getElem?_set_self (by rw [wipe_length]; exact hl)]
    · rw [List.getElem?_set_ne hv]
      exact wipe_in ((List.mem_cons.mp h).resolve_left fun z => hv z.symm) hl
theorem wipe_eq {σ σ' : L2.St} {vs : List Nat} (hl : σ'.length = σ.length) (hk : ∀ k, k ∉ vs → σ'[k]? = (L2.wipe σ vs)[k]?) : L2.wipe σ' vs = L2.wipe σ vs := by
  apply List.ext_getElem?
  intro k
  by_cases h : k ∈ vs
  · by_cases hk' : k < σ.length
    · rw [wipe_in h (by rw [hl]; exact hk'), wipe_in h hk']
    · rw [List.getElem?_eq_none (by rw [wipe_length, hl]; omega), List.getElem?_eq_none (by rw [wipe_length]; omega)]
  · rw [wipe_out h, hk k h]
section
variable {K : PySem.W.Frag} {wi : TI} {g : TG} {tt : TT} {te : TE} {vs : List Nat} {es : List Sl} {M : List MO}
theorem evn_lc {α : Type} (xs : List α) (inj : α → PyData) (f : α → Bool) (h : α → PyData) (hw : EvW K wi es M (xs.map inj)) (hlen : xs.length ≤ 1000000)
    (ht : ∀ x ∈ xs, ∃ es2, GT K g (inj x) (wipeE es vs) es2 vs ∧ EvTP K tt es2 M (f x) ∧ (f x = true → EvP K te es2 M (h x))) : EvN K (tLc wi g tt te vs) es M (.lst ((xs.filter f).map h)) := fun G H as σ R S Q q => by
  refine hw G H as σ R S _ fun J G1 H1 s1 W D hD => ?_
  have gD : G1 D = none := s1.gh.free hD
  refine ⟨fun i m H' => m = xs.length - i ∧ i ≤ xs.length ∧ ∃ G' acc, StepP G1 H1 G' H' ∧ G' D = none ∧ H' D = some (.lst acc) ∧ AtL K G' (((xs.take i).filter f).map h) acc,
    ⟨xs.length, rfl, Nat.zero_le _, G1, [], ⟨.refl _, .new hD, s1.gh.mut gD, fun _ _ z => z⟩, gD, upd_same, .nil⟩, ?_⟩
  rintro i m H' ⟨rfl, hi, G', acc, s2, g2, h2, l2⟩
  by_cases hlt : i < xs.length
  · right
    refine ⟨W.go i H' (s2.g.trans s2.gh) (by rw [List.length_map]; exact hlt), fun H'' => ∃ G' acc, StepP G1 H1 G' H'' ∧ G' D = none ∧ H'' D = some (.lst acc) ∧ AtL K G' (((xs.take (i + 1)).filter f).map h) acc,
      fun H'' z => ⟨xs.length - (i + 1), by omega, rfl, hlt, z⟩, fun x H'' y => ?_⟩
    obtain ⟨d, G3, hd, s3, a3⟩ := W.yld i G' H' x H'' s2.g s2.gh (by rw [List.length_map]; exact hlt) y
    rw [List.getElem?_map, List.getElem?_eq_getElem hlt] at hd
    have hd' : inj xs[i] = d := Option.some.inj hd
    subst hd'
    have s23 := s2.trans s3
    have g3 : G3 D = none := s3.fr D (by rw [h2]; exact fun z => nomatch z) g2
    have h3 := s3.h _ _ h2
    obtain ⟨es2, hg, htt, hte⟩ := ht xs[i] (List.getElem_mem hlt)
    have R3 := R.stepP (s1.trans s23)
    have S3 := (S.up0 (s1.g.trans s23.g)).wipe vs
    refine hg G3 H'' as _ x s3.gh S3 a3 _ fun σ2 S2 l2' k2 => ⟨wipe_eq (by rw [l2', wipe_length]) k2, ?_⟩
    refine htt G3 H'' as σ2 R3 S2 _ fun G4 H4 s4 => ?_
    have g4 : G4 D = none := s4.fr D (by rw [h3]; exact fun z => nomatch z) g3
    have h4 := s4.h _ _ h3
    have s234 := s23.trans s4
    have etake : xs.take (i + 1) = xs.take i ++ [xs[i]] := by rw [List.take_add_one, List.getElem?_eq_getElem hlt]; rfl
    cases hf : f xs[i] with
    | false =>
      refine iteF ⟨G4, acc, s234, g4, h4, ?_⟩
      rw [etake, List.filter_append, List.map_append, List.filter_cons, if_neg (by rw [hf]; decide)]
      simpa using l2.up (s3.g.trans s4.g)
    | true =>
      refine iteT (hte hf G4 H4 as σ2 (R3.stepP s4) (S2.up0 s4.g) _ fun y G5 H5 s5 a5 => ?_)
      have g5 : G5 D = none := s5.fr D (by rw [h4]; exact fun z => nomatch z) g4
      have h5 := s5.h _ _ h4
      have s25 := s234.trans s5
      have l5 := l2.up (s3.g.trans (s4.g.trans s5.g))
      have hacc : acc.length ≤ xs.length := by
        rw [← l2.length, List.length_map]
        exact Nat.le_trans (List.length_filter_le _ _) (by rw [List.length_take]; omega)
      refine ⟨acc, h5, sz6' ?_, G5, acc ++ [y], ⟨s25.g, s25.h.mut hD, s25.gh.mut g5, fun b h1 h2 => s25.fr b h1 h2⟩, g5, upd_same, ?_⟩
      · have hb : acc.length ≤ i := by
          rw [← l2.length, List.length_map]
          exact Nat.le_trans (List.length_filter_le _ _) (by rw [List.length_take]; omega)
        omega
      · rw [etake, List.filter_append, List.map_append, List.filter_cons, if_pos hf]
        exact l5.snoc a5
  · left
    have e : i = xs.length := by omega
    subst e
    have z := W.stop H' (s2.g.trans s2.gh)
    rw [List.length_map] at z
    refine ⟨z, q D G' H' (s1.trans s2) (s1.h.free hD) g2 ⟨acc, h2, ?_⟩⟩
    rw [List.take_length] at l2
    exact l2
/-- without a test -/
theorem evn_lcy {α : Type} (xs : List α) (inj : α → PyData) (h : α → PyData) (hw : EvW K wi es M (xs.map inj)) (hlen : xs.length ≤ 1000000)
    (ht : ∀ x ∈ xs, ∃ es2, GT K g (inj x) (wipeE es vs) es2 vs ∧ EvP K te es2 M (h x)) : EvN K (tLc wi g tYes te vs) es M (.lst (xs.map h)) := by
  have z := evn_lc (K := K) (wi := wi) (g := g) (tt := tYes) (te := te) (vs := vs) (es := es) (M := M) xs inj (fun _ => true) h hw hlen fun x hx => by
    obtain ⟨es2, h1, h2⟩ := ht x hx
    exact ⟨es2, h1, evt_yes, fun _ => h2⟩
  rwa [List.filter_eq_self.mpr fun _ _ => rfl] at z
end
/-! ### expressions that change own objects -/
def Ev (K : PySem.W.Frag) (te : TE) (es : List Sl) (M : List MO) (Φ : Sl → List MO → Prop) : Prop :=
  ∀ G H as σ, Rep K G H as M → SlotsAt K G as es σ → ∀ Q : VK, (∀ s M' v G' H' as', Φ s M' → Step as G H as' G' H' → Rep K G' H' as' M' → SlAt K G' as' s (some v) → Q v H') → te σ H Q
def EvT (K : PySem.W.Frag) (tt : TT) (es : List Sl) (M : List MO) (Φ : Bool → List MO → Prop) : Prop :=
  ∀ G H as σ, Rep K G H as M → SlotsAt K G as es σ → ∀ Q : Bool → Hp → Prop, (∀ b M' G' H' as', Φ b M' → Step as G H as' G' H' → Rep K G' H' as' M' → Q b H') → tt σ H Q
def SlsAt (K : PySem.W.Frag) (G : Hp) (as : List Addr) : List Sl → List V → Prop := Paired fun s v => SlAt K G as s (some v)
def EvA (K : PySem.W.Frag) (ta : TA) (es : List Sl) (M : List MO) (Φ : List Sl → List MO → Prop) : Prop :=
  ∀ G H as σ, Rep K G H as M → SlotsAt K G as es σ → ∀ Q : List V → Hp → Prop, (∀ ss M' vs G' H' as', Φ ss M' → Step as G H as' G' H' → Rep K G' H' as' M' → SlsAt K G' as' ss vs → Q vs H') → ta σ H Q
section
variable {K : PySem.W.Frag} {te tb : TE} {tt tu : TT} {tr : TA} {es : List Sl} {M : List MO} {d : PyData} {Φ Ψ : Sl → List MO → Prop}
theorem ev_p (h : EvP K te es M d) (k : Φ (.d d) M) : Ev K te es M Φ := fun G H as σ R S Q q => h G H as σ R S Q fun v G' H' s a => q _ M v G' H' as k s.step (R.stepP s) ⟨v, rfl, a⟩
theorem ev_var {i : Nat} {s : Sl} (h : es[i]? = some s) (hs : s ≠ .un) (k : Φ s M) : Ev K (tVar i) es M Φ := fun G H as σ R S Q q => by
  obtain ⟨o, e, z⟩ := S.get h
  cases s with
  | un => exact absurd rfl hs
  | d d =>
    obtain ⟨v, rfl, hv⟩ := z
    exact ⟨v, e, q _ M v G H as k (.refl R.ex) R ⟨v, rfl, hv⟩⟩
  | l j =>
    obtain ⟨a, ha, rfl⟩ := z
    exact ⟨_, e, q _ M _ G H as k (.refl R.ex) R ⟨a, ha, rfl⟩⟩
  | p ns =>
    obtain ⟨a, ob, rfl, h2, h3⟩ := z
    exact ⟨_, e, q _ M _ G H as k (.refl R.ex) R ⟨a, ob, rfl, h2, h3⟩⟩
  | s ns =>
    obtain ⟨a, rfl, h2⟩ := z
    exact ⟨_, e, q _ M _ G H as k (.refl R.ex) R ⟨a, rfl, h2⟩⟩
theorem ev_mono (h : Ev K te es M Ψ) (k : ∀ s M', Ψ s M' → Φ s M') : Ev K te es M Φ := fun G H as σ R S Q q => h G H as σ R S Q fun s M' v G' H' as' hp => q s M' v G' H' as' (k s M' hp)
/-- a new own object becomes the last of M -/
theorem Rep.addNew {G H G' H' : Hp} {as : List Addr} {a : Addr} {m : MO} (R : Rep K G H as M) (s : StepP G H G' H') (ha : H a = none) (ga : G' a = none) (hm : MAt K G' H' as a m) :
    Rep K G' H' (as ++ [a]) (M ++ [m]) ∧ Step as G H (as ++ [a]) G' H' := by
  have R' := R.stepP s
  have na : a ∉ as := fun h => (R.mem h).2 ha
  refine ⟨⟨R'.ex, nd_snoc R.nd na, by rw [List.length_append, List.length_append, R.len]; rfl, fun j b m' h1 h2 => ?_⟩, ⟨s.g, fun b o _ h => s.h b o h, s.gh, s.fr, fun b h => ?_, [a], rfl, fun b hb => by rw [List.mem_singleton.mp hb]; exact ha⟩⟩
  · by_cases hj : j < as.length
    · rw [List.getElem?_append_left hj] at h1
      rw [List.getElem?_append_left (by rw [← R.len]; exact hj)] at h2
      obtain ⟨z, q⟩ := R'.at_ j b m' h1 h2
      exact ⟨z, q.up (Ex.refl G') fun u hu => hu⟩
    · have hj' : as.length ≤ j := Nat.le_of_not_lt hj
      rw [List.getElem?_append_right hj'] at h1
      rw [List.getElem?_append_right (by rw [← R.len]; exact hj'), ← R.len] at h2
      cases q : j - as.length with
      | zero =>
        rw [q] at h1 h2
        simp at h1 h2
        subst h1 h2
        exact ⟨ga, hm.up (Ex.refl G') fun u hu => hu⟩
      | succ n =>
        rw [q] at h1
        simp at h1
  · cases q : H b with
    | none => exact absurd q h
    | some o => rw [s.h b o q]; exact fun z => nomatch z
theorem ev_n {m : MO} (h : EvN K te es M m) (k : Φ (.l M.length) (M ++ [m])) : Ev K te es M Φ := fun G H as σ R S Q q => h G H as σ R S Q fun a G' H' s ha ga mc => by
  obtain ⟨R', s'⟩ := R.addNew s ha ga mc
  exact q _ _ _ G' H' _ k s' R' ⟨a, by rw [← R.len]; simp, rfl⟩
theorem evA_nil {Φ : List Sl → List MO → Prop} (k : Φ [] M) : EvA K tNil es M Φ := fun G H as σ R S Q q => q [] M [] G H as k (.refl R.ex) R .nil
theorem evA_cons {Φ : List Sl → List MO → Prop} (h : Ev K te es M Ψ) (hr : ∀ s M', Ψ s M' → EvA K tr es M' fun ss M'' => Φ (s :: ss) M'') : EvA K (tCons te tr) es M Φ := fun G H as σ R S Q q =>
  h G H as σ R S _ fun s M1 v G1 H1 as1 p1 s1 R1 a1 => hr s M1 p1 G1 H1 as1 σ R1 (S.step s1) _ fun ss M2 vs G2 H2 as2 p2 s2 R2 a2 => by
    obtain ⟨new, e, _⟩ := s2.more
    subst e
    exact q (s :: ss) M2 (v :: vs) G2 H2 _ p2 (s1.trans s2) R2 (.cons (a1.up s2.g) a2)
theorem SlsAt.data {G : Hp} {as : List Addr} : ∀ {ds : List PyData} {vs : List V}, SlsAt K G as (ds.map Sl.d) vs → AtL K G ds vs
  | [], _, h => by cases h; exact .nil
  | d :: ds, _, h => by
    cases h with
    | cons h1 h2 =>
      obtain ⟨v, e, a⟩ := h1
      cases e
      exact .cons a (SlsAt.data h2)
theorem SlsAt.ofData {G : Hp} {as : List Addr} : ∀ {ds : List PyData} {vs : List V}, AtL K G ds vs → SlsAt K G as (ds.map Sl.d) vs
  | [], _, h => by cases h; exact .nil
  | d :: ds, _, h => by
    cases h with
    | cons h1 h2 => exact .cons ⟨_, rfl, h1⟩ (SlsAt.ofData h2)
theorem evt_p {b : Bool} {Φ : Bool → List MO → Prop} (h : EvTP K tt es M b) (k : Φ b M) : EvT K tt es M Φ := fun G H as σ R S Q q => h G H as σ R S Q fun G' H' s => q b M G' H' as k s.step (R.stepP s)
/-- a new tuple of what was made on the way (data) -/
theorem ev_tup {Φ : Sl → List MO → Prop} (h : EvA K tr es M fun ss M' => ∃ ds, ss = ds.map Sl.d ∧ ds.length ≤ 1000000 ∧ Φ (.d (.tuple ds)) M') : Ev K (tTup tr) es M Φ := fun G H as σ R S Q q =>
  h G H as σ R S _ fun ss M1 vs G1 H1 as1 ⟨ds, e, hl, p⟩ s1 R1 a1 => by
    subst e
    have a1 := a1.data
    refine ⟨by rw [← a1.length]; exact sz6 hl, fin_tup s1.gh a1 fun w G' H' s b => q _ M1 w G' H' as1 p (s1.trans s.step) (R1.stepP s) ⟨w, rfl, b⟩⟩
/-! ### calls that change own objects -/
def spM (K : PySem.W.Frag) (Pre : List Sl → List MO → Prop) (Post : List Sl → List MO → Sl → List MO → Prop) : Sp := fun vs H Q _ => ∃ G as ss M, Rep K G H as M ∧ SlsAt K G as ss vs ∧ Pre ss M ∧
  ∀ s M' v G' H' as', Post ss M s M' → Step as G H as' G' H' → Rep K G' H' as' M' → SlAt K G' as' s (some v) → Q v H'
/-- all own objects handed over -/
theorem ev_callAll {Pre : List Sl → List MO → Prop} {Post : List Sl → List MO → Sl → List MO → Prop} {E : XK} {Φ : Sl → List MO → Prop}
    (h : EvA K tr es M fun ss M' => Pre ss M' ∧ ∀ s M'', Post ss M' s M'' → Φ s M'') : Ev K (tCall (spM K Pre Post) [] E tr) es M Φ := fun G H as σ R S Q q =>
  h G H as σ R S _ fun ss M1 vs G1 H1 as1 ⟨p, k⟩ s1 R1 a1 => by
    show spM K Pre Post (vs ++ []) H1 Q E
    rw [List.append_nil]
    exact ⟨G1, as1, ss, M1, R1, a1, p, fun s M' v G' H' as' hp s2 R2 a2 => q s M' v G' H' as' (k s M' hp) (s1.trans s2) R2 a2⟩
end
end Q
end
section
set_option Elab.async false
set_option linter.all false
set_option maxRecDepth 100000
set_option maxHeartbeats 4000000
/-! Qd: statements on descriptions. -/
namespace Q
open PySem L2
inductive Out where
  | nx (es : List Sl) (M : List MO) | rt (s : Sl) (M : List MO) | bk (es : List Sl) (M : List MO) | ct (es : List Sl) (M : List MO)
def Fin (K : PySem.W.Frag) (D : Ends) (G H : Hp) (as : List Addr) : Out → Prop
  | .nx es M => ∀ σ, Rep K G H as M → SlotsAt K G as es σ → D.nx σ H
  | .bk es M => ∀ σ, Rep K G H as M → SlotsAt K G as es σ → D.bk σ H
  | .ct es M => ∀ σ, Rep K G H as M → SlotsAt K G as es σ → D.ct σ H
  | .rt s M => ∀ v, Rep K G H as M → SlAt K G as s (some v) → D.rt v H
/-- n0: so many own objects were handed in -/
def Sx (K : PySem.W.Frag) (n0 : Nat) (ts : TS) (es : List Sl) (M : List MO) (Φ : Out → Prop) : Prop :=
  ∀ as0 G0 H0, as0.length = n0 → ∀ G H as σ, Step as0 G0 H0 as G H → Rep K G H as M → SlotsAt K G as es σ → ∀ D : Ends, (∀ o G' H' as', Φ o → Step as0 G0 H0 as' G' H' → Ex G G' → Fin K D G' H' as' o) → ts D σ H
section
variable {K : PySem.W.Frag} {n0 : Nat} {te ta tb ti : TE} {tt : TT} {tr : TA} {t u tz tw : TS} {g : TG} {es es' es2 : List Sl} {M M' : List MO} {d : PyData} {ds : List PyData} {Φ Ψ : Out → Prop} {b : Bool} {i : Nat}
theorem sx_mono (h : Sx K n0 t es M Ψ) (k : ∀ o, Ψ o → Φ o) : Sx K n0 t es M Φ := fun as0 G0 H0 e G H as σ s R S D q => h as0 G0 H0 e G H as σ s R S D fun o G' H' as' p => q o G' H' as' (k o p)
/-- one after another, by a word between them -/
theorem sx_seq (h : Sx K n0 t es M Ψ) (k : ∀ o, Ψ o → match o with | .nx a b => Sx K n0 u a b Φ | o => Φ o) : Sx K n0 (tSeq t u) es M Φ := fun as0 G0 H0 e G H as σ s R S D q =>
  h as0 G0 H0 e G H as σ s R S { D with nx := u D } fun o G' H' as' p s' g' => by
    have z := k o p
    cases o with
    | nx a b => exact fun σ' R' S' => z as0 G0 H0 e G' H' as' σ' s' R' S' D fun o' G2 H2 as2 p2 s2 g2 => q o' G2 H2 as2 p2 s2 (g'.trans g2)
    | rt a b => exact q _ G' H' as' z s' g'
    | bk a b => exact q _ G' H' as' z s' g'
    | ct a b => exact q _ G' H' as' z s' g'
theorem sx_assoc {c : TS} (h : Sx K n0 (tSeq t (tSeq u c)) es M Φ) : Sx K n0 (tSeq (tSeq t u) c) es M Φ := h
theorem s_next (k : Φ (.nx es M)) : Sx K n0 tNext es M Φ := fun as0 G0 H0 e G H as σ s R S D q => q _ G H as k s (.refl G) σ R S
theorem q_next (h : Sx K n0 tz es M Φ) : Sx K n0 (tSeq tNext tz) es M Φ := h
theorem s_cont (k : Φ (.ct es M)) : Sx K n0 tCont es M Φ := fun as0 G0 H0 e G H as σ s R S D q => q _ G H as k s (.refl G) σ R S
theorem q_cont (k : Φ (.ct es M)) : Sx K n0 (tSeq tCont tz) es M Φ := fun as0 G0 H0 e G H as σ s R S D q => q _ G H as k s (.refl G) σ R S
/-! stores -/
theorem s_asgX {Ξ : Sl → List MO → Prop} (h : Ev K te es M Ξ) (k : ∀ s M', Ξ s M' → Φ (.nx (es.set i s) M')) : Sx K n0 (tAsg te (gName i)) es M Φ := fun as0 G0 H0 e G H as σ s R S D q =>
  h G H as σ R S _ fun s' M' v G' H' as' p st R' a => q _ G' H' as' (k s' M' p) (s.trans st) st.g _ R' ((S.step st).set i a)
theorem q_asgX {Ξ : Sl → List MO → Prop} (h : Ev K te es M Ξ) (k : ∀ s M', Ξ s M' → Sx K n0 tz (es.set i s) M' Φ) : Sx K n0 (tSeq (tAsg te (gName i)) tz) es M Φ :=
  sx_seq (Ψ := fun o => ∃ s M', o = .nx (es.set i s) M' ∧ Ξ s M') (s_asgX h fun s M' p => ⟨s, M', rfl, p⟩) fun o ⟨s, M', e, p⟩ => by subst e; exact k s M' p
theorem s_asg (h : EvP K te es M d) (k : Φ (.nx (es.set i (.d d)) M)) : Sx K n0 (tAsg te (gName i)) es M Φ := s_asgX (ev_p (Φ := fun s M' => s = .d d ∧ M' = M) h ⟨rfl, rfl⟩) fun s M' ⟨e1, e2⟩ => by subst e1 e2; exact k
theorem q_asg (h : EvP K te es M d) (k : Sx K n0 tz (es.set i (.d d)) M Φ) : Sx K n0 (tSeq (tAsg te (gName i)) tz) es M Φ := q_asgX (ev_p (Φ := fun s M' => s = .d d ∧ M' = M) h ⟨rfl, rfl⟩) fun s M' ⟨e1, e2⟩ => by subst e1 e2; exact k
theorem s_asgN {m : MO} (h : EvN K te es M m) (k : Φ (.nx (es.set i (.l M.length)) (M ++ [m]))) : Sx K n0 (tAsg te (gName i)) es M Φ := s_asgX (ev_n (Φ := fun s M' => s = .l M.length ∧ M' = M ++ [m]) h ⟨rfl, rfl⟩) fun s M' ⟨e1, e2⟩ => by subst e1 e2; exact k
theorem q_asgN {m : MO} (h : EvN K te es M m) (k : Sx K n0 tz (es.set i (.l M.length)) (M ++ [m]) Φ) : Sx K n0 (tSeq (tAsg te (gName i)) tz) es M Φ := q_asgX (ev_n (Φ := fun s M' => s = .l M.length ∧ M' = M ++ [m]) h ⟨rfl, rfl⟩) fun s M' ⟨e1, e2⟩ => by subst e1 e2; exact k
/-- a target that takes a tuple apart -/
theorem s_asgT {vs : List Nat} (h : EvP K te es M d) (hg : GT K g d es es' vs) (k : Φ (.nx es' M)) : Sx K n0 (tAsg te g) es M Φ := fun as0 G0 H0 e G H as σ s R S D q =>
  h G H as σ R S _ fun v G' H' st a => hg G' H' as σ v st.gh (S.up0 st.g) a _ fun σ' S' _ _ => q _ G' H' as k (s.trans st.step) st.g σ' (R.stepP st) S'
theorem q_asgT {vs : List Nat} (h : EvP K te es M d) (hg : GT K g d es es' vs) (k : Sx K n0 tz es' M Φ) : Sx K n0 (tSeq (tAsg te g) tz) es M Φ :=
  sx_seq (Ψ := fun o => o = .nx es' M) (s_asgT h hg rfl) fun o e => by subst e; exact k
theorem q_asgTX {Ξ : PyData → List MO → Prop} (h : Ev K te es M fun s M' => ∃ d, s = .d d ∧ Ξ d M') (hg : ∀ d M', Ξ d M' → ∃ es' vs, GT K g d es es' vs ∧ Sx K n0 tz es' M' Φ) : Sx K n0 (tSeq (tAsg te g) tz) es M Φ := fun as0 G0 H0 e G H as σ s R S D q =>
  h G H as σ R S _ fun s' M' v G' H' as' ⟨d, e', p⟩ st R' a => by
    subst e'
    obtain ⟨w, ew, aw⟩ := a
    cases ew
    obtain ⟨es', vs, hg', k⟩ := hg d M' p
    exact hg' G' H' as' σ v st.gh (S.step st) aw _ fun σ' S' _ _ => k as0 G0 H0 e G' H' as' σ' (s.trans st) R' S' D fun o G2 H2 as2 p2 s2 g2 => q o G2 H2 as2 p2 s2 (st.g.trans g2)
/-- a, b = x, y by names -/
theorem s_par {j : Nat} {d2 : PyData} (hij : i ≠ j) (h : EvAP K tr es M [d, d2]) (k : Φ (.nx ((es.set i (.d d)).set j (.d d2)) M)) : Sx K n0 (tPar i j tr) es M Φ := fun as0 G0 H0 e G H as σ s R S D q =>
  h G H as σ R S _ fun vs G' H' st a => by
    cases a with
    | cons a1 a2 =>
      cases a2 with
      | cons a2 a3 =>
        cases a3
        exact ⟨_, _, rfl, q _ G' H' as k (s.trans st.step) st.g _ (R.stepP st) (((S.up0 st.g).set i (s := .d d) ⟨_, rfl, a1⟩).set j (s := .d d2) ⟨_, rfl, a2⟩)⟩
theorem q_par {j : Nat} {d2 : PyData} (hij : i ≠ j) (h : EvAP K tr es M [d, d2]) (k : Sx K n0 tz ((es.set i (.d d)).set j (.d d2)) M Φ) : Sx K n0 (tSeq (tPar i j tr) tz) es M Φ :=
  sx_seq (Ψ := fun o => o = .nx ((es.set i (.d d)).set j (.d d2)) M) (s_par hij h rfl) fun o e => by subst e; exact k
/-- the same, some of the values new own objects -/
theorem q_parX {j : Nat} {Ξ : Sl → Sl → List MO → Prop} (hij : i ≠ j) (h : EvA K tr es M fun ss M' => ∃ s1 s2, ss = [s1, s2] ∧ Ξ s1 s2 M') (k : ∀ s1 s2 M', Ξ s1 s2 M' → Sx K n0 tz ((es.set i s1).set j s2) M' Φ) : Sx K n0 (tSeq (tPar i j tr) tz) es M Φ := fun as0 G0 H0 e G H as σ s R S D q =>
  h G H as σ R S _ fun ss M' vs G' H' as' ⟨s1, s2, e', p⟩ st R' a => by
    subst e'
    cases a with
    | cons a1 a2 =>
      cases a2 with
      | cons a2 a3 =>
        cases a3
        exact ⟨_, _, rfl, k s1 s2 M' p as0 G0 H0 e G' H' as' _ (s.trans st) R' (((S.step st).set i a1).set j a2) D fun o G2 H2 as2 p2 s2' g2 => q o G2 H2 as2 p2 s2' (st.g.trans g2)⟩
theorem q_par3X {j l : Nat} {Ξ : Sl → Sl → Sl → List MO → Prop} (h : EvA K tr es M fun ss M' => ∃ s1 s2 s3, ss = [s1, s2, s3] ∧ Ξ s1 s2 s3 M') (k : ∀ s1 s2 s3 M', Ξ s1 s2 s3 M' → Sx K n0 tz (((es.set i s1).set j s2).set l s3) M' Φ) : Sx K n0 (tSeq (tPar3 i j l tr) tz) es M Φ := fun as0 G0 H0 e G H as σ s R S D q =>
  h G H as σ R S _ fun ss M' vs G' H' as' ⟨s1, s2, s3, e', p⟩ st R' a => by
    subst e'
    cases a with
    | cons a1 a2 =>
      cases a2 with
      | cons a2 a3 =>
        cases a3 with
        | cons a3 a4 =>
          cases a4
          exact ⟨_, _, _, rfl, k s1 s2 s3 M' p as0 G0 H0 e G' H' as' _ (s.trans st) R' ((((S.step st).set i a1).set j a2).set l a3) D fun o G2 H2 as2 p2 s2' g2 => q o G2 H2 as2 p2 s2' (st.g.trans g2)⟩
/-- xs[k] = e, xs an own list -/
theorem s_sub {k j : Nat} {z : Int} (h : EvP K te es M d) (hx : es[i]? = some (.l k)) (hm : M[k]? = some (.lst ds)) (hi : EvP K ti es M (.int z)) (hj : ixN ds.length z = some j) (p : Φ (.nx es (M.set k (.lst (ds.set j d))))) :
    Sx K n0 (tAsg te (gSub (tVar i) ti rSetL)) es M Φ := fun as0 G0 H0 e G H as σ s R S D q =>
  h G H as σ R S _ fun v G1 H1 s1 a1 => by
    have S1 := S.up0 s1.g
    have R1 := R.stepP s1
    obtain ⟨o, eo, a, ha, rfl⟩ := S1.get hx
    refine ⟨_, eo, hi G1 H1 as σ R1 S1 _ fun w G2 H2 s2 a2 => ?_⟩
    have R2 := R1.stepP s2
    cases a2
    obtain ⟨ga, vs, h1, l1⟩ := R2.at_ k a _ ha hm
    obtain ⟨R3, s3⟩ := R2.put (o := .lst (vs.set j v)) (m := .lst (ds.set j d)) ha ⟨_, upd_same, l1.set j (a1.up s2.g)⟩
    exact ⟨a, vs, z, j, rfl, rfl, h1, by rw [← l1.length]; exact hj, q _ G2 _ as p ((s.trans (s1.trans s2).step).trans s3) (s1.g.trans s2.g) σ R3 (S1.up0 s2.g)⟩
theorem q_sub {k j : Nat} {z : Int} (h : EvP K te es M d) (hx : es[i]? = some (.l k)) (hm : M[k]? = some (.lst ds)) (hi : EvP K ti es M (.int z)) (hj : ixN ds.length z = some j) (p : Sx K n0 tz es (M.set k (.lst (ds.set j d))) Φ) :
    Sx K n0 (tSeq (tAsg te (gSub (tVar i) ti rSetL)) tz) es M Φ :=
  sx_seq (Ψ := fun o => o = .nx es (M.set k (.lst (ds.set j d)))) (s_sub h hx hm hi hj rfl) fun o e => by subst e; exact p
/-- xs.append(e), xs an own list -/
theorem s_app {k : Nat} (h : EvP K te es M d) (hx : es[i]? = some (.l k)) (hm : M[k]? = some (.lst ds)) (hl : ds.length < 1000000) (p : Φ (.nx es (M.set k (.lst (ds ++ [d]))))) :
    Sx K n0 (tDrop (tBM K "list" rAppend (tVar i) (tCons te tNil))) es M Φ := fun as0 G0 H0 e G H as σ s R S D q => by
  obtain ⟨o, eo, a, ha, rfl⟩ := S.get hx
  obtain ⟨ga0, vs0, h0, l0⟩ := R.at_ k a _ ha hm
  refine ⟨_, eo, .inl ⟨rfl, _, .inl (.inl h0)⟩, h G H as σ R S _ fun v G1 H1 s1 a1 => ?_⟩
  have R1 := R.stepP s1
  obtain ⟨ga, vs, h1, l1⟩ := R1.at_ k a _ ha hm
  obtain ⟨R3, s3⟩ := R1.put (o := .lst (vs ++ [v])) (m := .lst (ds ++ [d])) ha ⟨_, upd_same, l1.snoc a1⟩
  exact ⟨a, vs, v, rfl, rfl, h1, by rw [← l1.length]; exact sz6' hl, q _ G1 _ as p ((s.trans s1.step).trans s3) s1.g σ R3 (S.up0 s1.g)⟩
theorem q_app {k : Nat} (h : EvP K te es M d) (hx : es[i]? = some (.l k)) (hm : M[k]? = some (.lst ds)) (hl : ds.length < 1000000) (p : Sx K n0 tz es (M.set k (.lst (ds ++ [d]))) Φ) :
    Sx K n0 (tSeq (tDrop (tBM K "list" rAppend (tVar i) (tCons te tNil))) tz) es M Φ :=
  sx_seq (Ψ := fun o => o = .nx es (M.set k (.lst (ds ++ [d])))) (s_app h hx hm hl rfl) fun o e => by subst e; exact p
/-- .. what is appended changes own objects on the way -/
theorem s_appX {k : Nat} {Ξ : PyData → List MO → Prop} (h : Ev K te es M fun s M' => ∃ d, s = .d d ∧ Ξ d M') (hx : es[i]? = some (.l k)) (hm0 : ∃ ds, M[k]? = some (.lst ds)) (hm : ∀ d M', Ξ d M' → ∃ ds, M'[k]? = some (.lst ds) ∧ ds.length < 1000000 ∧ Φ (.nx es (M'.set k (.lst (ds ++ [d]))))) :
    Sx K n0 (tDrop (tBM K "list" rAppend (tVar i) (tCons te tNil))) es M Φ := fun as0 G0 H0 e G H as σ s R S D q => by
  obtain ⟨o, eo, a, ha, rfl⟩ := S.get hx
  obtain ⟨ds0, hm0⟩ := hm0
  obtain ⟨ga0, vs0, h0, l0⟩ := R.at_ k a _ ha hm0
  refine ⟨_, eo, .inl ⟨rfl, _, .inl (.inl h0)⟩, h G H as σ R S _ fun s' M' v G1 H1 as1 ⟨d, e', p⟩ s1 R1 a1 => ?_⟩
  subst e'
  obtain ⟨w, ew, aw⟩ := a1
  cases ew
  obtain ⟨ds, hm, hl, p⟩ := hm d M' p
  obtain ⟨new, en, _⟩ := s1.more
  have ha1 : as1[k]? = some a := by
    rw [en, List.getElem?_append_left (List.getElem?_eq_some_iff.mp ha).1]
    exact ha
  obtain ⟨ga, vs, h1, l1⟩ := R1.at_ k a _ ha1 hm
  obtain ⟨R3, s3⟩ := R1.put (o := .lst (vs ++ [v])) (m := .lst (ds ++ [d])) ha1 ⟨_, upd_same, l1.snoc aw⟩
  exact ⟨a, vs, v, rfl, rfl, h1, by rw [← l1.length]; exact sz6' hl, q _ G1 _ as1 p ((s.trans s1).trans s3) s1.g σ R3 (S.step s1)⟩
/-- xs.extend(e) -/
theorem s_ext {k : Nat} {ds' : List PyData} (h : EvS K te es M ds') (hx : es[i]? = some (.l k)) (hm : M[k]? = some (.lst ds)) (hl : ds.length + ds'.length ≤ 1000000) (p : Φ (.nx es (M.set k (.lst (ds ++ ds'))))) :
    Sx K n0 (tDrop (tBM K "list" rExtend (tVar i) (tCons te tNil))) es M Φ := fun as0 G0 H0 e G H as σ s R S D q => by
  obtain ⟨o, eo, a, ha, rfl⟩ := S.get hx
  obtain ⟨ga0, vs0, h0, l0⟩ := R.at_ k a _ ha hm
  refine ⟨_, eo, .inl ⟨rfl, _, .inl (.inl h0)⟩, h G H as σ R S _ fun b ws G1 H1 s1 hb lb => ?_⟩
  have R1 := R.stepP s1
  obtain ⟨ga, vs, h1, l1⟩ := R1.at_ k a _ ha hm
  obtain ⟨R3, s3⟩ := R1.put (o := .lst (vs ++ ws)) (m := .lst (ds ++ ds')) ha ⟨_, upd_same, l1.append lb⟩
  exact ⟨a, b, vs, ws, rfl, rfl, h1, hb, by rw [← l1.length, ← lb.length]; exact sz6 hl, q _ G1 _ as p ((s.trans s1.step).trans s3) s1.g σ R3 (S.up0 s1.g)⟩
/-! if, return -/
theorem s_if (h : EvTP K tt es M b) (h1 : b = true → Sx K n0 t es M Φ) (h2 : b = false → Sx K n0 u es M Φ) : Sx K n0 (tIfS tt t u) es M Φ := fun as0 G0 H0 e G H as σ s R S D q =>
  h G H as σ R S _ fun G' H' st => by
    cases b with
    | true => exact iteT (h1 rfl as0 G0 H0 e G' H' as σ (s.trans st.step) (R.stepP st) (S.up0 st.g) D fun o G2 H2 as2 p2 s2 g2 => q o G2 H2 as2 p2 s2 (st.g.trans g2))
    | false => exact iteF (h2 rfl as0 G0 H0 e G' H' as σ (s.trans st.step) (R.stepP st) (S.up0 st.g) D fun o G2 H2 as2 p2 s2 g2 => q o G2 H2 as2 p2 s2 (st.g.trans g2))
theorem q_if (h : EvTP K tt es M b) (h1 : b = true → Sx K n0 (tSeq t tz) es M Φ) (h2 : b = false → Sx K n0 (tSeq u tz) es M Φ) : Sx K n0 (tSeq (tIfS tt t u) tz) es M Φ := fun as0 G0 H0 e G H as σ s R S D q =>
  h G H as σ R S _ fun G' H' st => by
    cases b with
    | true => exact iteT (h1 rfl as0 G0 H0 e G' H' as σ (s.trans st.step) (R.stepP st) (S.up0 st.g) D fun o G2 H2 as2 p2 s2 g2 => q o G2 H2 as2 p2 s2 (st.g.trans g2))
    | false => exact iteF (h2 rfl as0 G0 H0 e G' H' as σ (s.trans st.step) (R.stepP st) (S.up0 st.g) D fun o G2 H2 as2 p2 s2 g2 => q o G2 H2 as2 p2 s2 (st.g.trans g2))
theorem s_ifX {Ξ : Bool → List MO → Prop} (h : EvT K tt es M Ξ) (h1 : ∀ M', Ξ true M' → Sx K n0 t es M' Φ) (h2 : ∀ M', Ξ false M' → Sx K n0 u es M' Φ) : Sx K n0 (tIfS tt t u) es M Φ := fun as0 G0 H0 e G H as σ s R S D q =>
  h G H as σ R S _ fun b M' G' H' as' p st R' => by
    cases b with
    | true => exact iteT (h1 M' p as0 G0 H0 e G' H' as' σ (s.trans st) R' (S.step st) D fun o G2 H2 as2 p2 s2 g2 => q o G2 H2 as2 p2 s2 (st.g.trans g2))
    | false => exact iteF (h2 M' p as0 G0 H0 e G' H' as' σ (s.trans st) R' (S.step st) D fun o G2 H2 as2 p2 s2 g2 => q o G2 H2 as2 p2 s2 (st.g.trans g2))
theorem q_ifX {Ξ : Bool → List MO → Prop} (h : EvT K tt es M Ξ) (h1 : ∀ M', Ξ true M' → Sx K n0 (tSeq t tz) es M' Φ) (h2 : ∀ M', Ξ false M' → Sx K n0 (tSeq u tz) es M' Φ) : Sx K n0 (tSeq (tIfS tt t u) tz) es M Φ := fun as0 G0 H0 e G H as σ s R S D q =>
  h G H as σ R S _ fun b M' G' H' as' p st R' => by
    cases b with
    | true => exact iteT (h1 M' p as0 G0 H0 e G' H' as' σ (s.trans st) R' (S.step st) D fun o G2 H2 as2 p2 s2 g2 => q o G2 H2 as2 p2 s2 (st.g.trans g2))
    | false => exact iteF (h2 M' p as0 G0 H0 e G' H' as' σ (s.trans st) R' (S.step st) D fun o G2 H2 as2 p2 s2 g2 => q o G2 H2 as2 p2 s2 (st.g.trans g2))
theorem s_retX (h : Ev K te es M fun s M' => Φ (.rt s M')) : Sx K n0 (tRet te) es M Φ := fun as0 G0 H0 e G H as σ s R S D q =>
  h G H as σ R S _ fun s' M' v G' H' as' p st R' a => q _ G' H' as' p (s.trans st) st.g v R' a
theorem s_ret (h : EvP K te es M d) (p : Φ (.rt (.d d) M)) : Sx K n0 (tRet te) es M Φ := s_retX (ev_p h p)
theorem q_ret (h : EvP K te es M d) (p : Φ (.rt (.d d) M)) : Sx K n0 (tSeq (tRet te) tz) es M Φ := fun as0 G0 H0 e G H as σ s R S D q =>
  h G H as σ R S _ fun v G' H' st a => q _ G' H' as p (s.trans st.step) st.g v (R.stepP st) ⟨v, rfl, a⟩
theorem q_retX (h : Ev K te es M fun s M' => Φ (.rt s M')) : Sx K n0 (tSeq (tRet te) tz) es M Φ := fun as0 G0 H0 e G H as σ s R S D q =>
  h G H as σ R S _ fun s' M' v G' H' as' p st R' a => q _ G' H' as' p (s.trans st) st.g v R' a
/-! forgetting -/
/-- es' knows no more than es -/
def Wk (es es' : List Sl) : Prop := es.length = es'.length ∧ ∀ (i : Nat) (e : Sl), es'[i]? = some e → e = .un ∨ es[i]? = some e
theorem Wk.at {G : Hp} {as : List Addr} {σ : L2.St} (w : Wk es es') (S : SlotsAt K G as es σ) : SlotsAt K G as es' σ :=
  ⟨w.1.symm.trans S.len, fun j e o h1 h2 => by
    rcases w.2 j e h1 with z | z
    · subst z
      trivial
    · exact S.at_ j e o z h2⟩
theorem Wk.refl (es : List Sl) : Wk es es := ⟨rfl, fun _ _ h => .inr h⟩
theorem sx_wk (w : Wk es es') (h : Sx K n0 t es' M Φ) : Sx K n0 t es M Φ := fun as0 G0 H0 e G H as σ s R S D q => h as0 G0 H0 e G H as σ s R (w.at S) D q
def noL (k : Nat) : Sl → Sl
  | .l j => if j = k then .un else .l j
  | s => s
def frzL (k : Nat) (ds : List PyData) : Sl → Sl
  | .l j => if j = k then .d (.list ds) else .l j
  | s => s
def MO.plain : MO → Bool
  | .ins _ _ => false
  | _ => true
theorem Step.cut {as0 as : List Addr} {a : Addr} {G0 H0 G H : Hp} (s : Step as0 G0 H0 (as ++ [a]) G H) (h : as0.length ≤ as.length) : Step as0 G0 H0 as G H := by
  obtain ⟨new, e, f⟩ := s.more
  have e1 : as0 = as.take as0.length := by
    have z := congrArg (List.take as0.length) e
    rw [List.take_append_of_le_length h, List.take_left'] at z
    · exact z.symm
    · rfl
  refine ⟨s.g, s.keep, s.gh, s.fr, s.live, as.drop as0.length, ?_, fun b hb => ?_⟩
  · conv => lhs; rw [← List.take_append_drop as0.length as]
    rw [← e1]
  · have z : b ∈ as := List.mem_of_mem_drop hb
    have e2 : new = as.drop as0.length ++ [a] := by
      have z := congrArg (List.drop as0.length) e
      rw [List.drop_append_of_le_length h, List.drop_left'] at z
      · exact z.symm
      · rfl
    exact f b (by rw [e2]; exact List.mem_append_left _ hb)
theorem Step.lastNew {as0 as : List Addr} {a : Addr} {G0 H0 G H : Hp} (s : Step as0 G0 H0 (as ++ [a]) G H) (h : as0.length ≤ as.length) : H0 a = none := by
  obtain ⟨new, e, f⟩ := s.more
  refine f a ?_
  have e2 : new = as.drop as0.length ++ [a] := by
    have z := congrArg (List.drop as0.length) e
    rw [List.drop_append_of_le_length h, List.drop_left'] at z
    · exact z.symm
    · rfl
  rw [e2]
  simp
theorem split_last {as : List Addr} {m : MO} (h : as.length = (M ++ [m]).length) : ∃ bs a, as = bs ++ [a] ∧ bs.length = M.length := by
  have hne : as ≠ [] := fun z => by
    subst z
    simp at h
  refine ⟨as.dropLast, as.getLast hne, (List.dropLast_concat_getLast hne).symm, ?_⟩
  rw [List.length_dropLast, h]
  simp
def Sl.low (n : Nat) : Sl → Bool
  | .l k => decide (k < n)
  | _ => true
/-- an own object that refers to own objects below n alone -/
def MO.low (n : Nat) : MO → Bool
  | .ins _ fs => fs.all fun f => f.2.low n
  | _ => true
theorem SlAt.cut {G : Hp} {as : List Addr} {a : Addr} {s : Sl} {o : Option V} (h : SlAt K G (as ++ [a]) s o) (hs : s.low as.length = true) : SlAt K G as s o := by
  cases s with
  | un => trivial
  | d d => exact h
  | p ns => exact h
  | s ns => exact h
  | l k =>
    obtain ⟨b, hb, eb⟩ := h
    exact ⟨b, by rwa [List.getElem?_append_left (of_decide_eq_true hs)] at hb, eb⟩
theorem ins_cut {G : Hp} {as : List Addr} {a : Addr} {fs : List (Str × Sl)} {vs : List (Str × V)} (h : Paired (fun (p : Str × Sl) (q : Str × V) => p.1 = q.1 ∧ SlAt K G (as ++ [a]) p.2 (some q.2)) fs vs) (hm : fs.all (fun f => f.2.low as.length) = true) :
    Paired (fun (p : Str × Sl) (q : Str × V) => p.1 = q.1 ∧ SlAt K G as p.2 (some q.2)) fs vs := by
  induction h with
  | nil => exact .nil
  | cons p t ih =>
    rw [List.all_cons, Bool.and_eq_true] at hm
    exact .cons ⟨p.1, p.2.cut hm.1⟩ (ih hm.2)
theorem Rep.cut {G H : Hp} {as : List Addr} {a : Addr} {m : MO} (R : Rep K G H (as ++ [a]) (M ++ [m])) (hl : as.length = M.length) (hp : M.all (MO.low M.length) = true) : Rep K G H as M :=
  ⟨R.ex, R.nd.sublist (List.sublist_append_left _ _), hl, fun k b m' h1 h2 => by
    have l1 := (List.getElem?_eq_some_iff.mp h1).1
    obtain ⟨z, q⟩ := R.at_ k b m' (by rw [List.getElem?_append_left l1]; exact h1) (by rw [List.getElem?_append_left (by rw [← hl]; exact l1)]; exact h2)
    refine ⟨z, ?_⟩
    have hm := List.all_eq_true.mp hp m' (List.mem_of_getElem? h2)
    cases m' with
    | lst ds => exact q
    | dct kvs => exact q
    | ins C fs =>
      obtain ⟨dx, vs, h1, h2⟩ := q
      exact ⟨dx, vs, h1, ins_cut h2 (by rw [hl]; exact hm)⟩⟩
/-- the last own object is let go -/
theorem sx_drop {m : MO} (hn : n0 ≤ M.length) (hp : M.all (MO.low M.length) = true) (h : Sx K n0 t (es.map (noL M.length)) M Φ) : Sx K n0 t es (M ++ [m]) Φ := fun as0 G0 H0 e G H as σ s R S D q => by
  obtain ⟨bs, a, rfl, hl⟩ := split_last R.len
  refine h as0 G0 H0 e G H bs σ (s.cut (by rw [e, hl]; exact hn)) (R.cut hl hp) ⟨by rw [List.length_map]; exact S.len, fun j e' o h1 h2 => ?_⟩ D q
  rw [List.getElem?_map] at h1
  cases z : es[j]? with
  | none => rw [z] at h1; cases h1
  | some e0 =>
    rw [z] at h1
    have h1 : noL M.length e0 = e' := Option.some.inj h1
    subst h1
    have y := S.at_ j e0 o z h2
    cases e0 with
    | un => trivial
    | p ns => exact y
    | s ns => exact y
    | d d => exact y
    | l k =>
      show SlAt K G bs (if k = M.length then Sl.un else Sl.l k) o
      by_cases hk : k = M.length
      · rw [if_pos hk]
        trivial
      · rw [if_neg hk]
        obtain ⟨b, hb, eb⟩ := y
        refine ⟨b, ?_, eb⟩
        have l1 := (List.getElem?_eq_some_iff.mp hb).1
        rw [List.length_append, List.length_singleton, hl] at l1
        rwa [List.getElem?_append_left (by omega)] at hb
/-- the last own list never changes from here on -/
theorem sx_frz (hn : n0 ≤ M.length) (hp : M.all (MO.low M.length) = true) (h : Sx K n0 t (es.map (frzL M.length ds)) M Φ) : Sx K n0 t es (M ++ [.lst ds]) Φ := fun as0 G0 H0 e G H as σ s R S D q => by
  obtain ⟨bs, a, rfl, hl⟩ := split_last R.len
  have sa : (bs ++ [a])[M.length]? = some a := by rw [← hl]; simp
  obtain ⟨ga, vs, h1, l1⟩ := R.at_ M.length a (.lst ds) sa (by simp)
  have gn : Ex G (upd G a (.lst vs)) := .new ga
  have hn0 : as0.length ≤ bs.length := by rw [e, hl]; exact hn
  have h0 := s.lastNew hn0
  have sc := s.cut hn0
  have Rc := R.cut hl hp
  have nab : a ∉ bs := fun z => by
    have nd := R.nd
    rw [List.nodup_append] at nd
    exact nd.2.2 a z a (List.mem_singleton.mpr rfl) rfl
  have gh : Ex (upd G a (.lst vs)) H := fun b o hb => by
    by_cases z : b = a
    · subst z
      rw [upd_same] at hb
      cases hb
      exact h1
    · rw [upd_ne z] at hb
      exact s.gh b o hb
  refine h as0 G0 H0 e (upd G a (.lst vs)) H bs σ ⟨sc.g.trans gn, sc.keep, gh, fun b y1 y2 => ?_, sc.live, sc.more⟩ ⟨gh, Rc.nd, Rc.len, fun k b m' y1 y2 => ?_⟩ ⟨by rw [List.length_map]; exact S.len, fun j e' o y1 y2 => ?_⟩ D fun o' G2 H2 as2 p2 s2 g2 => q o' G2 H2 as2 p2 s2 (gn.trans g2)
  · rw [upd_ne fun z => y1 (by rw [z]; exact h0)]
    exact sc.fr b y1 y2
  · obtain ⟨z, w⟩ := Rc.at_ k b m' y1 y2
    refine ⟨?_, ?_⟩
    · rw [upd_ne fun z' => nab (by rw [← z']; exact List.mem_of_getElem? y1)]
      exact z
    · have := w.up (more := []) gn (H1 := H) fun u hu => hu
      rwa [List.append_nil] at this
  · rw [List.getElem?_map] at y1
    cases z : es[j]? with
    | none => rw [z] at y1; cases y1
    | some e0 =>
      rw [z] at y1
      have y1 : frzL M.length ds e0 = e' := Option.some.inj y1
      subst y1
      have y := S.at_ j e0 o z y2
      cases e0 with
      | un => trivial
      | p ns =>
        obtain ⟨a', ob, z1, z2, z3⟩ := y
        exact ⟨a', ob, z1, gn _ _ z2, z3⟩
      | s ns =>
        obtain ⟨a', z1, z2⟩ := y
        exact ⟨a', z1, gn.sqL z2⟩
      | d d =>
        obtain ⟨w, ew, aw⟩ := y
        exact ⟨w, ew, aw.up gn⟩
      | l k =>
        obtain ⟨b, hb, eb⟩ := y
        show SlAt K (upd G a (.lst vs)) bs (if k = M.length then Sl.d (.list ds) else Sl.l k) o
        by_cases hk : k = M.length
        · subst hk
          rw [sa] at hb
          cases hb
          rw [if_pos rfl]
          exact ⟨_, eb, .lst upd_same (l1.up gn)⟩
        · rw [if_neg hk]
          refine ⟨b, ?_, eb⟩
          have l1 := (List.getElem?_eq_some_iff.mp hb).1
          rw [List.length_append, List.length_singleton, hl] at l1
          rwa [List.getElem?_append_left (by omega)] at hb
/-! loops -/
/-- W: what is known ahead of turn i -/
theorem s_for {wi : TI} {ds : List PyData} (W : Nat → List Sl → List MO → Prop) (hw : EvW K wi es M ds) (h0 : W 0 es M)
    (hs : ∀ i d es1 M1, ds[i]? = some d → W i es1 M1 → ∃ es2 vs, GT K g d es1 es2 vs ∧ Sx K n0 t es2 M1 (fun o => match o with
      | .nx a b => ∃ a', Wk a a' ∧ W (i + 1) a' b
      | .ct a b => ∃ a', Wk a a' ∧ W (i + 1) a' b
      | .bk a b => Φ (.nx a b)
      | .rt s b => Φ (.rt s b))) (hd : ∀ es1 M1, W ds.length es1 M1 → Φ (.nx es1 M1)) : Sx K n0 (tFor wi g t) es M Φ := fun as0 G0 H0 e G H as σ s R S D q =>
  hw G H as σ R S _ fun J G1 H1 s1 Wd => by
    refine ⟨fun i m σ' H' => m = ds.length - i ∧ i ≤ ds.length ∧ ∃ G' as' es' M', Ex G1 G' ∧ Step as0 G0 H0 as' G' H' ∧ Rep K G' H' as' M' ∧ SlotsAt K G' as' es' σ' ∧ W i es' M', ⟨ds.length, rfl, Nat.zero_le _, G1, as, es, M, .refl _, s.trans s1.step, R.stepP s1, S.up0 s1.g, h0⟩, ?_⟩
    rintro i m σ' H' ⟨rfl, hi, G', as', es', M', g1, st, R', S', w⟩
    by_cases hlt : i < ds.length
    · right
      refine ⟨Wd.go i H' (g1.trans R'.ex) hlt, fun σ'' H'' => ∃ G'' as'' es'' M'', Ex G1 G'' ∧ Step as0 G0 H0 as'' G'' H'' ∧ Rep K G'' H'' as'' M'' ∧ SlotsAt K G'' as'' es'' σ'' ∧ W (i + 1) es'' M'', fun σ'' H'' z => ⟨ds.length - (i + 1), by omega, rfl, hlt, z⟩, fun x H'' y => ?_⟩
      obtain ⟨d, G2, hdi, s2, a2⟩ := Wd.yld i G' H' x H'' g1 R'.ex hlt y
      obtain ⟨es2, vs, hg, hb⟩ := hs i d es' M' hdi w
      have R2 := R'.stepP s2
      have st2 := st.trans s2.step
      refine hg G2 H'' as' σ' x s2.gh (S'.up0 s2.g) a2 _ fun σ2 S2 _ _ => ?_
      have ih : ∀ G3 H3 as3 (a : List Sl) (b : List MO), (∃ a', Wk a a' ∧ W (i + 1) a' b) → Step as0 G0 H0 as3 G3 H3 → Ex G2 G3 → ∀ σ3, Rep K G3 H3 as3 b → SlotsAt K G3 as3 a σ3 → ∃ G'' as'' es'' M'', Ex G1 G'' ∧ Step as0 G0 H0 as'' G'' H3 ∧ Rep K G'' H3 as'' M'' ∧ SlotsAt K G'' as'' es'' σ3 ∧ W (i + 1) es'' M'' :=
        fun G3 H3 as3 a b ⟨a', wk, w'⟩ st3 g3 σ3 R3 S3 => ⟨G3, as3, a', b, g1.trans (s2.g.trans g3), st3, R3, wk.at S3, w'⟩
      refine hb as0 G0 H0 e G2 H'' as' σ2 st2 R2 S2 _ fun o G3 H3 as3 p st3 g3 => ?_
      cases o with
      | nx a b => exact ih G3 H3 as3 a b p st3 g3
      | ct a b => exact ih G3 H3 as3 a b p st3 g3
      | bk a b => exact q (.nx a b) G3 H3 as3 p st3 (s1.g.trans (g1.trans (s2.g.trans g3)))
      | rt s' b => exact q (.rt s' b) G3 H3 as3 p st3 (s1.g.trans (g1.trans (s2.g.trans g3)))
    · left
      have ei : i = ds.length := by omega
      subst ei
      exact ⟨Wd.stop H' (g1.trans R'.ex), q _ G' H' as' (hd _ _ w) st (s1.g.trans g1) σ' R' S'⟩
theorem q_for {wi : TI} {ds : List PyData} (W : Nat → List Sl → List MO → Prop) (hw : EvW K wi es M ds) (h0 : W 0 es M)
    (hs : ∀ i d es1 M1, ds[i]? = some d → W i es1 M1 → ∃ es2 vs, GT K g d es1 es2 vs ∧ Sx K n0 t es2 M1 (fun o => match o with
      | .nx a b => ∃ a', Wk a a' ∧ W (i + 1) a' b
      | .ct a b => ∃ a', Wk a a' ∧ W (i + 1) a' b
      | .bk a b => Sx K n0 tz a b Φ
      | .rt s b => Φ (.rt s b))) (hd : ∀ es1 M1, W ds.length es1 M1 → Sx K n0 tz es1 M1 Φ) : Sx K n0 (tSeq (tFor wi g t) tz) es M Φ :=
  sx_seq (Ψ := fun o => match o with
    | .nx a b => Sx K n0 tz a b Φ
    | o => Φ o) (s_for W hw h0 hs hd) fun o p => by
    cases o <;> exact p
/-- while: W with its measure -/
theorem s_while (W : Nat → List Sl → List MO → Prop) (m0 : Nat) (h0 : W m0 es M)
    (hs : ∀ m es1 M1, W m es1 M1 → ∃ b, EvTP K tt es1 M1 b ∧ (b = true → Sx K n0 t es1 M1 (fun o => match o with
      | .nx a b => ∃ a' m', m' < m ∧ Wk a a' ∧ W m' a' b
      | .ct a b => ∃ a' m', m' < m ∧ Wk a a' ∧ W m' a' b
      | .bk a b => Φ (.nx a b)
      | .rt s b => Φ (.rt s b))) ∧ (b = false → Φ (.nx es1 M1))) : Sx K n0 (tWhile tt t) es M Φ := fun as0 G0 H0 e G H as σ s R S D q => by
  refine ⟨fun m σ' H' => ∃ G' as' es' M', Ex G G' ∧ Step as0 G0 H0 as' G' H' ∧ Rep K G' H' as' M' ∧ SlotsAt K G' as' es' σ' ∧ W m es' M', ⟨m0, G, as, es, M, .refl _, s, R, S, h0⟩, ?_⟩
  rintro m σ' H' ⟨G', as', es', M', g1, st, R', S', w⟩
  obtain ⟨b, hb, h1, h2⟩ := hs m es' M' w
  refine hb G' H' as' σ' R' S' _ fun G2 H2 s2 => ?_
  have R2 := R'.stepP s2
  have st2 := st.trans s2.step
  have S2 := S'.up0 s2.g
  cases b with
  | true =>
    refine iteT ⟨fun σ'' H'' => ∃ m', m' < m ∧ ∃ G'' as'' es'' M'', Ex G G'' ∧ Step as0 G0 H0 as'' G'' H'' ∧ Rep K G'' H'' as'' M'' ∧ SlotsAt K G'' as'' es'' σ'' ∧ W m' es'' M'', fun σ'' H'' z => z, ?_⟩
    have ih : ∀ G3 H3 as3 (a : List Sl) (b : List MO), (∃ a' m', m' < m ∧ Wk a a' ∧ W m' a' b) → Step as0 G0 H0 as3 G3 H3 → Ex G2 G3 → ∀ σ3, Rep K G3 H3 as3 b → SlotsAt K G3 as3 a σ3 → ∃ m', m' < m ∧ ∃ G'' as'' es'' M'', Ex G G'' ∧ Step as0 G0 H0 as'' G'' H3 ∧ Rep K G'' H3 as'' M'' ∧ SlotsAt K G'' as'' es'' σ3 ∧ W m' es'' M'' :=
      fun G3 H3 as3 a b ⟨a', m', hm, wk, w'⟩ st3 g3 σ3 R3 S3 => ⟨m', hm, G3, as3, a', b, g1.trans (s2.g.trans g3), st3, R3, wk.at S3, w'⟩
    refine h1 rfl as0 G0 H0 e G2 H2 as' σ' st2 R2 S2 _ fun o G3 H3 as3 p st3 g3 => ?_
    cases o with
    | nx a b => exact ih G3 H3 as3 a b p st3 g3
    | ct a b => exact ih G3 H3 as3 a b p st3 g3
    | bk a b => exact q (.nx a b) G3 H3 as3 p st3 (g1.trans (s2.g.trans g3))
    | rt s' b => exact q (.rt s' b) G3 H3 as3 p st3 (g1.trans (s2.g.trans g3))
  | false => exact iteF (q _ G2 H2 as' (h2 rfl) st2 (g1.trans s2.g) σ' R2 S2)
theorem q_while (W : Nat → List Sl → List MO → Prop) (m0 : Nat) (h0 : W m0 es M)
    (hs : ∀ m es1 M1, W m es1 M1 → ∃ b, EvTP K tt es1 M1 b ∧ (b = true → Sx K n0 t es1 M1 (fun o => match o with
      | .nx a b => ∃ a' m', m' < m ∧ Wk a a' ∧ W m' a' b
      | .ct a b => ∃ a' m', m' < m ∧ Wk a a' ∧ W m' a' b
      | .bk a b => Sx K n0 tz a b Φ
      | .rt s b => Φ (.rt s b))) ∧ (b = false → Sx K n0 tz es1 M1 Φ)) : Sx K n0 (tSeq (tWhile tt t) tz) es M Φ :=
  sx_seq (Ψ := fun o => match o with
    | .nx a b => Sx K n0 tz a b Φ
    | o => Φ o) (s_while W m0 h0 hs) fun o p => by
    cases o <;> exact p
/-! a def's body -/
theorem SlotsAt.begin {G : Hp} {as : List Addr} {N : List Str} {ss : List Sl} {vs : List V} (h : SlsAt K G as ss vs) (hl : ss.length ≤ N.length) : SlotsAt K G as (ss ++ List.replicate (N.length - ss.length) .un) (L2.start N vs) := by
  have e : ss.length = vs.length := Paired.length h
  refine ⟨by unfold L2.start; simp [e], fun i e' o h1 h2 => ?_⟩
  by_cases hi : i < ss.length
  · rw [List.getElem?_append_left hi] at h1
    unfold L2.start at h2
    rw [List.getElem?_append_left (by rw [List.length_map, ← e]; exact hi), List.getElem?_map] at h2
    have get : ∀ {ss : List Sl} {vs : List V} {i : Nat}, Paired (fun s v => SlAt K G as s (some v)) ss vs → ∀ e' o, ss[i]? = some e' → vs[i]?.map some = some o → SlAt K G as e' o := by
      intro ss vs i hp
      induction hp generalizing i with
      | nil => intro e' o h; simp at h
      | cons p _ ih =>
        intro e' o h1 h2
        cases i with
        | zero =>
          simp at h1 h2
          subst h1 h2
          exact p
        | succ n =>
          simp at h1
          exact ih (i := n) e' o h1 (by simpa using h2)
    exact get h e' o h1 h2
  · rw [List.getElem?_append_right (Nat.le_of_not_lt hi), List.getElem?_replicate] at h1
    split at h1
    · cases h1
      trivial
    · cases h1
/-- a pure def's reading -/
theorem body_p {N : List Str} {P : List PyData → PyData → Prop} {t : TS} (hb : ∀ ds d, P ds d → ds.length ≤ N.length ∧ Sx K 0 t (ds.map Sl.d ++ List.replicate (N.length - ds.length) .un) [] (fun o => match o with
    | .rt s _ => s = .d d
    | .nx _ _ => d = .none
    | _ => False)) (vs : List V) (H : Hp) (Q : VK) (E : XK) (h : spP K P vs H Q E) : t { nx := fun _ H' => Q .non H', rt := Q } (L2.start N vs) H := by
  obtain ⟨G, ds, d, e, a, p, k⟩ := h
  obtain ⟨hl, hb⟩ := hb ds d p
  have R : Rep K G H [] [] := ⟨e, List.nodup_nil, rfl, fun k a m h1 _ => by simp at h1⟩
  have S := SlotsAt.begin (N := N) (SlsAt.ofData (as := []) a) (by rw [List.length_map]; exact hl)
  rw [List.length_map] at S
  refine hb [] G H rfl G H [] _ (.refl e) R S _ fun o G' H' as' po st g' => ?_
  have sp : StepP G H G' H' := ⟨st.g, fun b o hb => st.keep b o List.not_mem_nil hb, st.gh, st.fr⟩
  cases o with
  | rt s M =>
    intro v _ ha
    have po : s = .d d := po
    subst po
    obtain ⟨w, ew, aw⟩ := ha
    cases ew
    exact k _ G' H' sp aw
  | nx es M =>
    intro σ' _ _
    have po : d = .none := po
    subst po
    exact k .non G' H' sp .non
  | bk es M => exact po.elim
  | ct es M => exact po.elim
theorem body_m {N : List Str} {Pre : List Sl → List MO → Prop} {Post : List Sl → List MO → Sl → List MO → Prop} {t : TS} (hb : ∀ ss M, Pre ss M → ss.length ≤ N.length ∧ Sx K M.length t (ss ++ List.replicate (N.length - ss.length) .un) M (fun o => match o with
    | .rt s M' => Post ss M s M'
    | .nx _ M' => Post ss M (.d .none) M'
    | _ => False)) (vs : List V) (H : Hp) (Q : VK) (E : XK) (h : spM K Pre Post vs H Q E) : t { nx := fun _ H' => Q .non H', rt := Q } (L2.start N vs) H := by
  obtain ⟨G, as, ss, M, R, a, p, k⟩ := h
  obtain ⟨hl, hb⟩ := hb ss M p
  have S := SlotsAt.begin (N := N) a hl
  refine hb as G H R.len G H as _ (.refl R.ex) R S _ fun o G' H' as' po st g' => ?_
  cases o with
  | rt s M' =>
    intro v R' ha
    exact k s M' v G' H' as' po st R' ha
  | nx es M' =>
    intro σ' R' _
    exact k _ M' .non G' H' as' po st R' ⟨_, rfl, .non⟩
  | bk es M => exact po.elim
  | ct es M => exact po.elim
theorem spP_len {P : List PyData → PyData → Prop} {n : Nat} (hn : ∀ ds d, P ds d → ds.length = n) (vs : List V) (H : Hp) (Q : VK) (E : XK) (h : spP K P vs H Q E) : vs.length = n := by
  obtain ⟨G, ds, d, e, a, p, k⟩ := h
  rw [← a.length]
  exact hn ds d p
theorem spM_len {Pre : List Sl → List MO → Prop} {Post : List Sl → List MO → Sl → List MO → Prop} {n : Nat} (hn : ∀ ss M, Pre ss M → ss.length = n) (vs : List V) (H : Hp) (Q : VK) (E : XK) (h : spM K Pre Post vs H Q E) : vs.length = n := by
  obtain ⟨G, as, ss, M, R, a, p, k⟩ := h
  rw [← Paired.length a]
  exact hn ss M p
end
end Q
end
section
set_option Elab.async false
set_option linter.all false
set_option maxRecDepth 100000
set_option maxHeartbeats 4000000
/-! Qe: further rules: t[lo::2], range with a step and not in, tuple.count, sorted of data, zip of three. -/
namespace Q
open PySem PySem.Spec PyProof.Rows L2
/-! ### t[lo::2] -/
def stp {α : Type} (xs : List α) (lo : Nat) : List α := (List.range (if lo < xs.length then (xs.length - lo - 1) / 2 + 1 else 0)).filterMap fun m => xs[lo + m * 2]?
section
variable {prog : Program} {w : World} {A : Around} {E : Value → Shared → Prop} {s : Shared}
theorem adjust2 (lo : Option Int) (n : Nat) : Builtin.Slice.sliceAdjust lo none 2 (n : Int) = (((HT.sIx n 0 lo : Nat) : Int), (n : Int)) := by
  have h1 : ¬ ((2 : Int) < 0) := by omega
  unfold Builtin.Slice.sliceAdjust
  simp only [h1, if_false]
  refine Prod.ext ?_ rfl
  cases lo with
  | none => rfl
  | some v => exact HT.clip_eq v n 0
theorem places2 (i n : Nat) : Builtin.Slice.slicePlaces (i : Int) (n : Int) 2 = if i < n then (n - i - 1) / 2 + 1 else 0 := by
  unfold Builtin.Slice.slicePlaces
  have h1 : (2 : Int) > 0 := by omega
  simp only [h1, if_true]
  by_cases h : i < n
  · rw [if_pos (by omega), if_pos h]
    omega
  · rw [if_neg (by omega), if_neg h]
    rfl
theorem sliceApplied2 {sl : Addr} {vl : Value} {t2 : Tok} {lo : Option Int} {n : Nat} {Q : Int × Int × Nat → Shared → Prop} (hs : s.heap.IsSliceOf sl vl .none (.int 2 t2)) (pl : IsPart vl lo)
    (h : Q (((HT.sIx n 0 lo : Nat) : Int), 2, if HT.sIx n 0 lo < n then (n - HT.sIx n 0 lo - 1) / 2 + 1 else 0) s) : wpAny (model prog w) A (Builtin.Slice.sliceApplied (.ref sl) (pure (n : Int))) Q E s := by
  obtain ⟨os, hos, hcs, hds⟩ := id hs
  unfold Builtin.Slice.sliceApplied Builtin.Slice.sliceFields
  refine wpAny_bind (wpAny_bind (wpAny_field hos hds (x := vl) rfl (wpAny_bind (wpAny_field hos hds (x := .none) rfl (wpAny_bind (wpAny_field hos hds (x := .int 2 t2) rfl (wpAny_pure ?_)))))))
  refine wpAny_bind (HT.slicePart_ (.int 2 t2) ?_)
  show wpAny _ _ (if ((2 : Int) == 0) = true then _ else _) _ _ s
  rw [if_neg (by decide)]
  refine wpAny_bind (HT.slicePart_ pl (wpAny_bind (HT.slicePart_ .none (wpAny_bind (wpAny_pure ?_)))))
  show wpAny _ _ (match Builtin.Slice.sliceAdjust lo none 2 (n : Int) with | (lo, hi) => pure (lo, (2 : Int), Builtin.Slice.slicePlaces lo hi 2)) _ _ s
  rw [adjust2 lo n]
  show wpAny _ _ (pure (((HT.sIx n 0 lo : Nat) : Int), (2 : Int), Builtin.Slice.slicePlaces ((HT.sIx n 0 lo : Nat) : Int) (n : Int) 2)) _ _ s
  rw [places2]
  exact wpAny_pure h
theorem pick2 (xs : Array Value) (i k : Nat) : ((List.range k).filterMap fun (m : Nat) => xs[((i : Int) + (m : Int) * 2).toNat]?).toArray = ((List.range k).filterMap fun m => xs.toList[i + m * 2]?).toArray := by
  have e : (fun (m : Nat) => xs[((i : Int) + (m : Int) * 2).toNat]?) = fun m => xs.toList[i + m * 2]? := by
    funext m
    have : ((i : Int) + (m : Int) * 2).toNat = i + m * 2 := by omega
    rw [this, Array.getElem?_toList]
  rw [e]
theorem stp_len {α : Type} (xs : List α) (lo : Nat) : (stp xs lo).length ≤ xs.length := by
  unfold stp
  refine Nat.le_trans (List.length_filterMap_le _ _) ?_
  rw [List.length_range]
  split <;> omega
theorem getItem_tuple2 {t sl : Addr} {items : Array Value} {vl : Value} {t2 : Tok} {lo : Option Int} {Q : Value → Shared → Prop} (ht : IsTup s.heap t items) (hs : s.heap.IsSliceOf sl vl .none (.int 2 t2)) (pl : IsPart vl lo)
    (h : Q (.ref s.heap.objs.size) { s with heap := s.heap.push { cls := .type "tuple", data := .seq (stp items.toList (HT.sIx items.size 0 lo)).toArray } })
    (hsz : items.size ≤ sizeLine) : wpAny (model prog w) A (getItem (.ref t) (.ref sl)) Q E s := by
  have hz : (stp items.toList (HT.sIx items.size 0 lo)).length ≤ sizeLine := Nat.le_trans (stp_len _ _) (by rw [Array.length_toList]; exact hsz)
  have htake : sizeOk (.seq (stp items.toList (HT.sIx items.size 0 lo)).toArray) := by
    show (stp items.toList (HT.sIx items.size 0 lo)).toArray.size ≤ sizeLine
    rw [List.size_toArray]
    exact hz
  obtain ⟨os, hos, hcs, hds⟩ := id hs
  have hTs : s.TypeIs (.ref sl) "slice" := ⟨os, hos, hcs⟩
  unfold getItem
  try with_reducible refine wpAny_holding ?_
  first | refine wpAny_bind (wpAny_pure ?_) | skip
  refine wpAny_bind (wpAny_sequenceKey ht.typeIs (by decide) ?_)
  refine wpAny_bind (wpAny_callSpecial?_slot (name := Str.ofString "__getitem__") ht.typeIs PyProof.Rows.slot_tuple_getitem
    (wpAny_call_entry PyProof.Rows.slot_tuple_getitem ht.typeIs entry_tuple_getitem ?_ (args_tuple_getitem _ _)))
  show wpAny _ _ (Builtin.Tuple.tupleItemsOf (.ref t) >>= _) _ _ s
  refine wpAny_bind (tupleItemsOf_ ht ?_)
  refine wpAny_bind (wpAny_typeOf hTs ?_)
  rw [if_pos (by decide)]
  refine wpAny_bind (sliceApplied2 hs pl ?_)
  have hno : ¬ ((((HT.sIx items.size 0 lo : Nat) : Int) == 0 && (2 : Int) == 1 && (if HT.sIx items.size 0 lo < items.size then (items.size - HT.sIx items.size 0 lo - 1) / 2 + 1 else 0) == items.size) = true) := by
    intro q
    rw [Bool.and_eq_true, Bool.and_eq_true] at q
    exact absurd q.1.2 (by decide)
  show wpAny _ _ (if (((HT.sIx items.size 0 lo : Nat) : Int) == 0 && (2 : Int) == 1 && (if HT.sIx items.size 0 lo < items.size then (items.size - HT.sIx items.size 0 lo - 1) / 2 + 1 else 0) == items.size) = true then _ else _) _ _ s
  rw [if_neg hno, pick2]
  have e : ((List.range (if HT.sIx items.size 0 lo < items.size then (items.size - HT.sIx items.size 0 lo - 1) / 2 + 1 else 0)).filterMap fun m => items.toList[HT.sIx items.size 0 lo + m * 2]?) = stp items.toList (HT.sIx items.size 0 lo) := by
    unfold stp
    rw [Array.length_toList]
  rw [e]
  first
    | exact wpAny_bind (m := Builtin.Tuple.tupleExact _) (wpAny_newObj_type (wpAny_pure ⟨_, rfl, wpAny_pure h⟩) htake)
    | exact wpAny_bind (m := Builtin.Tuple.tupleExact _) (wpAny_newObj_type (wpAny_bind (wpAny_pure (wpAny_pure ⟨_, rfl, wpAny_pure h⟩))) htake)
    | exact wpAny_bind (wpAny_bind (m := Builtin.Tuple.tupleExact _) (wpAny_newObj_type (wpAny_pure (wpAny_pure ⟨_, rfl, wpAny_pure h⟩)) htake))
    | exact wpAny_bind (wpAny_bind (m := Builtin.Tuple.tupleExact _) (wpAny_newObj_type (wpAny_pure ⟨_, rfl, wpAny_pure h⟩) htake))
end
theorem vals_stp {xs : List V} {us : List Value} (r : Vals xs us) (lo : Nat) : Vals (stp xs lo) (stp us lo) := by
  unfold stp
  rw [r.length]
  generalize (List.range (if lo < us.length then (us.length - lo - 1) / 2 + 1 else 0)) = L
  induction L with
  | nil => exact .nil
  | cons m L ih =>
    cases hx : xs[lo + m * 2]? with
    | none =>
      rw [List.filterMap_cons_none (f := fun m => xs[lo + m * 2]?) hx, List.filterMap_cons_none (f := fun m => us[lo + m * 2]?) (r.none_of hx)]
      exact ih
    | some x =>
      obtain ⟨u, hu, ru⟩ := r.get hx
      rw [List.filterMap_cons_some (f := fun m => xs[lo + m * 2]?) hx, List.filterMap_cons_some (f := fun m => us[lo + m * 2]?) hu]
      exact .cons ru ih
/-- the part is a tuple that is known to have no dict of its own -/
def tSl2 (K : PySem.W.Frag) (te : TE) (tl : TO) : TE := fun σ H Q => te σ H fun x H1 => tl σ H1 fun lo H2 => ∃ a xs, x = .ref a ∧ SqT K H2 a xs ∧ ∀ p ob, ob.dict = none → H2 p = none → Q (.ref p) (upd H2 p (.frz ob (.tup (stp xs (HT.sIx xs.length 0 lo)))))
theorem pe_slice2 {X : Cx} {e : Expr} {lo : Option Expr} {te : TE} {tl : TO} {j : Nat} {pc p2 pos : Pos} (he : PE X e te) (hl : PO X lo tl) (hs : ∀ o i, ∃ ops, subscripted (.Slice lo none (some (.Constant (.int 2) j pc)) p2) false o i = operate ops (getItem o i) := by intro o i; exact ⟨_, by with_unfolding_all rfl⟩) :
    PE X (.Subscript e (.Slice lo none (some (.Constant (.int 2) j pc)) p2) pos) (tSl2 X.K te tl) := by
  refine ⟨fun pins s σ H Q I h => ?_⟩
  refine Subscript_ (thn (he.run pins s σ H _ I h) fun v s1 ⟨x, H1, I1, r1, q1⟩ => ?_)
  refine wpAny_Slice (thn (hl.run pins s1 σ H1 _ I1 q1) fun vl s2 ⟨l, H2, I2, pl, q2⟩ => ?_)
  rw [evalPart_none]
  refine wpAny_pure ?_
  rw [evalPart_some]
  refine wpAny_Constant_int ?_
  obtain ⟨a, xs, rfl, hx, q⟩ := q2
  cases r1
  have I3 := I2.tok (s2.toks + 1)
  have I4 : Inv X pins σ H2 { s2 with heap := s2.heap.push { cls := .type "slice", data := .fields #[vl, .none, .int 2 s2.toks] }, toks := s2.toks + 1 } := I3.kept (t' := s2.toks + 1) fun b ob q => Heap.get?_push_of_some _ q
  obtain ⟨its, r, ht, hz⟩ := I4.tuple hx
  have hlen : its.toArray.size = xs.length := by rw [List.size_toArray]; exact r.length.symm
  have hsl : (s2.heap.push { cls := .type "slice", data := .fields #[vl, .none, .int 2 s2.toks] }).IsSliceOf s2.heap.objs.size vl .none (.int 2 s2.toks) := Heap.IsSliceOf.new ..
  obtain ⟨ops, hs⟩ := hs (.ref a) (.ref s2.heap.objs.size)
  refine tail_any (T := "tuple") (ops := ops) (s := { s2 with heap := s2.heap.push { cls := .type "slice", data := .fields #[vl, .none, .int 2 s2.toks] }, toks := s2.toks + 1 }) ht.typeIs PyProof.Rows.slot_tuple_getitem.lookup ?_ hs
  refine getItem_tuple2 ht hsl pl ?_ (by rw [hlen]; exact hz)
  rw [hlen]
  have hf : H2 (s2.heap.push { cls := .type "slice", data := .fields #[vl, .none, .int 2 s2.toks] }).objs.size = none := I4.hok.fresh (Nat.le_refl _)
  refine ⟨.ref (s2.heap.push { cls := .type "slice", data := .fields #[vl, .none, .int 2 s2.toks] }).objs.size, _, I4.laid (t' := s2.toks + 1) (o := .frz { cls := .type "tuple", data := .seq (stp its (HT.sIx xs.length 0 l)).toArray } (.tup (stp xs (HT.sIx xs.length 0 l)))) (fun b ob q => Heap.get?_push_of_some _ q) (Nat.le_refl _) ?_, rfl, q _ _ rfl hf⟩
  refine ⟨Heap.get?_push_size _ rfl, Nat.le_trans (stp_len _ _) hz, _, vals_stp r _, ?_⟩
  exact ⟨_, Heap.get?_push_size _ rfl, rfl, _, rfl⟩
end Q
end
section
set_option Elab.async false
set_option linter.all false
set_option maxRecDepth 100000
set_option maxHeartbeats 4000000
/-! Qf: zip of two in any mix, of three tuples. -/
namespace Q
open PySem PySem.Spec PyProof.Rows L2
def SqX (K : PySem.W.Frag) (H : Hp) (t : Bool) (a : Addr) (xs : List V) : Prop := if t then SqT K H a xs else SqL K H a xs
/-- a walk that gives new tuples: what stands at fp0 is its own -/
theorem turnW {P : Program} {w : World} {K : PySem.W.Frag} {elts : List Expr} {kk : Nat} {tpos : Pos} {J : It} {fp0 wr : List Addr} {it : Addr} {tn : Nat → Heap → Prop} (mem : it ∈ fp0) (sub : ∀ b ∈ wr, b ∈ fp0)
    (obj : ∀ i h, tn i h → ∀ b ∈ fp0, ∃ o, h.get? b = some o ∧ ∀ v, o.data ≠ .cell v)
    (keep : ∀ i h h', tn i h → (∀ b ∈ fp0, ∀ o, h.get? b = some o → h'.get? b = some o) → tn i h')
    (self : ∀ (A : Around) (i : Nat) (s : Shared) (Q : Value → Shared → Prop) (E : Value → Shared → Prop), tn i s.heap → Q (.ref it) s → wpAny (model P w) A (pyIter (.ref it)) Q E s)
    (hw : ∀ (X : Cx), X.prog = P → X.w = w → X.K = K → X.calm = true → ∀ (i : Nat) (pins : List (Addr × Obj)) (s : Shared) (σ : L2.St) (H : Hp), Inv X pins σ H s → tn i s.heap → (J.go i H ∨ J.stop i H) →
      ∃ fp n Pt Sx Mid, WalksT P w X.A it fp wr n Pt Sx Mid ∧ Sx i s.heap ∧ (∀ h', Sx (i + 1) h' → tn (i + 1) h') ∧ (J.stop i H → i = n) ∧
        (J.go i H → i < n ∧ ∀ vals, Pt i vals → vals.size ≤ 3 ∧ ∃ xs, Vals xs vals.toList ∧ ∀ T, H T = none → J.yld i H (.ref T) (upd H T (.tup xs)))) : Turn P w K (.Tuple elts kk tpos) J fp0 it tn where
  mem := mem
  obj := obj
  keep := keep
  item := by
    intro X hP hW hK hc i pins s σ H E I hf st hg
    obtain ⟨fp, n, Pt, Sx, Mid, W, s0, s1, _, g⟩ := hw X hP hW hK hc i pins s σ H I st (.inl hg)
    obtain ⟨hi, g⟩ := g hg
    subst hP hW hK
    refine W.item i s _ E hi s0 fun T vals h' tk hp hT hTup hMid hk => ⟨_, rfl, ?_⟩
    refine W.go elts kk tpos i T _ _ _ hMid fun h'' st'' hk2 => ?_
    obtain ⟨hz, xs, rv, hy⟩ := g vals hp
    have nT : T ∉ wr := W.apart i T h' hMid
    have hnT : H T = none := I.hok.fresh hT
    obtain ⟨ot, e1, e2, n1, e3⟩ := hTup
    have hT2 : h''.get? T = some ot := hk2 _ _ nT e1
    have new : ObjOk X.prog X.w (upd H T (.tup xs)) h'' T (.tup xs) := ⟨by
      have := rv.length
      show xs.length ≤ sizeLine
      rw [this, Array.length_toList]
      exact Nat.le_trans hz (by decide), vals.toList, rv, ⟨ot, hT2, e2, n1, by rw [e3]⟩⟩
    have I1 : Inv X pins σ (upd H T (.tup xs)) { s with heap := h'', toks := tk } :=
      I.turnedNew (t' := tk) (ch := fp0) (fun c o hb q => hk2 _ _ (fun z => hb (sub _ z)) (hk _ _ (fun z => hb (sub _ z)) q)) hf hT new
    refine ⟨.ref T, _, I1, rfl, hy T hnT, s1 h'' st'', fun c hcm => ?_⟩
    obtain ⟨oc, ec, _⟩ := obj i s.heap st c hcm
    have : c ≠ T := fun z => by
      subst z
      exact absurd (Nat.lt_of_lt_of_le (Heap.lt_size ec) hT) (Nat.lt_irrefl _)
    rw [upd_ne this]
    exact (hf c hcm).1
  done := by
    intro X hP hW hK hc i pins s σ H E I hf st hg
    obtain ⟨fp, n, Pt, Sx, Mid, W, s0, s1, hn, _⟩ := hw X hP hW hK hc i pins s σ H I st (.inr hg)
    have := hn hg
    subst this
    subst hP hW hK
    exact W.done s _ E s0 fun h' tk hk => ⟨rfl, I.turnedL (t' := tk) (ch := fp0) (fun c o hb q => hk _ _ (fun z => hb (sub _ z)) q) hf⟩
  self := self
/-- an iterator of a list or a tuple -/
def IsX (h : Heap) (t : Bool) (it a : Addr) (i : Nat) : Prop := if t then h.IsTupleIter it a i else h.IsListIter it a i
def OfX (h : Heap) (t : Bool) (a : Addr) (us : Array Value) : Prop := if t then h.IsTuple a us else h.IsList a us
def itX (t : Bool) (a : Addr) : Obj := { cls := .type (if t then "tuple_iterator" else "list_iterator"), data := .fields #[.ref a, .int 0 0] }
theorem begins_X (t : Bool) (a : Addr) (us : Array Value) : Begins (.ref a) (itX t a) fun h => OfX h t a us := by
  cases t
  · exact begins_list a us
  · exact begins_tuple a us
theorem draws_X {prog : Program} {w : World} {A : Around} (hh : A.handled = none) (t : Bool) (it a : Addr) (hne : a ≠ it) (us : Array Value) : Draws prog w A it [it, a] us.size (fun i v => us[i]? = some v) (fun i h => IsX h t it a i ∧ OfX h t a us) := by
  cases t
  · exact Draws.list hh it a hne us
  · exact Draws.tuple hh it a hne us
theorem isX_new {h : Heap} {t : Bool} {it a : Addr} (e : h.get? it = some (itX t a)) : IsX h t it a 0 := by
  cases t
  · exact ⟨_, e, rfl, rfl⟩
  · exact ⟨_, e, rfl, rfl⟩
theorem isX_obj {h : Heap} {t : Bool} {it a : Addr} {i : Nat} (e : IsX h t it a i) : ∃ o, h.get? it = some o ∧ ∀ v, o.data ≠ .cell v := by
  cases t
  · obtain ⟨o, e1, _, d⟩ := e
    exact ⟨o, e1, fun v q => by rw [d] at q; cases q⟩
  · obtain ⟨o, e1, _, d⟩ := e
    exact ⟨o, e1, fun v q => by rw [d] at q; cases q⟩
theorem isX_keep {h h' : Heap} {t : Bool} {it a : Addr} {i : Nat} (e : IsX h t it a i) (k : ∀ o, h.get? it = some o → h'.get? it = some o) : IsX h' t it a i := by
  cases t
  · exact Heap.IsListIter.at e k
  · exact Heap.IsTupleIter.at e k
theorem sqX_get {X : Cx} {pins : List (Addr × Obj)} {σ : L2.St} {H : Hp} {s : Shared} {t : Bool} {a : Addr} {xs : List V} (I : Inv X pins σ H s) (h : SqX X.K H t a xs) : ∃ us : List Value, Vals xs us ∧ OfX s.heap t a us.toArray := by
  cases t
  · obtain ⟨its, r, p, _⟩ := I.list h
    exact ⟨its, r, p.isList⟩
  · obtain ⟨its, r, p, _⟩ := I.tuple h
    exact ⟨its, r, p⟩
theorem ofX_lt {h : Heap} {t : Bool} {a : Addr} {us : Array Value} (e : OfX h t a us) : a < h.objs.size := by
  cases t
  · obtain ⟨o, e1, _⟩ := e
    exact Heap.lt_size e1
  · obtain ⟨o, e1, _⟩ := e
    exact Heap.lt_size e1
def Itz2 (K : PySem.W.Frag) (t1 : Bool) (a : Addr) (xs : List V) (t2 : Bool) (b : Addr) (ys : List V) : It :=
  ⟨fun i H => (SqX K H t1 a xs ∧ SqX K H t2 b ys) ∧ i < min xs.length ys.length,
    fun i H v H' => ∃ T x y, v = .ref T ∧ H T = none ∧ H' = upd H T (.tup [x, y]) ∧ xs[i]? = some x ∧ ys[i]? = some y,
    fun i H => (SqX K H t1 a xs ∧ SqX K H t2 b ys) ∧ i = min xs.length ys.length⟩
theorem val_at {xs : List V} {us : List Value} {i : Nat} {v : Value} (r : Vals xs us) (h : us.toArray[i]? = some v) : ∃ x, xs[i]? = some x ∧ RelV x v := by
  have h : us[i]? = some v := by simpa using h
  cases e : xs[i]? with
  | none =>
    rw [r.none_of e] at h
    cases h
  | some x =>
    obtain ⟨u, hu, ru⟩ := r.get e
    rw [h] at hu
    cases hu
    exact ⟨x, rfl, ru⟩
theorem turn_zip2 {P : Program} {w : World} {K : PySem.W.Frag} {elts : List Expr} {kk : Nat} {tpos : Pos} {t1 t2 : Bool} {a b : Addr} {xs ys : List V} {N : Nat} (ha : a < N) (hb : b < N) :
    Turn P w K (.Tuple elts kk tpos) (Itz2 K t1 a xs t2 b ys) [N + 4, N + 2, N + 3, N, N + 1] (N + 4)
      (fun i h => IsZip h (N + 4) (N + 2) (N + 3) .none ∧ IsTupOf2 h (N + 2) (.ref N) (.ref (N + 1)) ∧ (∃ a1 a2, IsTupOf2 h (N + 3) a1 a2) ∧ IsX h t1 N a i ∧ IsX h t2 (N + 1) b i) := by
  refine turnW (wr := [N + 4, N + 3, N, N + 1]) (by simp) (fun b hb => by
    simp only [List.mem_cons, List.not_mem_nil, or_false] at hb ⊢
    rcases hb with h | h | h | h <;> simp [h]) (fun i h st c hc => ?_) (fun i h h' st k => ?_) (fun A i s Q E st h => wpAny_pyIter_zip st.1 h) ?_
  · obtain ⟨hz, hTI, ⟨x, y, hTO⟩, i1, i2⟩ := st
    have e' : c = N + 4 ∨ c = N + 2 ∨ c = N + 3 ∨ c = N ∨ c = N + 1 := by simpa using hc
    rcases e' with q | q | q | q | q
    · rw [q]; exact ⟨_, hz, fun v q => nomatch q⟩
    · rw [q]; exact ⟨_, hTI, fun v q => nomatch q⟩
    · rw [q]; exact ⟨_, hTO, fun v q => nomatch q⟩
    · rw [q]; exact isX_obj i1
    · rw [q]; exact isX_obj i2
  · obtain ⟨hz, hTI, ⟨x, y, hTO⟩, h1, h2⟩ := st
    exact ⟨k _ (by simp) _ hz, k _ (by simp) _ hTI, ⟨x, y, k _ (by simp) _ hTO⟩, isX_keep h1 fun o q => k _ (by simp) o q, isX_keep h2 fun o q => k _ (by simp) o q⟩
  · intro X hP hW hK hc i pins s σ H I st hg
    subst hP hW hK
    have hcon : SqX X.K H t1 a xs ∧ SqX X.K H t2 b ys := by
      rcases hg with hg | hg
      · exact hg.1
      · exact hg.1
    obtain ⟨us1, r1, o1⟩ := sqX_get I hcon.1
    obtain ⟨us2, r2, o2⟩ := sqX_get I hcon.2
    have D1 := draws_X (prog := X.prog) (w := X.w) (A := X.A.in1) (I.ok.hd hc) t1 N a (Nat.ne_of_lt ha) us1.toArray
    have D2 := draws_X (prog := X.prog) (w := X.w) (A := X.A.in1) (I.ok.hd hc) t2 (N + 1) b (Nat.ne_of_lt (Nat.lt_succ_of_lt hb)) us2.toArray
    have S := zip_sep2 (N := N) (fp1 := [a]) (fp2 := [b]) (by simpa using ha) (by simpa using hb)
    have l1 := r1.length
    have l2 := r2.length
    refine ⟨_, _, _, _, _, WalksT.zipD2 S D1 D2, ⟨st.1, st.2.1, st.2.2.1, ⟨st.2.2.2.1, o1⟩, ⟨st.2.2.2.2, o2⟩⟩, fun h' z => ⟨z.1, z.2.1, z.2.2.1, z.2.2.2.1.1, z.2.2.2.2.1⟩, fun z => ?_, fun z => ⟨?_, fun vals hp => ?_⟩⟩
    · rw [List.size_toArray, List.size_toArray, ← l1, ← l2]
      exact z.2
    · rw [List.size_toArray, List.size_toArray, ← l1, ← l2]
      exact z.2
    · obtain ⟨x1, x2, p1, p2, rfl⟩ := hp
      obtain ⟨x, e1, rx⟩ := val_at r1 p1
      obtain ⟨y, e2, ry⟩ := val_at r2 p2
      exact ⟨by show 2 ≤ 3; omega, [x, y], .cons rx (.cons ry .nil), fun T hT => ⟨T, x, y, rfl, hT, rfl, e1, e2⟩⟩
def iZip2 (K : PySem.W.Frag) (ta : TA) : TI := fun σ H R => ta σ H fun vs H1 => ∃ a b t1 t2 xs ys, vs = [.ref a, .ref b] ∧ SqX K H1 t1 a xs ∧ SqX K H1 t2 b ys ∧ R (Itz2 K t1 a xs t2 b ys) H1
theorem pi_zip2 {X : Cx} {e e2 : Expr} {ta : TA} {p pos tpos : Pos} {elts : List Expr} {kk : Nat} (hg : Gl X "zip") (hm : X.mg "zip" = none) (ha : PA X [e, e2] ta)
    (hs : starEach [e, e2] X.env = (false, eval e X.env) :: starEach [e2] X.env := by rfl) (hpl : (backTo pos (starEach [e2] X.env)).any (·.1) = false := by rfl) :
    PI X (.Tuple elts kk tpos) (.Call (.Name "zip" p) [e, e2] [] pos) (iZip2 X.K ta) := by
  refine ⟨fun pins s σ H R I h => ?_⟩
  refine Call_ (ld_blt I hg hm PyProof.Rows.boot_zip (PyProof.Rows.callWith_type1 (thn (ha.run pos pins s σ H _ I h) fun us s1 ⟨vs, H1, I1, r1, q1⟩ => ?_) hs hpl))
  obtain ⟨a, b, t1, t2, xs, ys, ex, qx, qy, q⟩ := q1
  subst ex
  cases r1 with
  | cons r rr =>
    cases rr with
    | cons r' rr =>
      cases rr
      cases r
      cases r'
      obtain ⟨us1, v1, o1⟩ := sqX_get I1 qx
      obtain ⟨us2, v2, o2⟩ := sqX_get I1 qy
      refine zip_begins2 (begins_X t1 a us1.toArray) (begins_X t2 b us2.toArray) o1 o2 fun h' hz hTI hTO h1 h2 hsz hk => wpAny_pyIter_zip hz ?_
      have I2 : Inv X pins σ H1 { s1 with heap := h' } := I1.kept (t' := s1.toks) hk
      refine ⟨s1.heap.objs.size + 4, _, _, _, H1, rfl, I2, turn_zip2 (N := s1.heap.objs.size) (ofX_lt o1) (ofX_lt o2), ⟨hz, hTI, ⟨_, _, hTO⟩, isX_new h1, isX_new h2⟩, fun c hcm => ?_, q⟩
      have hle : s1.heap.objs.size ≤ c := by
        have e' : c = s1.heap.objs.size + 4 ∨ c = s1.heap.objs.size + 2 ∨ c = s1.heap.objs.size + 3 ∨ c = s1.heap.objs.size ∨ c = s1.heap.objs.size + 1 := by simpa using hcm
        rcases e' with z | z | z | z | z <;> rw [z]
        · exact Nat.le_add_right _ _
        · exact Nat.le_add_right _ _
        · exact Nat.le_add_right _ _
        · exact Nat.le_refl _
        · exact Nat.le_add_right _ _
      exact I1.fpOk hle (I1.hok.fresh hle)
def Itz3 (K : PySem.W.Frag) (a : Addr) (xs : List V) (b : Addr) (ys : List V) (c : Addr) (zs : List V) : It :=
  ⟨fun i H => (SqX K H true a xs ∧ SqX K H true b ys ∧ SqX K H true c zs) ∧ i < min (min xs.length ys.length) zs.length,
    fun i H v H' => ∃ T x y z, v = .ref T ∧ H T = none ∧ H' = upd H T (.tup [x, y, z]) ∧ xs[i]? = some x ∧ ys[i]? = some y ∧ zs[i]? = some z,
    fun i H => (SqX K H true a xs ∧ SqX K H true b ys ∧ SqX K H true c zs) ∧ i = min (min xs.length ys.length) zs.length⟩
theorem turn_zip3 {P : Program} {w : World} {K : PySem.W.Frag} {elts : List Expr} {kk : Nat} {tpos : Pos} {a b c : Addr} {xs ys zs : List V} {N : Nat} (ha : a < N) (hb : b < N) (hc : c < N) :
    Turn P w K (.Tuple elts kk tpos) (Itz3 K a xs b ys c zs) [N + 5, N + 3, N + 4, N, N + 1, N + 2] (N + 5)
      (fun i h => IsZip h (N + 5) (N + 3) (N + 4) .none ∧ IsTupOf3 h (N + 3) (.ref N) (.ref (N + 1)) (.ref (N + 2)) ∧ (∃ a1 a2 a3, IsTupOf3 h (N + 4) a1 a2 a3) ∧ IsX h true N a i ∧ IsX h true (N + 1) b i ∧ IsX h true (N + 2) c i) := by
  refine turnW (wr := [N + 5, N + 4, N, N + 1, N + 2]) (by simp) (fun b hb => by
    simp only [List.mem_cons, List.not_mem_nil, or_false] at hb ⊢
    rcases hb with h | h | h | h | h <;> simp [h]) (fun i h st d hd => ?_) (fun i h h' st k => ?_) (fun A i s Q E st h => wpAny_pyIter_zip st.1 h) ?_
  · obtain ⟨hz, hTI, ⟨x, y, z, hTO⟩, i1, i2, i3⟩ := st
    have e' : d = N + 5 ∨ d = N + 3 ∨ d = N + 4 ∨ d = N ∨ d = N + 1 ∨ d = N + 2 := by simpa using hd
    rcases e' with q | q | q | q | q | q
    · rw [q]; exact ⟨_, hz, fun v q => nomatch q⟩
    · rw [q]; exact ⟨_, hTI, fun v q => nomatch q⟩
    · rw [q]; exact ⟨_, hTO, fun v q => nomatch q⟩
    · rw [q]; exact isX_obj i1
    · rw [q]; exact isX_obj i2
    · rw [q]; exact isX_obj i3
  · obtain ⟨hz, hTI, ⟨x, y, z, hTO⟩, h1, h2, h3⟩ := st
    exact ⟨k _ (by simp) _ hz, k _ (by simp) _ hTI, ⟨x, y, z, k _ (by simp) _ hTO⟩, isX_keep h1 fun o q => k _ (by simp) o q, isX_keep h2 fun o q => k _ (by simp) o q, isX_keep h3 fun o q => k _ (by simp) o q⟩
  · intro X hP hW hK hcalm i pins s σ H I st hg
    subst hP hW hK
    have hcon : SqX X.K H true a xs ∧ SqX X.K H true b ys ∧ SqX X.K H true c zs := by
      rcases hg with hg | hg
      · exact hg.1
      · exact hg.1
    obtain ⟨us1, r1, o1⟩ := sqX_get I hcon.1
    obtain ⟨us2, r2, o2⟩ := sqX_get I hcon.2.1
    obtain ⟨us3, r3, o3⟩ := sqX_get I hcon.2.2
    have D1 := draws_X (prog := X.prog) (w := X.w) (A := X.A.in1) (I.ok.hd hcalm) true N a (Nat.ne_of_lt ha) us1.toArray
    have D2 := draws_X (prog := X.prog) (w := X.w) (A := X.A.in1) (I.ok.hd hcalm) true (N + 1) b (Nat.ne_of_lt (Nat.lt_succ_of_lt hb)) us2.toArray
    have D3 := draws_X (prog := X.prog) (w := X.w) (A := X.A.in1) (I.ok.hd hcalm) true (N + 2) c (Nat.ne_of_lt (Nat.lt_of_lt_of_le hc (Nat.le_add_right _ _))) us3.toArray
    have S := zip_sep3 (N := N) (fp1 := [a]) (fp2 := [b]) (fp3 := [c]) (by simpa using ha) (by simpa using hb) (by simpa using hc)
    have l1 := r1.length
    have l2 := r2.length
    have l3 := r3.length
    refine ⟨_, _, _, _, _, WalksT.zipD3 S D1 D2 D3, ⟨st.1, st.2.1, st.2.2.1, ⟨st.2.2.2.1, o1⟩, ⟨st.2.2.2.2.1, o2⟩, ⟨st.2.2.2.2.2, o3⟩⟩, fun h' z => ⟨z.1, z.2.1, z.2.2.1, z.2.2.2.1.1, z.2.2.2.2.1.1, z.2.2.2.2.2.1⟩, fun z => ?_, fun z => ⟨?_, fun vals hp => ?_⟩⟩
    · rw [List.size_toArray, List.size_toArray, List.size_toArray, ← l1, ← l2, ← l3]
      exact z.2
    · rw [List.size_toArray, List.size_toArray, List.size_toArray, ← l1, ← l2, ← l3]
      exact z.2
    · obtain ⟨x1, x2, x3, p1, p2, p3, rfl⟩ := hp
      obtain ⟨x, e1, rx⟩ := val_at r1 p1
      obtain ⟨y, e2, ry⟩ := val_at r2 p2
      obtain ⟨z, e3, rz⟩ := val_at r3 p3
      exact ⟨Nat.le_refl 3, [x, y, z], .cons rx (.cons ry (.cons rz .nil)), fun T hT => ⟨T, x, y, z, rfl, hT, rfl, e1, e2, e3⟩⟩
def iZip3 (K : PySem.W.Frag) (ta : TA) : TI := fun σ H R => ta σ H fun vs H1 => ∃ a b c xs ys zs, vs = [.ref a, .ref b, .ref c] ∧ SqX K H1 true a xs ∧ SqX K H1 true b ys ∧ SqX K H1 true c zs ∧ R (Itz3 K a xs b ys c zs) H1
theorem pi_zip3 {X : Cx} {e e2 e3 : Expr} {ta : TA} {p pos tpos : Pos} {elts : List Expr} {kk : Nat} (hg : Gl X "zip") (hm : X.mg "zip" = none) (ha : PA X [e, e2, e3] ta)
    (hs : starEach [e, e2, e3] X.env = (false, eval e X.env) :: starEach [e2, e3] X.env := by rfl) (hpl : (backTo pos (starEach [e2, e3] X.env)).any (·.1) = false := by rfl) :
    PI X (.Tuple elts kk tpos) (.Call (.Name "zip" p) [e, e2, e3] [] pos) (iZip3 X.K ta) := by
  refine ⟨fun pins s σ H R I h => ?_⟩
  refine Call_ (ld_blt I hg hm PyProof.Rows.boot_zip (PyProof.Rows.callWith_type1 (thn (ha.run pos pins s σ H _ I h) fun us s1 ⟨vs, H1, I1, r1, q1⟩ => ?_) hs hpl))
  obtain ⟨a, b, c, xs, ys, zs, ex, qx, qy, qz, q⟩ := q1
  subst ex
  cases r1 with
  | cons r rr =>
    cases rr with
    | cons r' rr =>
      cases rr with
      | cons r'' rr =>
        cases rr
        cases r
        cases r'
        cases r''
        obtain ⟨us1, v1, o1⟩ := sqX_get I1 qx
        obtain ⟨us2, v2, o2⟩ := sqX_get I1 qy
        obtain ⟨us3, v3, o3⟩ := sqX_get I1 qz
        refine zip_begins3 (begins_X true a us1.toArray) (begins_X true b us2.toArray) (begins_X true c us3.toArray) o1 o2 o3 fun h' hz hTI hTO h1 h2 h3 hsz hk => wpAny_pyIter_zip hz ?_
        have I2 : Inv X pins σ H1 { s1 with heap := h' } := I1.kept (t' := s1.toks) hk
        refine ⟨s1.heap.objs.size + 5, _, _, _, H1, rfl, I2, turn_zip3 (N := s1.heap.objs.size) (ofX_lt o1) (ofX_lt o2) (ofX_lt o3), ⟨hz, hTI, ⟨_, _, _, hTO⟩, isX_new h1, isX_new h2, isX_new h3⟩, fun d hdm => ?_, q⟩
        have hle : s1.heap.objs.size ≤ d := by
          have e' : d = s1.heap.objs.size + 5 ∨ d = s1.heap.objs.size + 3 ∨ d = s1.heap.objs.size + 4 ∨ d = s1.heap.objs.size ∨ d = s1.heap.objs.size + 1 ∨ d = s1.heap.objs.size + 2 := by simpa using hdm
          rcases e' with z | z | z | z | z | z <;> rw [z]
          · exact Nat.le_add_right _ _
          · exact Nat.le_add_right _ _
          · exact Nat.le_add_right _ _
          · exact Nat.le_refl _
          · exact Nat.le_add_right _ _
          · exact Nat.le_add_right _ _
        exact I1.fpOk hle (I1.hok.fresh hle)
end Q
namespace Q
open PySem PySem.Spec PyProof.Rows L2
section
variable {K : PySem.W.Frag} {ta : TA} {te to : TE} {t : TA} {es : List Sl} {M : List MO}
def SqG (K : PySem.W.Frag) (G : Hp) (t : Bool) (a : Addr) (xs : List V) : Prop := if t then TupG K G a xs else G a = some (.lst xs)
theorem SqG.up {G H : Hp} {t : Bool} {a : Addr} {xs : List V} (h : SqG K G t a xs) (e : Ex G H) : SqX K H t a xs := by
  cases t
  · exact .inl (.inl (e _ _ h))
  · exact e.tup h
/-- a list or a tuple's own reading -/
def seqD (t : Bool) (ds : List PyData) : PyData := if t then .tuple ds else .list ds
theorem At.seq {G : Hp} {t : Bool} {ds : List PyData} {v : V} (h : At K G (seqD t ds) v) : ∃ a vs, v = .ref a ∧ SqG K G t a vs ∧ AtL K G ds vs := by
  cases t
  · have h : At K G (.list ds) v := h
    cases h with
    | lst h1 h2 => exact ⟨_, _, rfl, h1, h2⟩
  · have h : At K G (.tuple ds) v := h
    cases h with
    | tup h1 h2 => exact ⟨_, _, rfl, h1, h2⟩
theorem evw_zip2 (t1 t2 : Bool) {ds ds' : List PyData} (h : EvAP K ta es M [seqD t1 ds, seqD t2 ds']) : EvW K (iZip2 K ta) es M (zipD ds ds') := fun G H as σ R S Q q => h G H as σ R S _ fun vs G1 H1 s1 a1 => by
  cases a1 with
  | cons x1 x2 =>
    cases x2 with
    | cons x3 x4 =>
      cases x4
      obtain ⟨a, xs, rfl, qa, la⟩ := x1.seq
      obtain ⟨b, ys, rfl, qb, lb⟩ := x3.seq
      have hl : (zipD ds ds').length = min xs.length ys.length := by rw [zipD, List.length_zipWith, la.length, lb.length]
      refine ⟨a, b, t1, t2, xs, ys, rfl, qa.up s1.gh, qb.up s1.gh, q _ G1 H1 s1 ⟨fun i H' e hi => ⟨⟨qa.up e, qb.up e⟩, by rw [← hl]; exact hi⟩, fun H' e => ⟨⟨qa.up e, qb.up e⟩, hl⟩, fun i G' H' x H'' e1 e2 hi y => ?_⟩⟩
      obtain ⟨T, x, y, rfl, hT, rfl, g1, g2⟩ := y
      obtain ⟨d, hd, ad⟩ := la.getV g1
      obtain ⟨d', hd', ad'⟩ := lb.getV g2
      exact ⟨_, _, by rw [zipD, List.getElem?_zipWith, hd, hd'], .new e2 hT, .tup (.inl upd_same) (.cons (ad.up (e1.trans (.new (e2.free hT)))) (.cons (ad'.up (e1.trans (.new (e2.free hT)))) .nil))⟩
def zipD3 (as bs cs : List PyData) : List PyData := List.zipWith (fun a b => .tuple (a :: b)) as (List.zipWith (fun a b => [a, b]) bs cs)
theorem evw_zip3 {d1 d2 d3 : List PyData} (h : EvAP K ta es M [.tuple d1, .tuple d2, .tuple d3]) : EvW K (iZip3 K ta) es M (zipD3 d1 d2 d3) := fun G H as σ R S Q q => h G H as σ R S _ fun vs G1 H1 s1 a1 => by
  cases a1 with
  | cons x1 x2 =>
    cases x2 with
    | cons x3 x4 =>
      cases x4 with
      | cons x5 x6 =>
        cases x6
        obtain ⟨a, xs, rfl, qa, la⟩ := At.seq (t := true) x1
        obtain ⟨b, ys, rfl, qb, lb⟩ := At.seq (t := true) x3
        obtain ⟨c, zs, rfl, qc, lc⟩ := At.seq (t := true) x5
        have hl : (zipD3 d1 d2 d3).length = min (min xs.length ys.length) zs.length := by rw [zipD3, List.length_zipWith, List.length_zipWith, la.length, lb.length, lc.length, Nat.min_assoc]
        refine ⟨a, b, c, xs, ys, zs, rfl, qa.up s1.gh, qb.up s1.gh, qc.up s1.gh, q _ G1 H1 s1 ⟨fun i H' e hi => ⟨⟨qa.up e, qb.up e, qc.up e⟩, by rw [← hl]; exact hi⟩, fun H' e => ⟨⟨qa.up e, qb.up e, qc.up e⟩, hl⟩, fun i G' H' x H'' e1 e2 hi y => ?_⟩⟩
        obtain ⟨T, x, y, z, rfl, hT, rfl, g1, g2, g3⟩ := y
        obtain ⟨d, hd, ad⟩ := la.getV g1
        obtain ⟨d', hd', ad'⟩ := lb.getV g2
        obtain ⟨d'', hd'', ad''⟩ := lc.getV g3
        have u := e1.trans (Ex.new (o := .tup [x, y, z]) (e2.free hT))
        exact ⟨_, _, by rw [zipD3, List.getElem?_zipWith, List.getElem?_zipWith, hd, hd', hd''], .new e2 hT, .tup (.inl upd_same) (.cons (ad.up u) (.cons (ad'.up u) (.cons (ad''.up u) .nil)))⟩
/-! ### t.count(i), t of ints, no dict of its own -/
def tTC (te : TE) (t : TA) : TE := fun σ H Q => te σ H fun x H1 => ∃ (a : Addr) (ob : Obj) (ns : List Int), x = .ref a ∧ H1 a = some (.frz ob (.tup (ns.map V.int))) ∧ ob.dict = none ∧ t σ H1 fun xs H2 => ∃ i, xs = [V.int i] ∧ H2 a = some (.frz ob (.tup (ns.map V.int))) ∧ Q (.int (ns.countP (· == i) : Nat)) H2
theorem count_eqU (i : Int) : ∀ {ns : List Int} {us : List Value}, Vals (ns.map V.int) us → us.countP (eqU (.int i)) = ns.countP (· == i)
  | [], _, h => by cases h; rfl
  | n :: ns, _, h => by
    cases h with
    | cons r t =>
      rw [List.countP_cons, List.countP_cons, count_eqU i t, eqU_of r rfl]
      have : eqV (.int n) (.int i) = (n == i) := rfl
      rw [this]
theorem pe_tcount {X : Cx} {o e : Expr} {apos cpos : Pos} (ho : PE X o to) (ha : PA X [e] t)
    (hbase : attributeBase o "count" X.env (eval o X.env) = eval o X.env := by rfl)
    (hfew : ((backTo cpos (starEach [e] X.env)).all (fun x => !x.1) && (backToKw cpos (keywordEach [] X.env)).all (fun x => x.1.isSome)
      && decide ([e].length + ([] : List Keyword).length + (if ([] : List Keyword).isEmpty then 0 else 1) < 30)) = true := by rfl)
    (hline : (apos.endLine == cpos.line) = true := by rfl) (hs : starEach [e] X.env = (false, eval e X.env) :: starEach [] X.env := by rfl) (hplain : (backTo cpos (starEach [] X.env)).any (·.1) = false := by rfl) :
    PE X (.Call (.Attribute o "count" apos) [e] [] cpos) (tTC to t) := by
  refine ⟨fun pins s σ H Q I h => ?_⟩
  refine wpAny_Call_method_late hbase hfew hline rfl (thn (ho.run pins s σ H _ I h) fun v s1 ⟨x, H1, I1, r1, a, ob, ns, ex, ha1, hd1, q1⟩ => ?_)
  subst ex
  cases r1
  have k1 := I1.hok a _ ha1
  obtain ⟨g1, hz1, us1, rv1, pl1⟩ := k1
  have hT : ob.cls = .type "tuple" := by
    obtain ⟨o', e1, e2, _⟩ := pl1
    rw [g1] at e1
    cases e1
    exact e2
  refine ⟨"tuple", "tuple.count", PySem.F.plainAttrs_tuple, PySem.F.slot_tuple_count, PySem.F.type_tuple_count, ⟨_, g1, hT⟩, fun b e => by cases e; exact ⟨_, g1, hd1⟩, ?_⟩
  have hA := ha.run cpos pins s1 σ H1 _ I1 q1
  rw [hs] at hA ⊢
  refine Calls.callWith_builtin (by show (false || (backTo cpos (starEach [] X.env)).any (·.1)) = false; rw [hplain] <;> rfl) (Calls.evalArgs_plain ?_)
  refine thn hA fun us s2 ⟨vs, H2, I2, r2, i, evs, ha2, q2⟩ => ?_
  subst evs
  cases r2 with
  | cons r2 t2 =>
    cases t2
    have k2 := I2.hok a _ ha2
    obtain ⟨g2, hz2, us2, rv2, pl2⟩ := k2
    obtain ⟨⟨cls, dd, data, sl⟩, ho', hc', n', hd'⟩ := id pl2
    simp only at hc' hd'
    subst hc' hd'
    refine call_meets PySem.F.slot_tuple_count ⟨_, ho', rfl⟩ PySem.F.entry_tuple_count (PySem.F.args_tuple_count_2 _ _) (SeqAt.tuple_countAt a us2.toArray n' dd sl _ (eqU (.int i))) ⟨ho', fun y hy => mem_eqAt r2 rfl rv2 (flat_ints ns) y (by simpa using hy), ?_⟩
    refine ⟨.int (ns.countP (· == i) : Nat), H2, I2.tok _, ⟨s2.toks, ?_⟩, q2⟩
    have : us2.toArray.toList = us2 := by simp
    rw [this, count_eqU i rv2]
end
end Q
end
section
set_option Elab.async false
set_option linter.all false
set_option maxRecDepth 100000
set_option maxHeartbeats 4000000
/-! Qg: tuples that are counted in, calls with them; ranges as values; sorted; dicts of rows; isinstance. -/
namespace Q
open PySem PySem.Spec PyProof.Rows L2
section
variable {K : PySem.W.Frag} {te to ta tb : TE} {tl : TO} {tr : TA} {es : List Sl} {M : List MO} {ns : List Int} {i : Int}
/-! ### plain tuples (Sl.p) -/
def EvQ (K : PySem.W.Frag) (te : TE) (es : List Sl) (M : List MO) (s : Sl) : Prop :=
  ∀ G H as σ, Rep K G H as M → SlotsAt K G as es σ → ∀ Q : VK, (∀ v G' H', StepP G H G' H' → SlAt K G' [] s (some v) → Q v H') → te σ H Q
def EvQA (K : PySem.W.Frag) (ta : TA) (es : List Sl) (M : List MO) (ss : List Sl) : Prop :=
  ∀ G H as σ, Rep K G H as M → SlotsAt K G as es σ → ∀ Q : List V → Hp → Prop, (∀ vs G' H', StepP G H G' H' → SlsAt K G' [] ss vs → Q vs H') → ta σ H Q
theorem evq_p {d : PyData} (h : EvP K te es M d) : EvQ K te es M (.d d) := fun G H as σ R S Q q => h G H as σ R S Q fun v G' H' s a => q v G' H' s ⟨v, rfl, a⟩
theorem evq_var {j : Nat} (h : es[j]? = some (.p ns)) : EvQ K (tVar j) es M (.p ns) := fun G H as σ R S Q q => by
  obtain ⟨o, e, a, ob, rfl, h2, h3⟩ := S.get h
  exact ⟨_, e, q _ G H (.refl R.ex) ⟨a, ob, rfl, h2, h3⟩⟩
theorem evq_sl2 {lo : Option Int} (h : EvP K te es M (.tuple (ns.map PyData.int))) (hl : EvO K tl es M lo) : EvQ K (tSl2 K te tl) es M (.p (stp ns (HT.sIx ns.length 0 lo))) := fun G H as σ R S Q q =>
  h G H as σ R S _ fun v G1 H1 s1 a1 => by
    cases a1 with
    | @tup a vs _ h1 l1 =>
      have z := l1.ints
      subst z
      refine hl G1 H1 as σ (R.stepP s1) (S.up0 s1.g) _ fun G2 H2 s2 => ⟨a, _, rfl, s2.gh.tup (s2.g.tupG h1), fun p ob hd hp => ?_⟩
      have e : stp (ns.map V.int) (HT.sIx (ns.map V.int).length 0 lo) = (stp ns (HT.sIx ns.length 0 lo)).map V.int := by
        rw [List.length_map]
        unfold stp
        rw [List.length_map, List.map_filterMap]
        congr 1
        funext m
        rw [List.getElem?_map]
      rw [e]
      exact q _ _ _ (s1.trans (s2.trans (.new s2.gh hp))) ⟨p, ob, rfl, upd_same, hd⟩
theorem evqa_nil : EvQA K tNil es M [] := fun G H as σ R S Q q => q [] G H (.refl R.ex) .nil
theorem evqa_cons {s : Sl} {ss : List Sl} (h : EvQ K te es M s) (hr : EvQA K tr es M ss) : EvQA K (tCons te tr) es M (s :: ss) := fun G H as σ R S Q q =>
  h G H as σ R S _ fun v G1 H1 s1 a1 => hr G1 H1 as σ (R.stepP s1) (S.up0 s1.g) _ fun vs G2 H2 s2 a2 => q (v :: vs) G2 H2 (s1.trans s2) (.cons (a1.up0 s2.g) a2)
theorem ev_q {s : Sl} {Φ : Sl → List MO → Prop} (hs : ∀ k, s ≠ .l k) (h : EvQ K te es M s) (kk : Φ s M) : Ev K te es M Φ := fun G H as σ R S Q q => h G H as σ R S Q fun v G' H' st a => q s M v G' H' as kk st.step (R.stepP st) (by
  cases s with
  | un => trivial
  | d d => exact a
  | p ns => exact a
  | s ns => exact a
  | l k => exact absurd rfl (hs k))
theorem SlAt.pInv {G : Hp} {as : List Addr} {v : V} (h : SlAt K G as (.p ns) (some v)) : ∃ a ob, v = .ref a ∧ G a = some (.frz ob (.tup (ns.map V.int))) ∧ ob.dict = none := by
  obtain ⟨a, ob, e, h2, h3⟩ := h
  cases e
  exact ⟨a, ob, rfl, h2, h3⟩
theorem evp_ixP {j : Nat} {n : Int} (ha : EvQ K ta es M (.p ns)) (hb : EvP K tb es M (.int i)) (hj : ixN ns.length i = some j) (h : ns[j]? = some n) : EvP K (tOp (rIx K) ta tb) es M (.int n) := fun G H as σ R S Q q =>
  ha G H as σ R S _ fun v G1 H1 s1 a1 => hb G1 H1 as σ (R.stepP s1) (S.up0 s1.g) _ fun u G2 H2 s2 a2 => by
    cases a2
    obtain ⟨a, ob, rfl, h2, _⟩ := a1.pInv
    exact .inr (.inl ⟨a, ns.map V.int, i, .int n, rfl, rfl, .inl (.inr ⟨ob, s2.gh _ _ (s2.g _ _ h2)⟩), atI_of (by rw [List.length_map]; exact hj) (by rw [List.getElem?_map, h]; rfl), q _ G2 H2 (s1.trans s2) (.int n)⟩)
theorem evp_lenP (h : EvQ K te es M (.p ns)) : EvP K (tCB (rLenX K) (tCons te tNil)) es M (.int ns.length) := fun G H as σ R S Q q =>
  h G H as σ R S _ fun v G1 H1 s1 a1 => by
    obtain ⟨a, ob, rfl, h2, _⟩ := a1.pInv
    exact ⟨_, ns.length, rfl, .inr ⟨ns.map V.int, .inl (.inr ⟨ob, s1.gh _ _ h2⟩), by rw [List.length_map]⟩, q _ G1 H1 s1 (.int _)⟩
theorem evw_P (h : EvQ K te es M (.p ns)) : EvW K (iSeqX K te) es M (ns.map PyData.int) := fun G H as σ R S Q q => h G H as σ R S _ fun v G1 H1 s1 a1 => by
  obtain ⟨a, ob, rfl, h2, _⟩ := a1.pInv
  have sq : ∀ H', Ex G1 H' → SqT K H' a (ns.map V.int) := fun H' e => .inl (.inr ⟨ob, e _ _ h2⟩)
  have l1 : (ns.map PyData.int).length = (ns.map V.int).length := by rw [List.length_map, List.length_map]
  refine ⟨a, rfl, .inr ⟨⟨_, sq H1 s1.gh⟩, q _ G1 H1 s1 ⟨fun i H' e hi => ?_, fun H' e => ?_, fun i G' H' x H'' e1 e2 hi y => ?_⟩⟩⟩
  · exact walk_tup.goes i H' (by rw [← l1]; exact hi) (sq H' e)
  · rw [l1]
    exact walk_tup.stops H' (sq H' e)
  · obtain ⟨e, z⟩ := walk_tup.yields i H' x H'' (by rw [← l1]; exact hi) (sq H' (e1.trans e2)) y
    subst e
    rw [List.getElem?_map] at z
    cases y2 : ns[i]? with
    | none => rw [y2] at z; cases z
    | some n =>
      rw [y2] at z
      have z : V.int n = x := Option.some.inj z
      subst z
      exact ⟨.int n, G', by rw [List.getElem?_map, y2]; rfl, .refl e2, .int n⟩
theorem evp_tcount (ho : EvQ K to es M (.p ns)) (ha : EvAP K tr es M [.int i]) : EvP K (tTC to tr) es M (.int (ns.countP (· == i) : Nat)) := fun G H as σ R S Q q =>
  ho G H as σ R S _ fun v G1 H1 s1 a1 => by
    obtain ⟨a, ob, rfl, h2, h3⟩ := a1.pInv
    refine ⟨a, ob, ns, rfl, s1.gh _ _ h2, h3, ha G1 H1 as σ (R.stepP s1) (S.up0 s1.g) _ fun vs G2 H2 s2 a2 => ?_⟩
    cases a2 with
    | cons x1 x2 =>
      cases x1
      cases x2
      exact ⟨i, rfl, s2.gh _ _ (s2.g _ _ h2), q _ G2 H2 (s1.trans s2) (.int _)⟩
/-- a promise of a pure def that may be given plain tuples -/
def spQ (K : PySem.W.Frag) (P : List Sl → PyData → Prop) : Sp := fun vs H Q _ => ∃ G ss d, Ex G H ∧ SlsAt K G [] ss vs ∧ P ss d ∧ ∀ v G' H', StepP G H G' H' → At K G' d v → Q v H'
theorem evp_callQ {P : List Sl → PyData → Prop} {E : XK} {ss : List Sl} {d : PyData} (h : EvQA K tr es M ss) (hp : P ss d) : EvP K (tCall (spQ K P) [] E tr) es M d := fun G H as σ R S Q q =>
  h G H as σ R S _ fun vs G1 H1 s1 a1 => by
    show spQ K P (vs ++ []) H1 Q E
    rw [List.append_nil]
    exact ⟨G1, ss, d, s1.gh, a1, hp, fun v G' H' s b => q v G' H' (s1.trans s) b⟩
theorem body_q {N : List Str} {P : List Sl → PyData → Prop} {t : TS} (hb : ∀ ss d, P ss d → ss.length ≤ N.length ∧ Sx K 0 t (ss ++ List.replicate (N.length - ss.length) .un) [] (fun o => match o with
    | .rt s _ => s = .d d
    | .nx _ _ => d = .none
    | _ => False)) (vs : List V) (H : Hp) (Q : VK) (E : XK) (h : spQ K P vs H Q E) : t { nx := fun _ H' => Q .non H', rt := Q } (L2.start N vs) H := by
  obtain ⟨G, ss, d, e, a, p, k⟩ := h
  obtain ⟨hl, hb⟩ := hb ss d p
  have R : Rep K G H [] [] := ⟨e, List.nodup_nil, rfl, fun k a m h1 _ => by simp at h1⟩
  have S := SlotsAt.begin (N := N) a hl
  refine hb [] G H rfl G H [] _ (.refl e) R S _ fun o G' H' as' po st g' => ?_
  have sp : StepP G H G' H' := ⟨st.g, fun b o hb => st.keep b o List.not_mem_nil hb, st.gh, st.fr⟩
  cases o with
  | rt s M =>
    intro v _ ha
    have po : s = .d d := po
    subst po
    obtain ⟨w, ew, aw⟩ := ha
    cases ew
    exact k _ G' H' sp aw
  | nx es M =>
    intro σ' _ _
    have po : d = .none := po
    subst po
    exact k .non G' H' sp .non
  | bk es M => exact po.elim
  | ct es M => exact po.elim
theorem spQ_len {P : List Sl → PyData → Prop} {n : Nat} (hn : ∀ ss d, P ss d → ss.length = n) (vs : List V) (H : Hp) (Q : VK) (E : XK) (h : spQ K P vs H Q E) : vs.length = n := by
  obtain ⟨G, ss, d, e, a, p, k⟩ := h
  rw [← Paired.length a]
  exact hn ss d p
/-- a global tuple of ints, read -/
theorem evq_const {a : Addr} {ns : List Int} (hb : EvP K tb es M (.int i)) (h : ∀ G, SqT K G a (ns.map V.int)) : EvP K (tOp (rIn K false) tb (tC (.ref a))) es M (.bool (decide (i ∈ ns))) := fun G H as σ R S Q q =>
  hb G H as σ R S _ fun v G1 H1 s1 a1 => by
    cases a1
    exact ⟨a, _, rfl, .inr (h H1), rfl, flat_ints ns, by rw [inV_ints]; exact q _ G1 H1 s1 (.bl _)⟩
end
/-! ### i not in range(a, b, c) -/
section
variable {X : Cx}
def IsRg (p : Addr) (a b c : Int) (h : Heap) : Prop := ∃ t u v, h.get? p = some { cls := .type "range", dict := none, data := .fields #[.int a t, .int b u, .int c v], slots := #[] }
theorem cr_range3X : CallR X (.type "range") (fun vs H Q => ∃ a b c, vs = [V.int a, V.int b, V.int c] ∧ c ≠ 0 ∧ c.natAbs < 1073741824 ∧ ∀ p, H p = none → Q (.ref p) (upd H p (.ext (IsRg p a b c)))) := by
  intro pins s σ H vs us Q I r h
  obtain ⟨a, b, c, rfl, c0, c1, q⟩ := h
  cases r with
  | cons r rr =>
    cases rr with
    | cons r' rr =>
      cases rr with
      | cons r'' rr =>
        cases rr
        obtain ⟨t, rfl⟩ := r
        obtain ⟨t', rfl⟩ := r'
        obtain ⟨t'', rfl⟩ := r''
        refine call_range_3 c0 ?_ (.inl (PyProof.noPylong_small c1))
        have h0 : (s.heap.push { cls := .type "range", data := .fields #[.int a t, .int b t', .int c t''] }).get? s.heap.objs.size = some { cls := .type "range", dict := none, data := .fields #[.int a t, .int b t', .int c t''], slots := #[] } := Heap.get?_push_size _ rfl
        refine ⟨.ref s.heap.objs.size, upd H s.heap.objs.size (.ext (IsRg s.heap.objs.size a b c)), I.laid (t' := s.toks) (fun b o e => Heap.get?_push_of_some _ e) (Nat.le_refl _) ?_, rfl, q _ (I.hok.fresh (Nat.le_refl _))⟩
        refine ⟨⟨t, t', t'', h0⟩, ⟨_, h0⟩, fun h1 h2 z k => ?_⟩
        obtain ⟨x, y, v, z⟩ := z
        exact ⟨x, y, v, k _ z⟩
theorem q_containsX (r : Addr) (a b c i : Int) (t u v k : Tok) :
    Meets (Builtin.«range.__contains__» ⟨[.ref r, .int i k], []⟩) (fun _ R s => s.heap.get? r = some { cls := .type "range", dict := none, data := .fields #[.int a t, .int b u, .int c v], slots := #[] } ∧ R (.ok (.ret (.bool (Builtin.Range.rangePlace? a b c i).isSome))) s) :=
  .of_wp fun prog w A R s h => by obtain ⟨hp, g, d, tk, os⟩ := s; obtain ⟨hl, h⟩ := h; wp_walk; exact ⟨_, rfl, h⟩
def rNotInRg : R2 := fun x y H Q => ∃ i p a b c, x = V.int i ∧ y = V.ref p ∧ H p = some (.ext (IsRg p a b c)) ∧ Q (.bl (!(Builtin.Range.rangePlace? a b c i).isSome)) H
theorem op_notInR : OpR X (compareOp .NotIn) rNotInRg := by
  intro pins s σ H x y v u Q I rx ry h
  obtain ⟨i, p, a, b, c, rfl, rfl, ha, q⟩ := h
  obtain ⟨k, rfl⟩ := rx
  obtain rfl : u = Value.ref p := ry
  obtain ⟨⟨t1, t2, t3, ho⟩, _⟩ := I.hok p _ ha
  show wpAny _ _ (do return Value.bool (!(← contains (Value.ref p) (Value.int i k)))) _ _ s
  refine wpAny_bind (wpAny_contains_slot (T := "range") ⟨_, ho, rfl⟩ F.slot_range_contains (call_meets F.slot_range_contains ⟨_, ho, rfl⟩ F.entry_range_contains (F.args_range_contains_2 _ _) (q_containsX p a b c i t1 t2 t3 k)
    ⟨ho, wpAny_truthy_bool (wpAny_pure ⟨.bl _, H, I, rfl, q⟩)⟩))
end
section
variable {K : PySem.W.Frag} {ta : TE} {tr : TA} {es : List Sl} {M : List MO} {i a b c : Int}
abbrev rRg3 : List V → Hp → VK → Prop := fun vs H Q => ∃ a b c, vs = [V.int a, V.int b, V.int c] ∧ c ≠ 0 ∧ c.natAbs < 1073741824 ∧ ∀ p, H p = none → Q (.ref p) (upd H p (.ext (IsRg p a b c)))
theorem evp_notInR (ha : EvP K ta es M (.int i)) (hr : EvAP K tr es M [.int a, .int b, .int c]) (h0 : c ≠ 0) (h1 : c.natAbs < 1073741824) : EvP K (tOp rNotInRg ta (tCB rRg3 tr)) es M (.bool (!(Builtin.Range.rangePlace? a b c i).isSome)) := fun G H as σ R S Q q =>
  ha G H as σ R S _ fun v G1 H1 s1 a1 => hr G1 H1 as σ (R.stepP s1) (S.up0 s1.g) _ fun vs G2 H2 s2 a2 => by
    cases a1
    cases a2 with
    | cons x1 x2 =>
      cases x1
      cases x2 with
      | cons x1 x2 =>
        cases x1
        cases x2 with
        | cons x1 x2 =>
          cases x1
          cases x2
          exact ⟨a, b, c, rfl, h0, h1, fun p hp => ⟨i, p, a, b, c, rfl, rfl, upd_same, q _ _ _ (s1.trans (s2.trans (.new s2.gh hp))) (.bl _)⟩⟩
end
end Q
end
section
set_option Elab.async false
set_option linter.all false
set_option maxRecDepth 100000
set_option maxHeartbeats 4000000
/-! Qh: sorted; dicts whose keys are rows. -/
namespace Q
open PySem PySem.Spec PyProof.Rows L2
open PySem.W (EachIs AllAlike Sortable dataLe)
/-! ### sorted -/
theorem vals_each {bs : List (V × PyData)} : ∀ {us : List Value}, EachIs (fun u b => RelV b.1 u) us bs → Vals (bs.map Prod.fst) us := by
  intro us h
  induction h with
  | nil => exact .nil
  | cons h _ ih => exact .cons h ih
abbrev rSorted (K : PySem.W.Frag) : List V → Hp → VK → Prop := fun vs H Q => ∃ p xs ds, vs = [.ref p] ∧ SqL K H p xs ∧ DpAll K H xs ds ∧ AllAlike ds ∧ Sortable ds ∧ (∀ d ∈ ds, d.depth ≤ 60) ∧ xs.length ≤ 1000000 ∧
  ∀ q, H q = none → Q (.ref q) (upd H q (.lst (((xs.zip ds).mergeSort (dataLe false Prod.snd)).map Prod.fst)))
section
variable {X : Cx}
theorem reads_each {pins : List (Addr × Obj)} {σ : L2.St} {H : Hp} {s : Shared} (I : Inv X pins σ H s) : ∀ {xs : List V} {ds : List PyData} {us : List Value}, DpAll X.K H xs ds → Vals xs us → EachIs (fun (v : Value) (b : V × PyData) => ∃ as, Reads s.heap v b.2 as) us (xs.zip ds)
  | [], _, _, h, r => by
    cases h
    cases r
    exact .nil
  | x :: xs, _, _, h, r => by
    cases h with
    | cons h1 h2 =>
      cases r with
      | cons r1 r2 => exact .cons (Dp.reads I _ _ _ h1 r1) (reads_each I h2 r2)
theorem zip_snd_all : ∀ {xs : List V} {ds : List PyData}, xs.length = ds.length → (xs.zip ds).map Prod.snd = ds
  | [], [], _ => rfl
  | x :: xs, d :: ds, h => by rw [List.zip_cons_cons, List.map_cons, zip_snd_all (by simpa using h)]
theorem dpAll_len {K : PySem.W.Frag} {H : Hp} : ∀ {xs : List V} {ds : List PyData}, DpAll K H xs ds → xs.length = ds.length
  | _, _, .nil => rfl
  | _, _, .cons _ t => congrArg (· + 1) (dpAll_len t)
theorem each_of_rel {us : List Value} : ∀ {xs : List V} {ds : List PyData} {us : List Value}, Vals xs us → xs.length = ds.length → EachIs (fun u (b : V × PyData) => RelV b.1 u) us (xs.zip ds)
  | [], _, _, h, _ => by cases h; exact .nil
  | x :: xs, [], _, h, hl => by simp at hl
  | x :: xs, d :: ds, _, h, hl => by
    cases h with
    | cons r t =>
      rw [List.zip_cons_cons]
      exact .cons r (each_of_rel (us := us) t (by simpa using hl))
theorem cr_sortedX (hu : X.A.units + 64 < cLine) : CallR X (.builtin "sorted") (rSorted X.K) := by
  intro pins s σ H vs us Q I r h
  obtain ⟨p, xs, ds, rfl, hq, hd, hal, hk, hdp, hz, q⟩ := h
  cases r with
  | cons r rr =>
    cases rr
    cases r
    obtain ⟨its, rv, pl, _⟩ := I.list hq
    have hl := dpAll_len hd
    have e2 : (xs.zip ds).map Prod.snd = ds := zip_snd_all hl
    refine PySem.W.sorted_data (bs := xs.zip ds) (enc := Prod.snd) (R := fun u b => RelV b.1 u) pl.isList (each_of_rel (us := its) rv hl) (reads_each I hd rv) (by rw [e2]; exact hal) (by rw [e2]; exact hk) (by
      rw [List.length_zip, ← hl, Nat.min_self, sizeLine_eq]
      omega) (fun b hb => ?_) fun out ho eo => ?_
    · have : b.2 ∈ ds := by
        rw [← e2]
        exact List.mem_map.mpr ⟨b, hb, rfl⟩
      have := hdp _ this
      omega
    · obtain ⟨ep, he'⟩ := PyProof.Rows.sortedAll_at s.heap its out.toArray
      refine ⟨.ref _, upd H (s.heap.objs.size + 1) (.lst (((xs.zip ds).mergeSort (dataLe false Prod.snd)).map Prod.fst)), I.laid (t' := s.toks) (fun _ _ => PyProof.Rows.sortedAll_old) (Nat.le_succ _) ⟨?_, out, ep, vals_each eo, he'⟩, rfl, q _ (I.hok.fresh (Nat.le_succ _))⟩
      rw [List.length_map, List.length_mergeSort, List.length_zip, ← hl, Nat.min_self, sizeLine_eq]
      omega
end
section
variable {K : PySem.W.Frag} {te td tb tv : TE} {es : List Sl} {M : List MO}
theorem at_zip {G : Hp} : ∀ {ds : List PyData} {vs : List V}, AtL K G ds vs → ∀ b ∈ vs.zip ds, At K G b.2 b.1
  | _, _, .nil => fun b hb => by simp at hb
  | _, _, .cons h t => fun b hb => by
    rw [List.zip_cons_cons] at hb
    rcases List.mem_cons.mp hb with e | hb
    · subst e
      exact h
    · exact at_zip t b hb
theorem at_ofPairs {G : Hp} : ∀ {bs : List (V × PyData)}, (∀ b ∈ bs, At K G b.2 b.1) → AtL K G (bs.map Prod.snd) (bs.map Prod.fst)
  | [], _ => .nil
  | b :: bs, h => .cons (h b (List.mem_cons_self ..)) (at_ofPairs fun b hb => h b (List.mem_cons_of_mem _ hb))
/-- the items of a list in their order -/
def srt (ds : List PyData) : List PyData := ds.mergeSort (dataLe false id)
theorem evn_sorted {ds : List PyData} (h : EvS K te es M ds) (ha : AllAlike ds) (hk : Sortable ds) (hd : ∀ d ∈ ds, d.depth ≤ 60) (hz : ds.length ≤ 1000000) : EvN K (tCB (rSorted K) (tCons te tNil)) es M (.lst (srt ds)) := fun G H as σ R S Q q =>
  h G H as σ R S _ fun a vs G1 H1 s1 h1 l1 => by
    have hl := l1.length
    refine ⟨a, vs, ds, rfl, .inl (.inl h1), AtL.dp s1.gh _ _ l1, ha, hk, hd, by rw [← hl]; exact hz, fun p hp => ?_⟩
    have e : ((vs.zip ds).mergeSort (dataLe false Prod.snd)).map Prod.snd = srt ds := by
      unfold srt
      have z := List.map_mergeSort (r := dataLe false Prod.snd) (s := dataLe false id) (f := Prod.snd) (l := vs.zip ds) (fun a _ b _ => rfl)
      rw [z, zip_snd_all hl.symm]
    have hperm := List.mergeSort_perm (vs.zip ds) (dataLe false Prod.snd)
    have z : AtL K G1 (srt ds) (((vs.zip ds).mergeSort (dataLe false Prod.snd)).map Prod.fst) := by
      rw [← e]
      exact at_ofPairs fun b hb => at_zip l1 b (hperm.mem_iff.mp hb)
    have gp : G1 p = none := s1.gh.free hp
    refine q p G1 _ (s1.trans ⟨.refl _, .new hp, s1.gh.mut gp, fun _ _ z => z⟩) (s1.h.free hp) gp ⟨_, upd_same, z⟩
/-! ### {row: v} -/
def tDisp1 (tk tv : TE) : TE := fun σ H Q => ∀ p, H p = none → tk σ (upd H p (.dT [])) fun x H1 => tv σ H1 fun y H2 => ∃ b ks, H2 p = some (.dT []) ∧ x = .ref b ∧ H2 b = some (.tup (ks.map kV)) ∧ Q (.ref p) (upd H2 p (.dT [(ks, y)]))
theorem pe_disp1 {X : Cx} {k v : Expr} {pos : Pos} {tk tv : TE} (hu : X.A.units + 64 < cLine) (hk : PE X k tk) (hv : PE X v tv) : PE X (.Dict [some k] [v] pos) (tDisp1 tk tv) := by
  refine ⟨fun pins s σ H Q I h => ?_⟩
  have hn := I.hok.fresh (Nat.le_refl s.heap.objs.size)
  have I1 := I.laid (a := s.heap.objs.size) (o := .dT []) (h' := s.heap.push { cls := .type "dict", data := .dict #[] }) (t' := s.toks) (fun _ _ q => Heap.get?_push_of_some _ q) (Nat.le_refl _) (dt_empty s.heap I.big)
  have hP : PPs X pos [some k] [v] [(tk, tv)] := pps_cons hk hv pps_nil
  rw [arm_eval_Dict, zip_pairTrees [some k] [v] X.env pos rfl rfl, dictDisplay_pairs (pairTrees [some k] [v] X.env pos) (by intro z; cases z) (by show 1 < 17; omega)]
  refine wpAny_bind (wpAny_standAt (wpAny_bind (wpAny_subDictH (knd := tupleKind (mixKind X.prog X.w)) (by show X.A.units < cLine; omega) (by show 1 ≤ 15; omega) ?_)))
  have hr := hP.run pins _ σ _ (fun ps H2 => match ps with
    | [(x, y)] => ∃ b ks, H2 s.heap.objs.size = some (.dT []) ∧ x = .ref b ∧ H2 b = some (.tup (ks.map kV)) ∧ Q (.ref s.heap.objs.size) (upd H2 s.heap.objs.size (.dT [(ks, y)]))
    | _ => False) I1 (h s.heap.objs.size hn)
  refine thn hr fun ws s2 ⟨ps, H2, I2, rel, q⟩ => ?_
  cases rel with
  | nil => exact q.elim
  | @cons p0 q0 _ _ rel rr =>
    cases rr with
    | cons _ _ => exact q.elim
    | nil =>
      obtain ⟨x, y⟩ := p0
      obtain ⟨u1, u2⟩ := q0
      obtain ⟨b, ks, e0, ex, eb, q⟩ := q
      obtain ⟨r1, r2⟩ := rel
      rw [ex] at r1
      cases (show u1 = Value.ref b from r1)
      obtain ⟨z, hd, xs0, rel0, dd⟩ := dt_of I2.hok e0
      cases rel0
      refine ⟨[(ks, b, u2)], ⟨rfl, rfl, key_of I2.hok eb, trivial⟩, dd, fun h' tk dd' hs => wpAny_pure ⟨.ref s.heap.objs.size, _, ?_, rfl, q⟩⟩
      obtain ⟨o, es', ep, h1, h2, h3, h4, _, h5⟩ := dd'
      have hb : b ≠ s.heap.objs.size := ne_of eb e0 (fun z => nomatch z)
      exact d_write I2 (by rw [e0]; exact True.intro) hs ⟨o, h1⟩ ⟨by show 1 ≤ sizeLine; rw [sizeLine_eq]; omega, hd, [(ks, b, u2)], .cons ⟨rfl, by rw [upd_ne hb]; exact eb, r2⟩ .nil, o, es', ep, h1, h2, h3, h4, h5⟩
/-! ### dicts of rows, described -/
def rNotInT : R2 := fun y x H Q => ∃ a o, x = .ref a ∧ DGet H a y o ∧ Q (.bl (!o.isSome)) H
theorem op_notInT {X : Cx} (hu : X.A.units + 64 < cLine) : OpR X (compareOp .NotIn) rNotInT := by
  intro pins s σ H x y v u Q I rx ry h
  obtain ⟨a, o, rfl, g, q⟩ := h
  obtain rfl : u = Value.ref a := ry
  exact d_notIn (by omega) I g rx fun s3 I3 => ⟨.bl (!o.isSome), H, I3, rfl, q⟩
def lookD (kvs : List (List Int × PyData)) (k : List Int) : Option PyData := (kvs.find? fun kv => decide (kv.1 = k)).map (·.2)
abbrev PK2 (K : PySem.W.Frag) (G : Hp) (kvs : List (List Int × PyData)) (es : List (List Key × V)) : Prop := Paired (fun (p : List Int × PyData) (q : List Key × V) => q.1 = p.1.map Sum.inl ∧ At K G p.2 q.2) kvs es
theorem inl_inj {a b : List Int} (h : a.map (Sum.inl : Int → Key) = b.map Sum.inl) : a = b := by
  induction a generalizing b with
  | nil =>
    cases b with
    | nil => rfl
    | cons _ _ => simp at h
  | cons x xs ih =>
    cases b with
    | nil => simp at h
    | cons y ys =>
      simp only [List.map_cons, List.cons.injEq, Sum.inl.injEq] at h
      rw [h.1, ih h.2]
theorem look_pair {G : Hp} {kvs : List (List Int × PyData)} {es : List (List Key × V)} (h : PK2 K G kvs es) (k : List Int) :
    (lookD kvs k = none ∧ valV es (k.map Sum.inl) = none) ∨ ∃ d v, lookD kvs k = some d ∧ valV es (k.map Sum.inl) = some v ∧ At K G d v := by
  induction h with
  | nil => exact .inl ⟨rfl, rfl⟩
  | @cons p q ps qs h t ih =>
    by_cases e : p.1 = k
    · refine .inr ⟨p.2, q.2, ?_, ?_, h.2⟩
      · simp [lookD, List.find?_cons, e]
      · rw [valV_pos (by rw [h.1, e])]
    · have e' : ¬ q.1 = k.map Sum.inl := fun z => e (inl_inj (by rw [← h.1, z]))
      have e1 : lookD (p :: ps) k = lookD ps k := by simp [lookD, List.find?_cons, e]
      rw [e1, valV_neg e']
      exact ih
theorem put_new {G : Hp} {kvs : List (List Int × PyData)} {es : List (List Key × V)} (h : PK2 K G kvs es) {k : List Int} {d : PyData} {v : V} (hn : lookD kvs k = none) (a : At K G d v) : PK2 K G (kvs ++ [(k, d)]) (putK es (k.map Sum.inl) v) := by
  have e : (es.any fun kv => decide (kv.1 = k.map Sum.inl)) = false := by
    rw [valV_any]
    rcases look_pair h k with ⟨_, z⟩ | ⟨d, v, z, _⟩
    · rw [z]
      rfl
    · rw [hn] at z
      cases z
  unfold putK
  rw [e]
  exact Paired.snoc h ⟨rfl, a⟩
theorem pk2_len {G : Hp} {kvs : List (List Int × PyData)} {es : List (List Key × V)} (h : PK2 K G kvs es) : kvs.length = es.length := Paired.length h
/-- a key -/
theorem key_tup {G : Hp} {ns : List Int} {v : V} (h : At K G (.tuple (ns.map PyData.int)) v) (hl : ns.length ≠ 2) : ∃ b, v = .ref b ∧ G b = some (.tup ((ns.map (Sum.inl : Int → Key)).map kV)) := by
  cases h with
  | @tup a vs _ h1 l1 =>
    have z := l1.ints
    subst z
    rcases h1 with h1 | ⟨e, _⟩
    · refine ⟨a, rfl, ?_⟩
      rw [h1, List.map_map]
      rfl
    · rw [List.length_map] at e
      exact absurd e hl
theorem evp_dget {i k : Nat} {kvs : List (List Int × PyData)} {ns : List Int} {d : PyData} (hx : es[i]? = some (.l k)) (hm : M[k]? = some (.dct kvs)) (hk : EvP K te es M (.tuple (ns.map PyData.int))) (hl : ns.length ≠ 2) (hd : lookD kvs ns = some d) :
    EvP K (tDGet (tVar i) te) es M d := fun G H as σ R S Q q => by
  obtain ⟨o, eo, a, ha, rfl⟩ := S.get hx
  refine ⟨_, eo, hk G H as σ R S _ fun v G1 H1 s1 a1 => ?_⟩
  obtain ⟨_, vs, h1, h2⟩ := (R.stepP s1).at_ k a _ ha hm
  obtain ⟨b, rfl, hb⟩ := key_tup a1 hl
  rcases look_pair h2 ns with ⟨z, _⟩ | ⟨d', v', z, zv, av⟩
  · rw [hd] at z
    cases z
  · rw [hd] at z
    cases z
    exact ⟨a, v', rfl, by rw [← zv]; exact DGet.t h1 (s1.gh _ _ hb), q _ G1 H1 s1 av⟩
theorem evp_notInDct {i k : Nat} {kvs : List (List Int × PyData)} {ns : List Int} (hk : EvP K te es M (.tuple (ns.map PyData.int))) (hl : ns.length ≠ 2) (hx : es[i]? = some (.l k)) (hm : M[k]? = some (.dct kvs)) :
    EvP K (tOp rNotInT te (tVar i)) es M (.bool (!(lookD kvs ns).isSome)) := fun G H as σ R S Q q =>
  hk G H as σ R S _ fun v G1 H1 s1 a1 => by
    obtain ⟨o, eo, a, ha, rfl⟩ := S.get hx
    refine ⟨_, eo, ?_⟩
    obtain ⟨_, vs, h1, h2⟩ := (R.stepP s1).at_ k a _ ha hm
    obtain ⟨b, rfl, hb⟩ := key_tup a1 hl
    refine ⟨a, valV vs (ns.map Sum.inl), rfl, DGet.t h1 (s1.gh _ _ hb), ?_⟩
    rcases look_pair h2 ns with ⟨z, zv⟩ | ⟨d', v', z, zv, av⟩
    · rw [zv]
      rw [z] at q
      exact q _ G1 H1 s1 (.bl _)
    · rw [zv]
      rw [z] at q
      exact q _ G1 H1 s1 (.bl _)
theorem evn_disp1 {ns : List Int} {d : PyData} (hk : EvP K te es M (.tuple (ns.map PyData.int))) (hl : ns.length ≠ 2) (hv : EvP K tv es M d) : EvN K (tDisp1 te tv) es M (.dct [(ns, d)]) := fun G H as σ R S Q q p hp => by
  have gp : G p = none := R.ex.free hp
  have s0 : StepP G H G (upd H p (.dT [])) := ⟨.refl _, .new hp, R.ex.mut gp, fun _ _ z => z⟩
  refine hk G _ as σ (R.stepP s0) S _ fun v G1 H1 s1 a1 => hv G1 H1 as σ ((R.stepP s0).stepP s1) (S.up0 s1.g) _ fun y G2 H2 s2 a2 => ?_
  obtain ⟨b, rfl, hb⟩ := key_tup a1 hl
  have h2 : H2 p = some (.dT []) := s2.h _ _ (s1.h _ _ upd_same)
  have g2 : G2 p = none := s2.fr p (by rw [s1.h _ _ (upd_same (H := H))]; exact fun z => nomatch z) (s1.fr p (by rw [upd_same]; exact fun z => nomatch z) gp)
  refine ⟨b, ns.map Sum.inl, h2, rfl, s2.gh _ _ (s2.g _ _ hb), ?_⟩
  have st : StepP G H G2 (upd H2 p (.dT [(ns.map Sum.inl, y)])) := by
    have sa := (s0.trans s1).trans s2
    refine ⟨sa.g, fun c o hc => ?_, sa.gh.mut g2, fun c h0 h1 => sa.fr c h0 h1⟩
    have : c ≠ p := fun z => by
      rw [z, hp] at hc
      cases hc
    rw [upd_ne this]
    exact sa.h c o hc
  exact q p G2 _ st hp g2 ⟨_, upd_same, .cons ⟨rfl, a2⟩ .nil⟩
theorem s_dput {n0 i k : Nat} {kvs : List (List Int × PyData)} {ns : List Int} {d : PyData} {Φ : Out → Prop} (hv : EvP K tv es M d) (hx : es[i]? = some (.l k)) (hm : M[k]? = some (.dct kvs)) (hk : EvP K te es M (.tuple (ns.map PyData.int))) (hl : ns.length ≠ 2)
    (hn : lookD kvs ns = none) (hz : kvs.length < 1000000) (p : Φ (.nx es (M.set k (.dct (kvs ++ [(ns, d)]))))) : Sx K n0 (sDPut (tVar i) te tv) es M Φ := fun as0 G0 H0 e G H as σ s R S D q =>
  hv G H as σ R S _ fun v G1 H1 s1 a1 => by
    obtain ⟨o, eo, a, ha, rfl⟩ := S.get hx
    refine ⟨_, eo, hk G1 H1 as σ (R.stepP s1) (S.up0 s1.g) _ fun y G2 H2 s2 a2 => ?_⟩
    have R2 := (R.stepP s1).stepP s2
    obtain ⟨ga, vs, h1, h2⟩ := R2.at_ k a _ ha hm
    obtain ⟨b, rfl, hb⟩ := key_tup a2 hl
    have l2 := pk2_len h2
    obtain ⟨R3, s3⟩ := R2.put (o := .dT (putK vs (ns.map Sum.inl) v)) (m := .dct (kvs ++ [(ns, d)])) ha ⟨_, upd_same, put_new h2 hn (a1.up s2.g)⟩
    exact ⟨a, _, rfl, DPut.t h1 (s2.gh _ _ hb) (by rw [← l2, sizeLine_eq]; omega), q _ G2 _ as p ((s.trans (s1.trans s2).step).trans s3) (s1.g.trans s2.g) σ R3 (S.up0 (s1.g.trans s2.g))⟩
theorem q_dput {n0 i k : Nat} {kvs : List (List Int × PyData)} {ns : List Int} {d : PyData} {Φ : Out → Prop} {tz : TS} (hv : EvP K tv es M d) (hx : es[i]? = some (.l k)) (hm : M[k]? = some (.dct kvs)) (hk : EvP K te es M (.tuple (ns.map PyData.int))) (hl : ns.length ≠ 2)
    (hn : lookD kvs ns = none) (hz : kvs.length < 1000000) (p : Sx K n0 tz es (M.set k (.dct (kvs ++ [(ns, d)]))) Φ) : Sx K n0 (tSeq (sDPut (tVar i) te tv) tz) es M Φ :=
  sx_seq (Ψ := fun o => o = .nx es (M.set k (.dct (kvs ++ [(ns, d)])))) (s_dput hv hx hm hk hl hn hz rfl) fun o e => by subst e; exact p
end
end Q
end
section
set_option Elab.async false
set_option linter.all false
set_option maxRecDepth 100000
set_option maxHeartbeats 4000000
/-! Qi: callees, defs with defaults. -/
namespace Q
open PySem PySem.Spec PyProof.Rows L2
section
variable {P : Program} {w : World} {K : PySem.W.Frag} {mg : Str → Option Value} {base : Heap}
/-- what a caller needs of a def of the module -/
def Callee (P : Program) (w : World) (K : PySem.W.Frag) (mg : Str → Option Value) (base : Heap) (x : Str) (k : Nat) (ps : List Str) (sp : Sp) : Prop :=
  ∃ f fd, FnOk P w K mg base L2.CX0 k f fd ps sp ∧ mg x = some (.ref f) ∧ PySem.W.keepIn K (.ref f) = true ∧ Binds K fd ps []
theorem pe_callC {X : Cx} {x : Str} {k j : Nat} {ps : List Str} {sp : Sp} {p pos : Pos} {e : Expr} {es : List Expr} {t : TA} (C : Callee X.prog X.w X.K X.mg X.base x k ps sp) (hr : Room j X.A) (hk : k ≤ j) (hg : Gl X x) (ha : PA X (e :: es) t)
    (hdb : (x == ("__debug__" : Str)) = false := by decide) (he : starEach (e :: es) X.env = (false, eval e X.env) :: starEach es X.env := by rfl) (hpl : (backTo pos (starEach es X.env)).any (·.1) = false := by rfl) :
    PE X (.Call (.Name x p) (e :: es) [] pos) (tCall sp [] L2.E0 t) := by
  obtain ⟨f, fd, F, m, kp, b⟩ := C
  exact pe_call F (hr.mono hk) hg m kp b .nil L2.pass0 ha hdb he hpl
/-- a def with defaults -/
structure FunV (K : PySem.W.Frag) (x qual : Str) (st : Stmt) (f : Addr) (fd : FuncData) : Prop where
  ex : ∃ (oc : Value) (od : Option Addr) (dV kV doc pm : Value) (an : Option Addr) (cdv ct : Value) (osl : Array (Option Value)),
    fd = PySem.W.fnOf x qual (defArgs st) (defBody st) (defScope st) dV kV doc pm an cdv ct ∧ K.lookup f = some ⟨oc, od, .func fd, osl⟩ ∧ PySem.W.codeIn K cdv qual = true
  kp : PySem.W.keepIn K (.ref f) = true
theorem FunV.ok {x qual : Str} {st : Stmt} {f : Addr} {fd : FuncData} {N ps : List Str} {k : Nat} {sp : Sp} (F : FunV K x qual st f fd) (S : FnScope N ps (defScope st)) (len : ∀ vs H Q E, sp vs H Q E → vs.length = ps.length)
    (hbody : ∀ (cdv : Value) (A : Around) (outer : List Env) (s : Shared) (H : Hp) (vs : List V) (Q : VK) (E : XK), Room k (A.deeper (envOfC qual (defScope st) s.heap.objs.size f cdv)) → sp vs H Q E →
      ∃ t, PSs (cxOf L2.CX0 P w K mg base N qual (defScope st) f cdv A outer s H E).nox (defBody st) t ∧ t { nx := fun _ H' => Q .non H', rt := Q } (start N vs) H) : FnOk P w K mg base L2.CX0 (k + 1) f fd ps sp := by
  obtain ⟨oc, od, dV, kV, doc, pm, an, cdv, ct, osl, rfl, lk, hcd⟩ := F.ex
  refine fn_of lk hcd S len fun A outer s H vs Q E hr hsp => ?_
  obtain ⟨t, h, q⟩ := hbody cdv A outer s H vs Q E hr hsp
  exact ⟨t, h.nox, q⟩
theorem FunV.binds {x qual : Str} {st : Stmt} {f : Addr} {fd : FuncData} {ps : List Str} (F : FunV K x qual st f fd)
    (h : ∀ (dV kV doc pm : Value) (an : Option Addr) (cdv ct : Value) (us : List Value), us.length = ps.length → bindArgs (PySem.W.fnOf x qual (defArgs st) (defBody st) (defScope st) dV kV doc pm an cdv ct) ⟨us, []⟩ = pure (ps.zip us)) : Binds K fd ps [] := by
  obtain ⟨oc, od, dV, kV, doc, pm, an, cdv, ct, osl, rfl, lk, hcd⟩ := F.ex
  exact .all (h dV kV doc pm an cdv ct)
theorem funV_mk {x qual : Str} {st : Stmt} {f : Addr} {oc : Value} {od an : Option Addr} {osl : Array (Option Value)} {dV kV doc pm cdv ct : Value} (l : K.lookup f = some ⟨oc, od, .func (PySem.W.fnOf x qual (defArgs st) (defBody st) (defScope st) dV kV doc pm an cdv ct), osl⟩)
    (c : PySem.W.codeIn K cdv qual = true) (k : PySem.W.keepIn K (.ref f) = true) : FunV K x qual st f (PySem.W.fnOf x qual (defArgs st) (defBody st) (defScope st) dV kV doc pm an cdv ct) := ⟨⟨oc, od, dV, kV, doc, pm, an, cdv, ct, osl, rfl, l, c⟩, k⟩
end
end Q
namespace Q
open PySem PySem.Spec PyProof.Rows L2
section
variable {K : PySem.W.Frag} {te : TE} {es : List Sl} {M : List MO}
theorem kit_ib : PySem.W.kitOne K (.type "int") (.type "bool") = some false := by kernel_rfl
theorem kit_ii : PySem.W.kitOne K (.type "int") (.type "int") = some true := by kernel_rfl
theorem kit_tt : PySem.W.kitOne K (.type "tuple") (.type "tuple") = some true := by kernel_rfl
theorem kit_tl : PySem.W.kitAny K (.type "tuple") [.type "list", .type "tuple"] = some true := by kernel_rfl
theorem kit_ll : PySem.W.kitAny K (.type "list") [.type "list", .type "tuple"] = some true := by kernel_rfl
theorem kit_il : PySem.W.kitAny K (.type "int") [.type "list", .type "tuple"] = some false := by kernel_rfl
theorem kit_sl : PySem.W.kitAny K (.type "str") [.type "list", .type "tuple"] = some false := by kernel_rfl
/-- the types of data -/
def tyD : PyData → String
  | .none => "NoneType" | .bool _ => "bool" | .int _ => "int" | .str _ => "str" | .list _ => "list" | .tuple _ => "tuple" | .dict _ => "dict"
theorem tyX_sqT {H : Hp} {a : Addr} {xs : List V} (h : SqT K H a xs) : TyX K H (.ref a) (.type "tuple") := by
  rcases h with (h | ⟨o, h⟩) | ⟨o, its, n, h1, h2, _⟩
  · exact .base (.tup h)
  · exact .fTuple h
  · exact .kTuple h1 h2
theorem tyX_at {G H : Hp} {d : PyData} {v : V} (e : Ex G H) (h : At K G d v) : TyX K H v (.type (tyD d)) := by
  cases h with
  | non => exact .base .non
  | bl b => exact .base (.bl b)
  | int i => exact .base (.int i)
  | str x => exact .base (.str x)
  | lst h1 h2 => exact .base (.lst (e _ _ h1))
  | tup h1 h2 => exact tyX_sqT (e.tup h1)
theorem evp_isi {d : PyData} {n : String} {b : Bool} (h : EvP K te es M d) (hk : PySem.W.kitOne K (.type (tyD d)) (.type n) = some b) : EvP K (tCB (rIsi K) (tCons te (tCons (tC (.ty n)) tNil))) es M (.bool b) := fun G H as σ R S Q q =>
  h G H as σ R S _ fun v G1 H1 s1 a1 => ⟨v, .ty n, .type (tyD d), .type n, b, rfl, .ty n, tyX_at s1.gh a1, hk, q _ G1 H1 s1 (.bl b)⟩
theorem evp_isiT {d : PyData} {n m : String} {b : Bool} (h : EvP K te es M d) (hk : PySem.W.kitAny K (.type (tyD d)) [.type n, .type m] = some b) :
    EvP K (tCB (rIsiT K) (tCons te (tCons (tTup (tCons (tC (.ty n)) (tCons (tC (.ty m)) tNil))) tNil))) es M (.bool b) := fun G H as σ R S Q q =>
  h G H as σ R S _ fun v G1 H1 s1 a1 => ⟨by show 2 ≤ sizeLine; rw [sizeLine_eq]; omega, fun p hp => ⟨v, p, [.ty n, .ty m], .type (tyD d), [.type n, .type m], b, rfl, upd_same, .cons (.ty n) (.cons (.ty m) .nil), tyX_at (s1.gh.trans (.new hp)) a1, hk, q _ G1 _ (s1.trans ⟨.refl _, .new hp, s1.gh.mut (s1.gh.free hp), fun _ _ z => z⟩) (.bl b)⟩⟩
section
variable {n0 : Nat} {Φ : Out → Prop} {tz : TS} {d : PyData}
theorem s_exprX (h : Ev K te es M fun _ M' => Φ (.nx es M')) : Sx K n0 (tDrop te) es M Φ := fun as0 G0 H0 e G H as σ s R S D q =>
  h G H as σ R S _ fun s' M' v G' H' as' p st R' a => q _ G' H' as' p (s.trans st) st.g σ R' (S.step st)
theorem q_exprX (h : Ev K te es M fun _ M' => Sx K n0 tz es M' Φ) : Sx K n0 (tSeq (tDrop te) tz) es M Φ :=
  sx_seq (Ψ := fun o => ∃ M', o = .nx es M' ∧ Sx K n0 tz es M' Φ) (s_exprX (ev_mono h fun s M' p => ⟨M', rfl, p⟩)) fun o ⟨M', e, p⟩ => by subst e; exact p
theorem q_expr (h : EvP K te es M d) (p : Sx K n0 tz es M Φ) : Sx K n0 (tSeq (tDrop te) tz) es M Φ := q_exprX (ev_p h p)
theorem s_expr (h : EvP K te es M d) (p : Φ (.nx es M)) : Sx K n0 (tDrop te) es M Φ := s_exprX (ev_p h p)
end
end
end Q
end
section
set_option Elab.async false
set_option linter.all false
set_option maxRecDepth 100000
set_option maxHeartbeats 4000000
/-! Qj: enumerate over a list or a tuple. -/
namespace Q
open PySem PySem.Spec PyProof.Rows L2
theorem meets_enum1 {v : Value} {o : Obj} {H : Heap → Prop} (B : Begins v o H) :
    Meets (Builtin.«enumerate.__new__» ⟨[.type "enumerate", v], []⟩) (fun _ R s => H s.heap ∧
      R (.ok (.ret (.ref (s.heap.push o).objs.size))) { s with heap := (s.heap.push o).push { cls := .type "enumerate", data := .fields #[.none, .bool false, .ref s.heap.objs.size, rawInt 0, .none, .none] } }) :=
  .of_wp fun prog w A R s h => by
    obtain ⟨hp, g, d, tk, os⟩ := s; obtain ⟨h1, h⟩ := h
    have hsub := sub_enumerate
    have q1 : ∀ {A' : Around} {E : Value → Shared → Prop} {Q : Value → Shared → Prop}, Q (.ref hp.objs.size) ⟨hp.push o, g, d, tk, os⟩ → wpAny (model prog w) A' (pyIter v) Q E ⟨hp, g, d, tk, os⟩ :=
      fun q => B.iter prog w _ _ ⟨hp, g, d, tk, os⟩ _ h1 q
    wp_walk using q1
    refine wpAny_stack_any fun st => wpAny_pure ?_
    split
    · rename_i c _ _ _ _ _
      cases (c == Value.type "enumerate")
      · wp_walk using q1
        exact ⟨_, rfl, h⟩
      · wp_walk using q1
        exact ⟨_, rfl, h⟩
    · wp_walk using q1
      exact ⟨_, rfl, h⟩
theorem enum_begins1 {prog : Program} {w : World} {A : Around} {E : Value → Shared → Prop} {s : Shared} {v : Value} {o : Obj} {H : Heap → Prop} {Q : Value → Shared → Prop} (B : Begins v o H) (h1 : H s.heap)
    (h : ∀ h', IsEnum h' (s.heap.objs.size + 1) s.heap.objs.size 0 .none → h'.get? s.heap.objs.size = some o → (∀ b o, s.heap.get? b = some o → h'.get? b = some o) → Q (.ref (s.heap.objs.size + 1)) { s with heap := h' }) :
    wpAny (model prog w) A (call (.type "enumerate") [v]) Q E s := by
  refine callType_new F.called_enumerate (by decide) (F.typeCall_enumerate_1 _) (F.newCall_enumerate_1 _) (fun obj => F.args_object_init_2 obj _) F.entry_enumerate_new (meets_enum1 B) ⟨h1, ?_⟩
  have hz : (s.heap.push o).objs.size = s.heap.objs.size + 1 := Heap.size_push ..
  show _ ∧ _
  rw [hz]
  have he : IsEnum ((s.heap.push o).push { cls := .type "enumerate", data := .fields #[.none, .bool false, .ref s.heap.objs.size, rawInt 0, .none, .none] }) (s.heap.objs.size + 1) s.heap.objs.size 0 .none := by
    have := Heap.get?_push_size (s.heap.push o) (o := { cls := .type "enumerate", data := .fields #[.none, .bool false, .ref s.heap.objs.size, rawInt 0, .none, .none] }) rfl
    rw [hz] at this
    exact this
  exact ⟨⟨_, he, rfl⟩, h _ he (Heap.get?_push_of_some _ (Heap.get?_push_size _ B.free)) fun b o x => Heap.get?_push_of_some _ (Heap.get?_push_of_some _ x)⟩
def ItEn (K : PySem.W.Frag) (t : Bool) (a : Addr) (xs : List V) : It :=
  ⟨fun i H => SqX K H t a xs ∧ i < xs.length, fun i H v H' => ∃ T x, v = .ref T ∧ H T = none ∧ H' = upd H T (.tup [.int (i : Nat), x]) ∧ xs[i]? = some x, fun i H => SqX K H t a xs ∧ i = xs.length⟩
theorem turn_enumX {P : Program} {w : World} {K : PySem.W.Frag} {elts : List Expr} {kk : Nat} {tpos : Pos} {t : Bool} {a : Addr} {xs : List V} {N : Nat} (ha : a < N) :
    Turn P w K (.Tuple elts kk tpos) (ItEn K t a xs) [N + 1, N] (N + 1) (fun i h => (∃ old, IsEnum h (N + 1) N ((0 : Int) + (i : Int)) old) ∧ IsX h t N a i) := by
  refine turnW (wr := [N + 1, N]) (by simp) (fun b hb => hb) (fun i h st c hc => ?_) (fun i h h' st k => ?_) (fun A i s Q E st h => by obtain ⟨⟨old, e⟩, _⟩ := st; exact wpAny_pyIter_enum e h) ?_
  · obtain ⟨⟨old, e⟩, i1⟩ := st
    have e' : c = N + 1 ∨ c = N := by simpa using hc
    rcases e' with q | q
    · rw [q]; exact ⟨_, e, fun v q => nomatch q⟩
    · rw [q]; exact isX_obj i1
  · obtain ⟨⟨old, e⟩, i1⟩ := st
    exact ⟨⟨old, k _ (by simp) _ e⟩, isX_keep i1 fun o q => k _ (by simp) o q⟩
  · intro X hP hW hK hc i pins s σ H I st hg
    subst hP hW hK
    have hcon : SqX X.K H t a xs := by
      rcases hg with hg | hg
      · exact hg.1
      · exact hg.1
    obtain ⟨us1, r1, o1⟩ := sqX_get I hcon
    have D1 := draws_X (prog := X.prog) (w := X.w) (A := X.A.in1) (I.ok.hd hc) t N a (Nat.ne_of_lt ha) us1.toArray
    have l1 := r1.length
    have hne : (N + 1 : Nat) ≠ N := Nat.succ_ne_self N
    refine ⟨_, _, _, _, _, WalksT.enumFrom 0 D1 (N + 1) hne (fun hm => ?_) (List.mem_cons_self ..), ⟨st.1, st.2, o1⟩, fun h' z => ⟨z.1, z.2.1⟩, fun z => ?_, fun z => ⟨?_, fun vals hp => ?_⟩⟩
    · rcases List.mem_cons.mp hm with e | hm
      · exact hne e
      · have : (N + 1 : Nat) = a := by simpa using hm
        exact absurd ha (by rw [← this]; exact Nat.not_lt.mpr (Nat.le_succ N))
    · rw [List.size_toArray, ← l1]
      exact z.2
    · rw [List.size_toArray, ← l1]
      exact z.2
    · obtain ⟨tk, x1, p1, rfl⟩ := hp
      obtain ⟨x, e1, rx⟩ := val_at r1 p1
      exact ⟨by show 2 ≤ 3; omega, [.int (i : Nat), x], .cons ⟨tk, by rw [Int.zero_add]⟩ (.cons rx .nil), fun T hT => ⟨T, x, rfl, hT, rfl, e1⟩⟩
def iEnX (K : PySem.W.Frag) (ta : TA) : TI := fun σ H R => ta σ H fun vs H1 => ∃ a t xs, vs = [.ref a] ∧ SqX K H1 t a xs ∧ R (ItEn K t a xs) H1
theorem pi_enumX {X : Cx} {e : Expr} {ta : TA} {p pos tpos : Pos} {elts : List Expr} {kk : Nat} (hg : Gl X "enumerate") (hm : X.mg "enumerate" = none) (ha : PA X [e] ta) (hs : starEach [e] X.env = [(false, eval e X.env)] := by rfl) :
    PI X (.Tuple elts kk tpos) (.Call (.Name "enumerate" p) [e] [] pos) (iEnX X.K ta) := by
  refine ⟨fun pins s σ H R I h => ?_⟩
  refine Call_ (ld_blt I hg hm boot_enumerate (PyProof.Rows.callWith_type1 (thn (ha.run pos pins s σ H _ I h) fun us s1 ⟨vs, H1, I1, r1, q1⟩ => ?_) hs rfl))
  obtain ⟨a, t, xs, ex, qx, q⟩ := q1
  subst ex
  cases r1 with
  | cons r rr =>
    cases rr
    cases r
    obtain ⟨us1, v1, o1⟩ := sqX_get I1 qx
    refine enum_begins1 (begins_X t a us1.toArray) o1 fun h' he h1 hk => wpAny_pyIter_enum he ?_
    have I2 : Inv X pins σ H1 { s1 with heap := h' } := I1.kept (t' := s1.toks) hk
    refine ⟨s1.heap.objs.size + 1, _, _, _, H1, rfl, I2, turn_enumX (N := s1.heap.objs.size) (ofX_lt o1), ⟨⟨_, he⟩, isX_new h1⟩, fun c hcm => ?_, q⟩
    have hle : s1.heap.objs.size ≤ c := by
      have e' : c = s1.heap.objs.size + 1 ∨ c = s1.heap.objs.size := by simpa using hcm
      rcases e' with z | z <;> rw [z]
      · exact Nat.le_add_right _ _
      · exact Nat.le_refl _
    exact I1.fpOk hle (I1.hok.fresh hle)
section
variable {K : PySem.W.Frag} {ta : TA} {es : List Sl} {M : List MO}
theorem evw_enX {t : Bool} {ds : List PyData} (h : EvAP K ta es M [seqD t ds]) : EvW K (iEnX K ta) es M (enumD ds) := fun G H as σ R S Q q => h G H as σ R S _ fun vs G1 H1 s1 a1 => by
  cases a1 with
  | cons x1 x2 =>
    cases x2
    obtain ⟨a, xs, rfl, qa, la⟩ := x1.seq
    have hl : (enumD ds).length = xs.length := by rw [enumD, List.length_mapIdx, la.length]
    refine ⟨a, t, xs, rfl, qa.up s1.gh, q _ G1 H1 s1 ⟨fun i H' e hi => ⟨qa.up e, by rw [← hl]; exact hi⟩, fun H' e => ⟨qa.up e, hl⟩, fun i G' H' x H'' e1 e2 hi y => ?_⟩⟩
    obtain ⟨T, x, rfl, hT, rfl, g1⟩ := y
    obtain ⟨d, hd, ad⟩ := la.getV g1
    exact ⟨_, _, by rw [enumD, List.getElem?_mapIdx, hd]; rfl, .new e2 hT, .tup (.inl upd_same) (.cons (.int _) (.cons (ad.up (e1.trans (.new (e2.free hT)))) .nil))⟩
/-- two own objects, the other way round -/
def swpL : Sl → Sl
  | .l 0 => .l 1
  | .l 1 => .l 0
  | s => s
theorem sx_swap {t : TS} {m1 m2 : MO} {Φ : Out → Prop} (p1 : m1.plain = true) (p2 : m2.plain = true) (h : Sx K 0 t (es.map swpL) [m2, m1] Φ) : Sx K 0 t es [m1, m2] Φ := fun as0 G0 H0 e G H as σ s R S D q => by
  have e0 : as0 = [] := List.length_eq_zero_iff.mp e
  subst e0
  match as, R.len with
  | [x, y], _ =>
    obtain ⟨new, en, fn⟩ := s.more
    have en : [x, y] = new := en
    subst en
    obtain ⟨z1, w1⟩ := R.at_ 0 x m1 rfl rfl
    obtain ⟨z2, w2⟩ := R.at_ 1 y m2 rfl rfl
    have pl : ∀ (m : MO) (a : Addr), m.plain = true → MAt K G H [x, y] a m → MAt K G H [y, x] a m := fun m a hp w => by
      cases m with
      | lst ds => exact w
      | dct kvs => exact w
      | ins C fs => exact absurd hp Bool.false_ne_true
    have nd := R.nd
    refine h [] G0 H0 rfl G H [y, x] σ ⟨s.g, s.keep, s.gh, s.fr, s.live, [y, x], rfl, fun b hb => fn b (by
      have : b = y ∨ b = x := by simpa using hb
      rcases this with e | e <;> simp [e])⟩ ⟨R.ex, ?_, rfl, fun k a m h1 h2 => ?_⟩ ⟨by rw [List.length_map]; exact S.len, fun i s' o h1 h2 => ?_⟩ D q
    · have hxy : x ≠ y := by
        have := (List.nodup_cons.mp nd).1
        intro z
        exact this (by rw [z]; exact List.mem_singleton.mpr rfl)
      exact List.nodup_cons.mpr ⟨fun z => hxy (List.mem_singleton.mp z).symm, List.nodup_cons.mpr ⟨List.not_mem_nil, List.nodup_nil⟩⟩
    · match k with
      | 0 =>
        cases h1
        cases h2
        exact ⟨z2, pl _ _ p2 w2⟩
      | 1 =>
        cases h1
        cases h2
        exact ⟨z1, pl _ _ p1 w1⟩
      | k + 2 => cases h1
    · rw [List.getElem?_map] at h1
      cases z : es[i]? with
      | none => rw [z] at h1; cases h1
      | some e1 =>
        rw [z] at h1
        have h1 : swpL e1 = s' := Option.some.inj h1
        subst h1
        have w := S.at_ i e1 o z h2
        match e1, w with
        | .un, _ => trivial
        | .d d, w => exact w
        | .p ns, w => exact w
        | .s ns, w => exact w
        | .l 0, ⟨a, ha, eo⟩ => exact ⟨a, ha, eo⟩
        | .l 1, ⟨a, ha, eo⟩ => exact ⟨a, ha, eo⟩
        | .l (k + 2), ⟨a, ha, eo⟩ => cases ha
/-! the script: a list that is known, its part -/
theorem evn_slSc {tl th : TO} {ns : List Int} {i : Nat} {lo hi : Option Int} (hx : es[i]? = some (.s ns)) (hl : EvO K tl es M lo) (hh : EvO K th es M hi) : EvN K (tSl (rSlX K) (tVar i) tl th) es M (.lst ((cutD ns lo hi).map PyData.int)) := fun G H as σ R S Q q => by
  obtain ⟨o, eo, a, ea, h1⟩ := S.get hx
  subst ea
  refine ⟨_, eo, hl G H as σ R S _ fun G2 H2 s2 => hh G2 H2 as σ (R.stepP s2) (S.up0 s2.g) _ fun G3 H3 s3 => .inl ⟨a, ns.map V.int, rfl, s3.gh.sqL (s3.g.sqL (s2.g.sqL h1)), ?_⟩⟩
  have e : cutD (ns.map V.int) lo hi = (cutD ns lo hi).map V.int := by
    unfold cutD
    rw [List.length_map, List.map_take, List.map_drop]
  have z : AtL K G3 ((cutD ns lo hi).map PyData.int) ((cutD ns lo hi).map V.int) := .ofInts _
  rw [← e] at z
  exact fin_new s3.gh z fun c G' H' s hc gc mc => q c G' H' ((s2.trans s3).trans s) ((s2.trans s3).h.free hc) gc mc
/-- an int of which something is known -/
theorem q_asgE {n0 i : Nat} {te : TE} {tz : TS} {Φ : Out → Prop} {Pz : Int → Prop} (h : ∃ z, EvP K te es M (.int z) ∧ Pz z) (k : ∀ z, Pz z → Sx K n0 tz (es.set i (.d (.int z))) M Φ) : Sx K n0 (tSeq (tAsg te (gName i)) tz) es M Φ := by
  obtain ⟨z, h, p⟩ := h
  exact q_asg h (k z p)
/-- an index that changes own objects on the way -/
theorem ev_ixE {tb te : TE} {ds : List PyData} {Φ : Sl → List MO → Prop} (ha : EvP K te es M (.list ds)) (hb : Ev K tb es M fun s M' => ∃ (v : Nat) (d : PyData), s = .d (.int v) ∧ ds[v]? = some d ∧ Φ (.d d) M') : Ev K (tOp (rIx K) te tb) es M Φ := fun G H as σ R S Q q =>
  ha G H as σ R S _ fun x G1 H1 s1 a1 => hb G1 H1 as σ (R.stepP s1) (S.up0 s1.g) _ fun s M' w G2 H2 as2 ⟨n, d, e, hd, p⟩ st R2 a2 => by
    subst e
    obtain ⟨w', ew, aw⟩ := a2
    cases ew
    cases aw
    cases a1 with
    | @lst a vs _ h1 l1 =>
      obtain ⟨v, hv, av⟩ := l1.get hd
      have hlt := (List.getElem?_eq_some_iff.mp hv).1
      exact .inl ⟨a, vs, n, v, rfl, rfl, .inl (.inl (R2.ex _ _ (st.g _ _ h1))), atI_of (j := n) (by unfold ixN; rw [if_pos (by omega), if_pos (by omega), Int.toNat_natCast]) hv, q (.d d) M' v G2 H2 as2 p (s1.step.trans st) R2 ⟨v, rfl, av.up st.g⟩⟩
/-- what an expression has made as its last own list, as data from here on -/
theorem ev_frz {te : TE} {Φ : Sl → List MO → Prop} (h : Ev K te es M fun s M' => ∃ M1 ds, s = .l M1.length ∧ M' = M1 ++ [.lst ds] ∧ M.length ≤ M1.length ∧ M1.all (MO.low M1.length) = true ∧ Φ (.d (.list ds)) M1) : Ev K te es M Φ := fun G H as σ R S Q q =>
  h G H as σ R S _ fun s M' v G' H' as' ⟨M1, ds, e1, e2, hn, hp, p⟩ st R' a => by
    subst e1 e2
    obtain ⟨bs, a0, rfl, hl⟩ := split_last R'.len
    have sa : (bs ++ [a0])[M1.length]? = some a0 := by rw [← hl]; simp
    obtain ⟨ga, vs, h1, l1⟩ := R'.at_ M1.length a0 (.lst ds) sa (by simp)
    have gn : Ex G' (upd G' a0 (.lst vs)) := .new ga
    have hn0 : as.length ≤ bs.length := by rw [R.len, hl]; exact hn
    have h0 := st.lastNew hn0
    have sc := st.cut hn0
    have Rc := R'.cut hl hp
    have nab : a0 ∉ bs := fun z => by
      have nd := R'.nd
      rw [List.nodup_append] at nd
      exact nd.2.2 a0 z a0 (List.mem_singleton.mpr rfl) rfl
    have gh : Ex (upd G' a0 (.lst vs)) H' := fun b o hb => by
      by_cases z : b = a0
      · subst z
        rw [upd_same] at hb
        cases hb
        exact h1
      · rw [upd_ne z] at hb
        exact st.gh b o hb
    obtain ⟨b, hb, eb⟩ := a
    rw [sa] at hb
    cases hb
    cases eb
    refine q (.d (.list ds)) M1 _ (upd G' a0 (.lst vs)) H' bs p ⟨sc.g.trans gn, sc.keep, gh, fun b y1 y2 => ?_, sc.live, sc.more⟩ ⟨gh, Rc.nd, Rc.len, fun k b m' y1 y2 => ?_⟩ ⟨_, rfl, .lst upd_same (l1.up gn)⟩
    · rw [upd_ne fun z => y1 (by rw [z]; exact h0)]
      exact sc.fr b y1 y2
    · obtain ⟨z, w⟩ := Rc.at_ k b m' y1 y2
      refine ⟨?_, ?_⟩
      · rw [upd_ne fun z' => nab (by rw [← z']; exact List.mem_of_getElem? y1)]
        exact z
      · have := w.up (more := []) gn (H1 := H') fun u hu => hu
        rwa [List.append_nil] at this
end
end Q
end
section
set_option Elab.async false
set_option linter.all false
set_option maxRecDepth 100000
set_option maxHeartbeats 4000000
/-! Wa: the checks. -/
namespace Q
open PySem PySem.Spec PyProof.Rows L2
def topS (i : Nat) : Stmt := PySem.Challenge.pw_ropesays_k85_whole_games_told_and_fewest.main.body.getD i (.Pass ⟨0, 0, 0, 0⟩)
/-- what the top has written that the defs read -/
structure Txt (K : PySem.W.Frag) (mg : Str → Option Value) (aC : Addr) (t1 t2 t3 t4 : Tok) : Prop where
  len : mg "len" = none
  range : mg "range" = none
  tuple : mg "tuple" = none
  list : mg "list" = none
  int : mg "int" = none
  bool : mg "bool" = none
  abs : mg "abs" = none
  max : mg "max" = none
  any : mg "any" = none
  all : mg "all" = none
  zip : mg "zip" = none
  enumerate : mg "enumerate" = none
  sorted : mg "sorted" = none
  isinstance : mg "isinstance" = none
  mCLOCKS : mg "CLOCKS" = some (.ref aC) ∧ RelV (.ref aC) (.ref aC)
  clocks : ∀ G, SqT K G aC (([3, 5, 7, 11, 13, 17, 19, 23, 29, 31] : List Int).map V.int)
  mLEAST_SIZE : mg "LEAST_SIZE" = some (.int 2 t1) ∧ RelV (.int 2) (.int 2 t1)
  mMOST_SIZE : mg "MOST_SIZE" = some (.int 16 t2) ∧ RelV (.int 16) (.int 16 t2)
  mMOST_ROWS : mg "MOST_ROWS" = some (.int 2500 t3) ∧ RelV (.int 2500) (.int 2500 t3)
  mMOST_SETS : mg "MOST_SETS" = some (.int 1000 t4) ∧ RelV (.int 1000) (.int 1000 t4)
/-! plain readings of rows -/
def rowD (r : List Int) : PyData := .tuple (r.map .int)
def inRow (p : Int) (r : List Int) : Bool := r.all fun x => decide (0 ≤ x ∧ x ≤ p - 1)
def isClk (p : Int) : Bool := decide (p ∈ ([3, 5, 7, 11, 13, 17, 19, 23, 29, 31] : List Int))
section
variable {P : Program} {w : World} {K : PySem.W.Frag} {mg : Str → Option Value} {base : Heap} {aC : Addr} {t1 t2 t3 t4 : Tok}
def P_is_integer : List PyData → PyData → Prop := fun ds d => ∃ i, ds = [.int i] ∧ d = .bool true
theorem L_is_integer : ∀ ds d, P_is_integer ds d → ds.length = 1 := fun ds d ⟨_, h, _⟩ => by rw [h]; rfl
abbrev s_is_integer : Stmt := topS 7
def N_is_integer : List Str := ["value"]
theorem sc_is_integer : FnScope N_is_integer ["value"] (defScope s_is_integer) := ⟨rfl, rfl, rfl, by decide +kernel, rfl, by decide +kernel, by decide +kernel⟩
theorem ok_is_integer {f : Addr} {fd : FuncData} (F : Fun K "is_integer" "is_integer" s_is_integer f fd) (T : Txt K mg aC t1 t2 t3 t4) : FnOk P w K mg base L2.CX0 1 f fd ["value"] (spP K P_is_integer) := by
  refine F.ok sc_is_integer (spP_len L_is_integer) (fun cdv A outer s H vs Q E hr h => ?_)
  have hu64 := hr.units
  refine ⟨_, (pss_one (ps_ret (pe_and (pe_callB call_isi (by rfl) T.isinstance (by decide +kernel) (pa_cons (pv 0) (pa_cons (pe_bltn (v := .ty "int") (by rfl) T.int (by decide +kernel) rfl) pa_nil))) (pe_one (pe_not (pe_callB call_isi (by rfl) T.isinstance (by decide +kernel) (pa_cons (pv 0) (pa_cons (pe_bltn (v := .ty "bool") (by rfl) T.bool (by decide +kernel) rfl) pa_nil)))))))), ?_⟩
  refine body_p (K := K) (N := N_is_integer) (P := P_is_integer) (fun ds d hp => ?_) vs H Q E h
  obtain ⟨i, rfl, rfl⟩ := hp
  exact ⟨Nat.le_refl 1, s_ret (evp_andV (evp_isi (evp_var rfl) kit_ii) fun _ => evp_notV (evp_isi (evp_var rfl) kit_ib)) rfl⟩
def P_is_within : List PyData → PyData → Prop := fun ds d => ∃ i a b, ds = [.int i, .int a, .int b] ∧ d = .bool (decide (a ≤ i ∧ i ≤ b))
theorem L_is_within : ∀ ds d, P_is_within ds d → ds.length = 3 := fun ds d ⟨_, _, _, h, _⟩ => by rw [h]; rfl
abbrev s_is_within : Stmt := topS 8
def N_is_within : List Str := ["value", "least", "most"]
theorem sc_is_within : FnScope N_is_within ["value", "least", "most"] (defScope s_is_within) := ⟨rfl, rfl, rfl, by decide +kernel, rfl, by decide +kernel, by decide +kernel⟩
theorem ok_is_within {f : Addr} {fd : FuncData} (F : Fun K "is_within" "is_within" s_is_within f fd) (T : Txt K mg aC t1 t2 t3 t4) (C_is_integer : Callee P w K mg base "is_integer" 1 ["value"] (spP K P_is_integer)) : FnOk P w K mg base L2.CX0 2 f fd ["value", "least", "most"] (spP K P_is_within) := by
  refine F.ok sc_is_within (spP_len L_is_within) (fun cdv A outer s H vs Q E hr h => ?_)
  have hu64 := hr.units
  refine ⟨_, (pss_cons (ps_if (pt_not (pt_val (pe_callC C_is_integer hr (by decide) (by rfl) (pa_cons (pv 0) pa_nil)))) (pss_one (ps_ret pe_bl)) pss_nil)
      (pss_one (ps_ret (pe_and (pe_or (pe_cmpR op_isN (pv 1) pe_non (nomark _)) (pe_one (pe_cmpR op_le (pv 1) (pv 0) (nomark _)))) (pe_one (pe_or (pe_cmpR op_isN (pv 2) pe_non (nomark _)) (pe_one (pe_cmpR op_le (pv 0) (pv 2) (nomark _))))))))), ?_⟩
  refine body_p (K := K) (N := N_is_within) (P := P_is_within) (fun ds d hp => ?_) vs H Q E h
  obtain ⟨i, a, b, rfl, rfl⟩ := hp
  refine ⟨Nat.le_refl 3, q_if (evt_not (evt_test (evp_call (eva_cons (evp_var rfl) eva_nil) ⟨i, rfl, rfl⟩))) (fun h => by cases h) fun _ => q_next ?_⟩
  refine s_ret (evp_is (evp_andV (evp_orV (evp_isN (evp_var rfl)) fun _ => evp_I0b (evp_var rfl) (evp_var rfl)) fun _ => evp_orV (evp_isN (evp_var rfl)) fun _ => evp_I0b (evp_var rfl) (evp_var rfl)) ?_) rfl
  simp [isNon]
def P_is_clock : List PyData → PyData → Prop := fun ds d => ∃ p, ds = [.int p] ∧ d = .bool (isClk p)
theorem L_is_clock : ∀ ds d, P_is_clock ds d → ds.length = 1 := fun ds d ⟨_, h, _⟩ => by rw [h]; rfl
abbrev s_is_clock : Stmt := topS 9
def N_is_clock : List Str := ["value"]
theorem sc_is_clock : FnScope N_is_clock ["value"] (defScope s_is_clock) := ⟨rfl, rfl, rfl, by decide +kernel, rfl, by decide +kernel, by decide +kernel⟩
theorem ok_is_clock {f : Addr} {fd : FuncData} (F : Fun K "is_clock" "is_clock" s_is_clock f fd) (T : Txt K mg aC t1 t2 t3 t4) (C_is_integer : Callee P w K mg base "is_integer" 1 ["value"] (spP K P_is_integer)) : FnOk P w K mg base L2.CX0 2 f fd ["value"] (spP K P_is_clock) := by
  refine F.ok sc_is_clock (spP_len L_is_clock) (fun cdv A outer s H vs Q E hr h => ?_)
  have hu64 := hr.units
  refine ⟨_, (pss_one (ps_ret (pe_and (pe_callC C_is_integer hr (by decide) (by rfl) (pa_cons (pv 0) pa_nil)) (pe_one (pe_cmpR (show OpR _ _ (rIn K false) from op_in_seq) (pv 0) (pe_glob (by rfl) T.mCLOCKS.1 T.mCLOCKS.2) (by with_unfolding_all rfl)))))), ?_⟩
  refine body_p (K := K) (N := N_is_clock) (P := P_is_clock) (fun ds d hp => ?_) vs H Q E h
  obtain ⟨i, rfl, rfl⟩ := hp
  exact ⟨Nat.le_refl 1, s_ret (evp_is (evp_andV (evp_call (eva_cons (evp_var rfl) eva_nil) ⟨i, rfl, rfl⟩) fun _ => evq_const (evp_var rfl) T.clocks) (by simp [isClk])) rfl⟩
def P_is_row : List PyData → PyData → Prop := fun ds d => ∃ r p, r.length ≤ 1000 ∧ ds = [rowD r, .int p, .int r.length] ∧ d = .bool (inRow p r)
theorem L_is_row : ∀ ds d, P_is_row ds d → ds.length = 3 := fun ds d ⟨_, _, _, h, _⟩ => by rw [h]; rfl
abbrev s_is_row : Stmt := topS 10
def N_is_row : List Str := ["value", "clock", "size", "each"]
theorem sc_is_row : FnScope N_is_row ["value", "clock", "size"] (defScope s_is_row) := ⟨rfl, rfl, rfl, by decide +kernel, rfl, by decide +kernel, by decide +kernel⟩
theorem ok_is_row {f : Addr} {fd : FuncData} (F : Fun K "is_row" "is_row" s_is_row f fd) (T : Txt K mg aC t1 t2 t3 t4) (C_is_within : Callee P w K mg base "is_within" 2 ["value", "least", "most"] (spP K P_is_within)) : FnOk P w K mg base L2.CX0 3 f fd ["value", "clock", "size"] (spP K P_is_row) := by
  refine F.ok sc_is_row (spP_len L_is_row) (fun cdv A outer s H vs Q E hr h => ?_)
  have hu64 := hr.units
  refine ⟨_, (pss_cons (ps_if (PW.pt (pw_or (pt_not (pt_val (pe_callB call_isiT (by rfl) T.isinstance (by decide +kernel) (pa_cons (pv 0) (pa_cons (pe_tup (pa_cons (pe_bltn (v := .ty "list") (by rfl) T.list (by decide +kernel) rfl) (pa_cons (pe_bltn (v := .ty "tuple") (by rfl) T.tuple (by decide +kernel) rfl) pa_nil))) pa_nil))))) (pw_or1 (pt_cmpR (show OpR _ _ (rNeD K) from op_neD hu64) (pe_callB (show CallR _ _ (rLenX K) from call_len) (by rfl) T.len (by decide +kernel) (pa_cons (pv 0) pa_nil)) (pv 2) (nomark _))))) (pss_one (ps_ret pe_bl)) pss_nil)
      (pss_one (ps_ret (pe_callB (show CallR _ _ (rAll K) from cr_all rfl) (by rfl) T.all (by decide +kernel) (pa_cons (pe_lc (own := [("each", 3)]) rfl sc_is_row.nd (show PI _ _ _ (iSeqX K _) from pi_seqX (pv 0)) (blkOk_by (own := [("each", 3)]) (N := N_is_row) (sc := defScope s_is_row) (by decide +kernel)) (fun _ _ _ _ _ => (pg_name (i := 3) sc_is_row.nd rfl (Or.inl rfl))) (fun _ _ _ _ _ => pts_nil) (fun _ _ _ _ _ => (pe_callC C_is_within hr (by decide) (by rfl) (pa_cons (pv 3) (pa_cons pe_int (pa_cons (pe_op op_sub (pv 1) pe_int) pa_nil)))))) pa_nil))))), ?_⟩
  refine body_p (K := K) (N := N_is_row) (P := P_is_row) (fun ds d hp => ?_) vs H Q E h
  obtain ⟨r, p, hl, rfl, rfl⟩ := hp
  refine ⟨Nat.le_succ 3, q_if (evt_or (evt_not (evt_test (evp_isiT (d := rowD r) (evp_var rfl) kit_tl))) fun _ => evt_test (evp_ne (evp_lenT (evp_var rfl)) (evp_var rfl) rfl rfl)) (fun h => ?_) fun _ => q_next ?_⟩
  · exfalso
    simp [rowD, PyData.eqv] at h
  · refine s_ret (evp_is (evp_all (bs := r.map fun x => decide (0 ≤ x ∧ x ≤ p - 1)) (evs_is (evs_new (evn_lcy r .int (fun x => .bool (decide (0 ≤ x ∧ x ≤ p - 1))) (evw_T (evp_var rfl)) (by omega) fun x hx => ⟨_, gt_name (by simp), evp_call (eva_cons (evp_var rfl) (eva_cons evp_int (eva_cons (evp_I0i (evp_var rfl) evp_int) eva_nil))) ⟨x, 0, p - 1, rfl, rfl⟩⟩)) (by simp))) ?_) rfl
    simp [inRow, List.all_map]
end
end Q
end
section
set_option Elab.async false
set_option linter.all false
set_option maxRecDepth 100000
set_option maxHeartbeats 4000000
/-! Wb: rows: need_.., alike, near, with_number, rows_next. -/
namespace Q
open PySem PySem.Spec PyProof.Rows L2
/-! plain readings -/
def wh (r : List Int) : List Int := stp r 0
def bk (r : List Int) : List Int := stp r 1
def alike (ns : List Int) : Bool := ns.countP (· == ns.headD 0) == ns.length
def oneOff (ns : List Int) : Bool := !alike ns && ns.any fun x => ns.countP (· == x) + 1 == ns.length
def chessIn (r : List Int) : Bool := alike (wh r) && alike (bk r)
def near (r : List Int) : Bool := alike (wh r) && oneOff (bk r) || (alike (bk r) && oneOff (wh r))
/-- the row read around -/
def cy (r : List Int) (i : Nat) : Int := r.getD (i % r.length) 0
def mayIn (r : List Int) (g : Nat) : Bool := cy r (g + r.length - 1) != cy r (g + 1)
def rowsNext (p : Nat) (r : List Int) : List (List Int) := ((List.range r.length).filter (mayIn r)).flatMap fun g => (List.range p).map fun (x : Nat) => r.set g (x : Int)
theorem sIx_1 {n : Nat} (h : 1 ≤ n) : HT.sIx n 0 (some 1) = 1 := by
  have := HT.sIx_nat n 0 1
  rw [show ((1 : Nat) : Int) = 1 from rfl] at this
  rw [this, Nat.min_eq_left h]
theorem stp_ne {r : List Int} {k : Nat} (h : k < r.length) : stp r k ≠ [] := by
  unfold stp
  rw [if_pos h]
  intro z
  rw [List.filterMap_eq_nil_iff] at z
  have := z 0 (by simp)
  simp at this
  omega
theorem map_int_get {r : List Int} {i : Nat} (h : i < r.length) : (r.map PyData.int)[i]? = some (.int r[i]) := by simp [h]
theorem ixN_pos {n : Nat} {z : Int} (h0 : 0 ≤ z) (h1 : z < n) : ixN n z = some z.toNat := by
  unfold ixN
  rw [if_pos h0, if_pos h1]
section
variable {P : Program} {w : World} {K : PySem.W.Frag} {mg : Str → Option Value} {base : Heap} {aC : Addr} {t1 t2 t3 t4 : Tok}
def P_need_clock : List PyData → PyData → Prop := fun ds d => ∃ p, isClk p = true ∧ ds = [.int p] ∧ d = .none
theorem L_need_clock : ∀ ds d, P_need_clock ds d → ds.length = 1 := fun ds d ⟨_, _, h, _⟩ => by rw [h]; rfl
abbrev s_need_clock : Stmt := topS 11
def N_need_clock : List Str := ["value"]
theorem sc_need_clock : FnScope N_need_clock ["value"] (defScope s_need_clock) := ⟨rfl, rfl, rfl, by decide +kernel, rfl, by decide +kernel, by decide +kernel⟩
theorem ok_need_clock {f : Addr} {fd : FuncData} (F : Fun K "need_clock" "need_clock" s_need_clock f fd) (T : Txt K mg aC t1 t2 t3 t4) (C_is_clock : Callee P w K mg base "is_clock" 2 ["value"] (spP K P_is_clock)) : FnOk P w K mg base L2.CX0 3 f fd ["value"] (spP K P_need_clock) := by
  refine F.ok sc_need_clock (spP_len L_need_clock) (fun cdv A outer s H vs Q E hr h => ?_)
  have hu64 := hr.units
  refine ⟨_, (pss_one (ps_if (pt_not (pt_val (pe_callC C_is_clock hr (by decide) (by rfl) (pa_cons (pv 0) pa_nil)))) pss_never pss_nil)), ?_⟩
  refine body_p (K := K) (N := N_need_clock) (P := P_need_clock) (fun ds d hp => ?_) vs H Q E h
  obtain ⟨p, hc, rfl, rfl⟩ := hp
  exact ⟨Nat.le_refl 1, s_if (evt_not (evt_test (evp_call (eva_cons (evp_var rfl) eva_nil) ⟨p, rfl, rfl⟩))) (fun h => by rw [hc] at h; cases h) fun _ => s_next rfl⟩
def P_need_row : List PyData → PyData → Prop := fun ds d => ∃ r p x, r.length ≤ 1000 ∧ inRow p r = true ∧ ds = [rowD r, .int p, .int r.length, .str x] ∧ d = rowD r
theorem L_need_row : ∀ ds d, P_need_row ds d → ds.length = 4 := fun ds d ⟨_, _, _, _, _, h, _⟩ => by rw [h]; rfl
abbrev s_need_row : Stmt := topS 12
def N_need_row : List Str := ["value", "clock", "size", "part"]
theorem sc_need_row : FnScope N_need_row ["value", "clock", "size", "part"] (defScope s_need_row) := ⟨rfl, rfl, rfl, by decide +kernel, rfl, by decide +kernel, by decide +kernel⟩
theorem ok_need_row {f : Addr} {fd : FuncData} (F : Fun K "need_row" "need_row" s_need_row f fd) (T : Txt K mg aC t1 t2 t3 t4) (C_is_row : Callee P w K mg base "is_row" 3 ["value", "clock", "size"] (spP K P_is_row)) : FnOk P w K mg base L2.CX0 4 f fd ["value", "clock", "size", "part"] (spP K P_need_row) := by
  refine F.ok sc_need_row (spP_len L_need_row) (fun cdv A outer s H vs Q E hr h => ?_)
  have hu64 := hr.units
  refine ⟨_, (pss_cons (ps_if (pt_not (pt_val (pe_callC C_is_row hr (by decide) (by rfl) (pa_cons (pv 0) (pa_cons (pv 1) (pa_cons (pv 2) pa_nil)))))) pss_never pss_nil)
      (pss_one (ps_ret (pe_callTy (show CallR _ _ (rTupX K) from call_tuple_of) (by rfl) T.tuple (by decide +kernel) (pa_cons (pv 0) pa_nil))))), ?_⟩
  refine body_p (K := K) (N := N_need_row) (P := P_need_row) (fun ds d hp => ?_) vs H Q E h
  obtain ⟨r, p, x, hl, hr', rfl, rfl⟩ := hp
  refine ⟨Nat.le_refl 4, q_if (evt_not (evt_test (evp_call (eva_cons (evp_var rfl) (eva_cons (evp_var rfl) (eva_cons (evp_var rfl) eva_nil))) ⟨r, p, hl, rfl, rfl⟩))) (fun h => by rw [hr'] at h; cases h) fun _ => q_next ?_⟩
  exact s_ret (evp_tupT (evp_var rfl)) rfl
def P_need_sized : List PyData → PyData → Prop := fun ds d => ∃ r p x, r.length ≤ 16 ∧ 2 ≤ r.length ∧ r.length % 2 = 0 ∧ inRow p r = true ∧ ds = [rowD r, .int p, .str x, .int 2, .int 16, .int 2] ∧ d = rowD r
theorem L_need_sized : ∀ ds d, P_need_sized ds d → ds.length = 6 := fun ds d ⟨_, _, _, _, _, _, _, h, _⟩ => by rw [h]; rfl
theorem place_sz {n : Nat} (h1 : n ≤ 16) (h2 : 2 ≤ n) (h3 : n % 2 = 0) : (Builtin.Range.rangePlace? 2 (16 + 1) 2 (n : Int)).isSome = true := by
  unfold Builtin.Range.rangePlace?
  have a : ((2 : Int) > 0) := by omega
  have b : (2 : Int) ≤ (n : Int) := by omega
  have c : (n : Int) < 16 + 1 := by omega
  have d : ((n : Int) - 2) % 2 = 0 := by omega
  simp [a, b, d]
  omega
abbrev s_need_sized : Stmt := topS 13
def N_need_sized : List Str := ["value", "clock", "part", "least", "most", "step"]
theorem sc_need_sized : FnScope N_need_sized ["value", "clock", "part", "least", "most", "step"] (defScope s_need_sized) := ⟨rfl, rfl, rfl, by decide +kernel, rfl, by decide +kernel, by decide +kernel⟩
theorem ok_need_sized {f : Addr} {fd : FuncData} (F : FunV K "need_sized" "need_sized" s_need_sized f fd) (T : Txt K mg aC t1 t2 t3 t4) (C_need_row : Callee P w K mg base "need_row" 4 ["value", "clock", "size", "part"] (spP K P_need_row)) : FnOk P w K mg base L2.CX0 5 f fd ["value", "clock", "part", "least", "most", "step"] (spP K P_need_sized) := by
  refine F.ok sc_need_sized (spP_len L_need_sized) (fun cdv A outer s H vs Q E hr h => ?_)
  have hu64 := hr.units
  refine ⟨_, (pss_cons (ps_if (PW.pt (pw_or (pt_not (pt_val (pe_callB call_isiT (by rfl) T.isinstance (by decide +kernel) (pa_cons (pv 0) (pa_cons (pe_tup (pa_cons (pe_bltn (v := .ty "list") (by rfl) T.list (by decide +kernel) rfl) (pa_cons (pe_bltn (v := .ty "tuple") (by rfl) T.tuple (by decide +kernel) rfl) pa_nil))) pa_nil))))) (pw_or1 (pt_cmpR op_notInR (pe_callB (show CallR _ _ (rLenX K) from call_len) (by rfl) T.len (by decide +kernel) (pa_cons (pv 0) pa_nil)) (pe_callTy cr_range3X (by rfl) T.range (by decide +kernel) (pa_cons (pv 3) (pa_cons (pe_op (show OpR _ _ (rAddX K) from op_addX) (pv 4) pe_int) (pa_cons (pv 5) pa_nil)))) (by with_unfolding_all rfl))))) pss_never pss_nil)
      (pss_one (ps_ret (pe_callC C_need_row hr (by decide) (by rfl) (pa_cons (pv 0) (pa_cons (pv 1) (pa_cons (pe_callB (show CallR _ _ (rLenX K) from call_len) (by rfl) T.len (by decide +kernel) (pa_cons (pv 0) pa_nil)) (pa_cons (pv 2) pa_nil)))))))), ?_⟩
  refine body_p (K := K) (N := N_need_sized) (P := P_need_sized) (fun ds d hp => ?_) vs H Q E h
  obtain ⟨r, p, x, h1, h2, h3, hr', rfl, rfl⟩ := hp
  refine ⟨Nat.le_refl 6, q_if (evt_or (evt_not (evt_test (evp_isiT (d := rowD r) (evp_var rfl) kit_tl))) fun _ => evt_test (evp_notInR (evp_lenT (evp_var rfl)) (eva_cons (evp_var rfl) (eva_cons (evp_add (evp_var rfl) evp_int) (eva_cons (evp_var rfl) eva_nil))) (by decide) (by decide))) (fun h => ?_) fun _ => q_next ?_⟩
  · exfalso
    rw [List.length_map, place_sz h1 h2 h3] at h
    cases h
  · exact s_ret (evp_is (evp_call (eva_cons (evp_var rfl) (eva_cons (evp_var rfl) (eva_cons (evp_lenT (evp_var rfl)) (eva_cons (evp_var rfl) eva_nil)))) ⟨r, p, x, by omega, hr', by rw [List.length_map], rfl⟩) rfl) rfl
def okRow (p : Nat) (r : List Int) : Prop := r.length ≤ 16 ∧ 2 ≤ r.length ∧ r.length % 2 = 0 ∧ inRow p r = true ∧ isClk p = true
def P_need_ring : List PyData → PyData → Prop := fun ds d => ∃ (p : Nat) (r : List Int), okRow p r ∧ ds = [.int p, rowD r] ∧ d = rowD r
theorem L_need_ring : ∀ ds d, P_need_ring ds d → ds.length = 2 := fun ds d ⟨_, _, _, h, _⟩ => by rw [h]; rfl
abbrev s_need_ring : Stmt := topS 31
def N_need_ring : List Str := ["clock", "row"]
theorem sc_need_ring : FnScope N_need_ring ["clock", "row"] (defScope s_need_ring) := ⟨rfl, rfl, rfl, by decide +kernel, rfl, by decide +kernel, by decide +kernel⟩
theorem ok_need_ring {f : Addr} {fd : FuncData} (F : Fun K "need_ring" "need_ring" s_need_ring f fd) (T : Txt K mg aC t1 t2 t3 t4) (C_need_clock : Callee P w K mg base "need_clock" 3 ["value"] (spP K P_need_clock)) (C_need_sized : Callee P w K mg base "need_sized" 5 ["value", "clock", "part", "least", "most", "step"] (spP K P_need_sized)) : FnOk P w K mg base L2.CX0 6 f fd ["clock", "row"] (spP K P_need_ring) := by
  refine F.ok sc_need_ring (spP_len L_need_ring) (fun cdv A outer s H vs Q E hr h => ?_)
  have hu64 := hr.units
  refine ⟨_, (pss_cons (ps_expr (pe_callC C_need_clock hr (by decide) (by rfl) (pa_cons (pv 0) pa_nil)))
      (pss_one (ps_ret (pe_callC C_need_sized hr (by decide) (by rfl) (pa_cons (pv 1) (pa_cons (pv 0) (pa_cons pe_str (pa_cons (pe_glob (by rfl) T.mLEAST_SIZE.1 T.mLEAST_SIZE.2) (pa_cons (pe_glob (by rfl) T.mMOST_SIZE.1 T.mMOST_SIZE.2) (pa_cons pe_int pa_nil)))))))))), ?_⟩
  refine body_p (K := K) (N := N_need_ring) (P := P_need_ring) (fun ds d hp => ?_) vs H Q E h
  obtain ⟨p, r, ⟨h1, h2, h3, h4, h5⟩, rfl, rfl⟩ := hp
  exact ⟨Nat.le_refl 2, q_expr (evp_call (eva_cons (evp_var rfl) eva_nil) ⟨p, h5, rfl, rfl⟩) (s_ret (evp_call (eva_cons (evp_var rfl) (eva_cons (evp_var rfl) (eva_cons evp_str (eva_cons evp_int (eva_cons evp_int (eva_cons evp_int eva_nil)))))) ⟨r, p, _, h1, h2, h3, h4, rfl, rfl⟩) rfl)⟩
/-! tuples counted -/
def P_are_alike : List Sl → PyData → Prop := fun ss d => ∃ ns, ns ≠ [] ∧ ss = [.p ns] ∧ d = .bool (alike ns)
theorem L_are_alike : ∀ ds d, P_are_alike ds d → ds.length = 1 := fun ds d ⟨_, _, h, _⟩ => by rw [h]; rfl
theorem eqv_int (a b : Int) : PyData.eqv (.int a) (.int b) = (a == b) := by simp [PyData.eqv]
abbrev s_are_alike : Stmt := topS 23
def N_are_alike : List Str := ["numbers"]
theorem sc_are_alike : FnScope N_are_alike ["numbers"] (defScope s_are_alike) := ⟨rfl, rfl, rfl, by decide +kernel, rfl, by decide +kernel, by decide +kernel⟩
theorem ok_are_alike {f : Addr} {fd : FuncData} (F : Fun K "are_alike" "are_alike" s_are_alike f fd) (T : Txt K mg aC t1 t2 t3 t4) : FnOk P w K mg base L2.CX0 1 f fd ["numbers"] (spQ K P_are_alike) := by
  refine F.ok sc_are_alike (spQ_len L_are_alike) (fun cdv A outer s H vs Q E hr h => ?_)
  have hu64 := hr.units
  refine ⟨_, (pss_one (ps_ret (pe_cmpR (show OpR _ _ (rEqD K) from op_eqD hu64) (pe_tcount (pv 0) (pa_cons (pe_ix (show IxR _ (rIx K) from ix_seq) (pv 0) pe_int (fun _ _ => rfl)) pa_nil)) (pe_callB (show CallR _ _ (rLenX K) from call_len) (by rfl) T.len (by decide +kernel) (pa_cons (pv 0) pa_nil)) (nomark _)))), ?_⟩
  refine body_q (K := K) (N := N_are_alike) (P := P_are_alike) (fun ss d hp => ?_) vs H Q E h
  obtain ⟨ns, h0, rfl, rfl⟩ := hp
  have hpos : 0 < ns.length := List.length_pos_iff.mpr h0
  refine ⟨Nat.le_refl 1, s_ret (evp_is (evp_eq (evp_tcount (evq_var rfl) (eva_cons (evp_ixP (evq_var rfl) evp_int (ixN_pos (by decide) (by omega)) (List.getElem?_eq_getElem hpos)) eva_nil)) (evp_lenP (evq_var rfl)) rfl rfl) ?_) rfl⟩
  rw [eqv_int]
  unfold alike
  have : ns.headD 0 = ns[0] := by
    cases ns with
    | nil => exact absurd rfl h0
    | cons x xs => rfl
  rw [this]
  congr 1
  rw [Bool.eq_iff_iff, beq_iff_eq, beq_iff_eq]
  omega
def P_is_one_off : List Sl → PyData → Prop := fun ss d => ∃ ns, ns ≠ [] ∧ ns.length ≤ 1000 ∧ ss = [.p ns] ∧ d = .bool (oneOff ns)
theorem L_is_one_off : ∀ ds d, P_is_one_off ds d → ds.length = 1 := fun ds d ⟨_, _, _, h, _⟩ => by rw [h]; rfl
abbrev s_is_one_off : Stmt := topS 24
def N_is_one_off : List Str := ["numbers", "each"]
theorem sc_is_one_off : FnScope N_is_one_off ["numbers"] (defScope s_is_one_off) := ⟨rfl, rfl, rfl, by decide +kernel, rfl, by decide +kernel, by decide +kernel⟩
theorem ok_is_one_off {f : Addr} {fd : FuncData} (F : Fun K "is_one_off" "is_one_off" s_is_one_off f fd) (T : Txt K mg aC t1 t2 t3 t4) (C_are_alike : Callee P w K mg base "are_alike" 1 ["numbers"] (spQ K P_are_alike)) : FnOk P w K mg base L2.CX0 2 f fd ["numbers"] (spQ K P_is_one_off) := by
  refine F.ok sc_is_one_off (spQ_len L_is_one_off) (fun cdv A outer s H vs Q E hr h => ?_)
  have hu64 := hr.units
  refine ⟨_, (pss_one (ps_ret (pe_and (pe_not (pe_callC C_are_alike hr (by decide) (by rfl) (pa_cons (pv 0) pa_nil))) (pe_one (pe_callB (show CallR _ _ (rAny K) from cr_any rfl) (by rfl) T.any (by decide +kernel) (pa_cons (pe_lc (own := [("each", 1)]) rfl sc_is_one_off.nd (show PI _ _ _ (iSeqX K _) from pi_seqX (pv 0)) (blkOk_by (own := [("each", 1)]) (N := N_is_one_off) (sc := defScope s_is_one_off) (by decide +kernel)) (fun _ _ _ _ _ => (pg_name (i := 1) sc_is_one_off.nd rfl (Or.inl rfl))) (fun _ _ _ _ _ => pts_nil) (fun _ _ _ _ _ => (pe_cmpR (show OpR _ _ (rEqD K) from op_eqD hu64) (pe_tcount (pv 0) (pa_cons (pv 1) pa_nil)) (pe_op op_sub (pe_callB (show CallR _ _ (rLenX K) from call_len) (by rfl) T.len (by decide +kernel) (pa_cons (pv 0) pa_nil)) pe_int) (nomark _)))) pa_nil)))))), ?_⟩
  refine body_q (K := K) (N := N_is_one_off) (P := P_is_one_off) (fun ss d hp => ?_) vs H Q E h
  obtain ⟨ns, h0, h1, rfl, rfl⟩ := hp
  refine ⟨Nat.le_succ 1, s_ret (evp_is (evp_andV (evp_notV (evp_callQ (evqa_cons (evq_var rfl) evqa_nil) ⟨ns, h0, rfl, rfl⟩)) fun _ => evp_any (bs := ns.map fun x => ns.countP (· == x) + 1 == ns.length) (evs_is (evs_new (evn_lcy ns .int (fun x => .bool (ns.countP (· == x) + 1 == ns.length)) (evw_P (evq_var rfl)) (by omega) fun x hx => ⟨_, gt_name (by simp), evp_is (evp_eq (evp_tcount (evq_var rfl) (eva_cons (evp_var rfl) eva_nil)) (evp_I0i (evp_lenP (evq_var rfl)) evp_int) rfl rfl) ?_⟩)) (by simp))) ?_) rfl⟩
  · rw [eqv_int]
    congr 1
    rw [Bool.eq_iff_iff, beq_iff_eq, beq_iff_eq]
    omega
  · unfold oneOff
    rw [List.any_map]
    rfl
def P_is_chess_in : List PyData → PyData → Prop := fun ds d => ∃ r : List Int, 2 ≤ r.length ∧ ds = [rowD r] ∧ d = .bool (chessIn r)
theorem L_is_chess_in : ∀ ds d, P_is_chess_in ds d → ds.length = 1 := fun ds d ⟨_, _, h, _⟩ => by rw [h]; rfl
abbrev s_is_chess_in : Stmt := topS 25
def N_is_chess_in : List Str := ["row"]
theorem sc_is_chess_in : FnScope N_is_chess_in ["row"] (defScope s_is_chess_in) := ⟨rfl, rfl, rfl, by decide +kernel, rfl, by decide +kernel, by decide +kernel⟩
theorem ok_is_chess_in {f : Addr} {fd : FuncData} (F : Fun K "is_chess_in" "is_chess_in" s_is_chess_in f fd) (T : Txt K mg aC t1 t2 t3 t4) (C_are_alike : Callee P w K mg base "are_alike" 1 ["numbers"] (spQ K P_are_alike)) : FnOk P w K mg base L2.CX0 2 f fd ["row"] (spP K P_is_chess_in) := by
  refine F.ok sc_is_chess_in (spP_len L_is_chess_in) (fun cdv A outer s H vs Q E hr h => ?_)
  have hu64 := hr.units
  refine ⟨_, (pss_one (ps_ret (pe_and (pe_callC C_are_alike hr (by decide) (by rfl) (pa_cons (pe_slice2 (pv 0) po_none) pa_nil)) (pe_one (pe_callC C_are_alike hr (by decide) (by rfl) (pa_cons (pe_slice2 (pv 0) (po_some pe_int)) pa_nil)))))), ?_⟩
  refine body_p (K := K) (N := N_is_chess_in) (P := P_is_chess_in) (fun ds d hp => ?_) vs H Q E h
  obtain ⟨r, h2, rfl, rfl⟩ := hp
  refine ⟨Nat.le_refl 1, s_ret (evp_andV (evp_callQ (evqa_cons (evq_sl2 (evp_var rfl) evo_none) evqa_nil) ⟨_, stp_ne (by show 0 < r.length; omega), rfl, rfl⟩) fun _ => evp_callQ (evqa_cons (evq_sl2 (evp_var rfl) (evo_some evp_int)) evqa_nil) ⟨bk r, stp_ne (by omega), ?_, rfl⟩) rfl⟩
  rw [sIx_1 (by omega)]
  rfl
def P_is_near : List PyData → PyData → Prop := fun ds d => ∃ r : List Int, 2 ≤ r.length ∧ r.length ≤ 1000 ∧ ds = [rowD r] ∧ d = .bool (near r)
theorem L_is_near : ∀ ds d, P_is_near ds d → ds.length = 1 := fun ds d ⟨_, _, _, h, _⟩ => by rw [h]; rfl
theorem stp_le {r : List Int} {k : Nat} (h : r.length ≤ 1000) : (stp r k).length ≤ 1000 := Nat.le_trans (stp_len _ _) h
abbrev s_is_near : Stmt := topS 26
def N_is_near : List Str := ["row", "whites", "blacks"]
theorem sc_is_near : FnScope N_is_near ["row"] (defScope s_is_near) := ⟨rfl, rfl, rfl, by decide +kernel, rfl, by decide +kernel, by decide +kernel⟩
theorem ok_is_near {f : Addr} {fd : FuncData} (F : Fun K "is_near" "is_near" s_is_near f fd) (T : Txt K mg aC t1 t2 t3 t4) (C_are_alike : Callee P w K mg base "are_alike" 1 ["numbers"] (spQ K P_are_alike)) (C_is_one_off : Callee P w K mg base "is_one_off" 2 ["numbers"] (spQ K P_is_one_off)) : FnOk P w K mg base L2.CX0 3 f fd ["row"] (spP K P_is_near) := by
  refine F.ok sc_is_near (spP_len L_is_near) (fun cdv A outer s H vs Q E hr h => ?_)
  have hu64 := hr.units
  refine ⟨_, (pss_cons (ps_par (i := 1) (j := 2) rfl sc_is_near.nd rfl rfl (by decide) rfl rfl (pa_cons (pe_slice2 (pv 0) po_none) (pa_cons (pe_slice2 (pv 0) (po_some pe_int)) pa_nil)) rfl)
      (pss_one (ps_ret (pe_or (pe_and (pe_callC C_are_alike hr (by decide) (by rfl) (pa_cons (pv 1) pa_nil)) (pe_one (pe_callC C_is_one_off hr (by decide) (by rfl) (pa_cons (pv 2) pa_nil)))) (pe_one (pe_and (pe_callC C_are_alike hr (by decide) (by rfl) (pa_cons (pv 2) pa_nil)) (pe_one (pe_callC C_is_one_off hr (by decide) (by rfl) (pa_cons (pv 1) pa_nil))))))))), ?_⟩
  refine body_p (K := K) (N := N_is_near) (P := P_is_near) (fun ds d hp => ?_) vs H Q E h
  obtain ⟨r, h2, h3, rfl, rfl⟩ := hp
  have w0 : wh r ≠ [] := stp_ne (by omega)
  have b0 : bk r ≠ [] := stp_ne (by omega)
  refine ⟨Nat.le_add_left 1 2, q_parX (Ξ := fun s1 s2 M' => s1 = .p (wh r) ∧ s2 = .p (bk r) ∧ M' = []) (by decide) (evA_cons (Ψ := fun s M' => s = .p (wh r) ∧ M' = []) (ev_q (fun k => Sl.noConfusion) (evq_sl2 (evp_var rfl) evo_none) ⟨rfl, rfl⟩) fun s M' ⟨e1, e2⟩ => ?_) fun s1 s2 M' ⟨e1, e2, e3⟩ => ?_⟩
  · subst e1 e2
    refine evA_cons (Ψ := fun s M' => s = .p (bk r) ∧ M' = []) (ev_q (s := .p (bk r)) (fun k => Sl.noConfusion) ?_ ⟨rfl, rfl⟩) fun s M' ⟨e1, e2⟩ => evA_nil ⟨_, _, rfl, rfl, e1, e2⟩
    have z := evq_sl2 (K := K) (ns := r) (te := tVar 0) (tl := tPart (tC (.int 1))) (M := []) (es := List.map Sl.d [rowD r] ++ List.replicate (N_is_near.length - [rowD r].length) .un) (lo := some 1) (evp_var rfl) (evo_some evp_int)
    rw [sIx_1 (by omega)] at z
    exact z
  · subst e1 e2 e3
    exact s_ret (evp_orV (evp_andV (evp_callQ (evqa_cons (evq_var rfl) evqa_nil) ⟨_, w0, rfl, rfl⟩) fun _ => evp_callQ (evqa_cons (evq_var rfl) evqa_nil) ⟨_, b0, stp_le h3, rfl, rfl⟩)
      fun _ => evp_andV (evp_callQ (evqa_cons (evq_var rfl) evqa_nil) ⟨_, b0, rfl, rfl⟩) fun _ => evp_callQ (evqa_cons (evq_var rfl) evqa_nil) ⟨_, w0, stp_le h3, rfl, rfl⟩) rfl
theorem ixN_back {n : Nat} {g : Nat} (h : g < n) : ixN n ((g : Int) - 1) = some ((g + n - 1) % n) := by
  unfold ixN
  rcases Nat.eq_zero_or_pos g with e | e
  · subst e
    have h1 : (0 + n - 1) % n = n - 1 := by rw [Nat.mod_eq_of_lt] <;> omega
    rw [h1]
    simp
    omega
  · have h1 : (g + n - 1) % n = g - 1 := by
      have : g + n - 1 = (g - 1) + n := by omega
      rw [this, Nat.add_mod_right, Nat.mod_eq_of_lt (by omega)]
    rw [h1]
    have h2 : (0 : Int) ≤ (g : Int) - 1 := by omega
    simp only [h2, if_true]
    have : ((g : Int) - 1).toNat = g - 1 := by omega
    rw [this]
    simp
    omega
theorem ixN_fwd {n : Nat} {g : Nat} (h : 0 < n) : ixN n (((g : Int) + 1) % (n : Int)) = some ((g + 1) % n) := by
  have e : ((g : Int) + 1) % (n : Int) = (((g + 1) % n : Nat) : Int) := by
    have := Int.natCast_emod (g + 1) n
    rw [this]
    rfl
  rw [e, ixN_pos (by omega) (by have := Nat.mod_lt (g + 1) h; omega)]
  rw [Int.toNat_natCast]
theorem cy_get {r : List Int} {i : Nat} (h : 0 < r.length) : (r.map PyData.int)[i % r.length]? = some (.int (cy r i)) := by
  have := Nat.mod_lt i h
  rw [map_int_get this]
  unfold cy
  rw [List.getD_eq_getElem?_getD, List.getElem?_eq_getElem this]
  rfl
def P_may_in : List PyData → PyData → Prop := fun ds d => ∃ (r : List Int) (g : Nat), g < r.length ∧ ds = [rowD r, .int g] ∧ d = .bool (mayIn r g)
theorem L_may_in : ∀ ds d, P_may_in ds d → ds.length = 2 := fun ds d ⟨_, _, _, h, _⟩ => by rw [h]; rfl
abbrev s_may_in : Stmt := topS 27
def N_may_in : List Str := ["row", "gap"]
theorem sc_may_in : FnScope N_may_in ["row", "gap"] (defScope s_may_in) := ⟨rfl, rfl, rfl, by decide +kernel, rfl, by decide +kernel, by decide +kernel⟩
theorem ok_may_in {f : Addr} {fd : FuncData} (F : Fun K "may_in" "may_in" s_may_in f fd) (T : Txt K mg aC t1 t2 t3 t4) : FnOk P w K mg base L2.CX0 1 f fd ["row", "gap"] (spP K P_may_in) := by
  refine F.ok sc_may_in (spP_len L_may_in) (fun cdv A outer s H vs Q E hr h => ?_)
  have hu64 := hr.units
  refine ⟨_, (pss_one (ps_ret (pe_cmpR (show OpR _ _ (rNeD K) from op_neD hu64) (pe_ix (show IxR _ (rIx K) from ix_seq) (pv 0) (pe_op op_sub (pv 1) pe_int) (fun _ _ => rfl)) (pe_ix (show IxR _ (rIx K) from ix_seq) (pv 0) (pe_op op_mod (pe_op (show OpR _ _ (rAddX K) from op_addX) (pv 1) pe_int) (pe_callB (show CallR _ _ (rLenX K) from call_len) (by rfl) T.len (by decide +kernel) (pa_cons (pv 0) pa_nil))) (fun _ _ => rfl)) (nomark _)))), ?_⟩
  refine body_p (K := K) (N := N_may_in) (P := P_may_in) (fun ds d hp => ?_) vs H Q E h
  obtain ⟨r, g, hg, rfl, rfl⟩ := hp
  have hn : 0 < r.length := by omega
  refine ⟨Nat.le_refl 2, s_ret (evp_is (evp_ne (evp_ixT (evp_var rfl) (evp_I0i (evp_var rfl) evp_int) (by rw [List.length_map]; exact ixN_back hg) (cy_get hn)) (evp_ixT (evp_var rfl) (evp_Ii (evp_add (evp_var rfl) evp_int) (evp_lenT (evp_var rfl)) (by rw [List.length_map]; omega)) (by rw [List.length_map]; exact ixN_fwd hn) (cy_get hn)) rfl rfl) ?_) rfl⟩
  rw [eqv_int]
  rfl
theorem cut_set {r : List Int} {g : Nat} {x : Int} (h : g < r.length) : cutD (r.map PyData.int) none (some (g : Int)) ++ (PyData.int x :: (cutD (r.map PyData.int) (some ((g : Int) + 1)) none ++ [])) = (r.set g x).map PyData.int := by
  have h1 : HT.sIx (r.map PyData.int).length (r.map PyData.int).length (some (g : Int)) = g := by
    rw [List.length_map, HT.sIx_nat]
    omega
  have h2 : HT.sIx (r.map PyData.int).length 0 (some ((g : Int) + 1)) = g + 1 := by
    rw [List.length_map, show ((g : Int) + 1) = ((g + 1 : Nat) : Int) by omega, HT.sIx_nat]
    omega
  unfold cutD
  rw [h1, h2]
  show List.take (g - 0) (List.drop 0 _) ++ _ = _
  rw [List.drop_zero, Nat.sub_zero, List.append_nil, List.map_set, List.set_eq_take_append_cons_drop, if_pos (by rw [List.length_map]; exact h)]
  congr 2
  rw [List.take_of_length_le]
  show _ ≤ (r.map PyData.int).length - (g + 1)
  rw [List.length_drop]
  exact Nat.le_refl _
def P_with_number : List PyData → PyData → Prop := fun ds d => ∃ (r : List Int) (g : Nat) (x : Int), g < r.length ∧ r.length ≤ 1000 ∧ ds = [rowD r, .int g, .int x] ∧ d = rowD (r.set g x)
theorem L_with_number : ∀ ds d, P_with_number ds d → ds.length = 3 := fun ds d ⟨_, _, _, _, _, h, _⟩ => by rw [h]; rfl
abbrev s_with_number : Stmt := topS 28
def N_with_number : List Str := ["row", "gap", "number"]
theorem sc_with_number : FnScope N_with_number ["row", "gap", "number"] (defScope s_with_number) := ⟨rfl, rfl, rfl, by decide +kernel, rfl, by decide +kernel, by decide +kernel⟩
theorem ok_with_number {f : Addr} {fd : FuncData} (F : Fun K "with_number" "with_number" s_with_number f fd) (T : Txt K mg aC t1 t2 t3 t4) : FnOk P w K mg base L2.CX0 1 f fd ["row", "gap", "number"] (spP K P_with_number) := by
  refine F.ok sc_with_number (spP_len L_with_number) (fun cdv A outer s H vs Q E hr h => ?_)
  have hu64 := hr.units
  refine ⟨_, (pss_one (ps_ret (pe_tup (StX.pa_star (pe_slice (show SlR _ (rSlX K) from sl_X) (pv 0) po_none (po_some (pv 1))) (pa_cons (pv 2) (StX.pa_star (pe_slice (show SlR _ (rSlX K) from sl_X) (pv 0) (po_some (pe_op (show OpR _ _ (rAddX K) from op_addX) (pv 1) pe_int)) po_none) pa_nil)))))), ?_⟩
  refine body_p (K := K) (N := N_with_number) (P := P_with_number) (fun ds d hp => ?_) vs H Q E h
  obtain ⟨r, g, x, hg, hl, rfl, rfl⟩ := hp
  refine ⟨Nat.le_refl 3, s_ret (evp_is (evp_tup (eva_starT (evp_slT (evp_var rfl) evo_none (evo_some (evp_var rfl))) (eva_cons (evp_var rfl) (eva_starT (evp_slT (evp_var rfl) (evo_some (evp_add (evp_var rfl) evp_int)) evo_none) eva_nil))) ?_) ?_) rfl⟩
  · rw [cut_set hg, List.length_map, List.length_set]
    omega
  · rw [cut_set hg]
    rfl
end
end Q
end
section
set_option Elab.async false
set_option linter.all false
set_option maxRecDepth 100000
set_option maxHeartbeats 4000000
/-! Wc: need_few, pairs, row_behind, rows_next. -/
namespace Q
open PySem PySem.Spec PyProof.Rows L2
/-! plain readings -/
def pairD (q : Int × Int) : PyData := .tuple [.int q.1, .int q.2]
def isPair (p n : Nat) (q : Int × Int) : Bool := decide (0 ≤ q.1 ∧ q.1 ≤ (n : Int) - 1) && decide (0 ≤ q.2 ∧ q.2 ≤ (p : Int) - 1)
def behind (p : Nat) : List Int → List (Int × Int) → Option (List Int)
  | r, [] => some r
  | r, q :: ps => if isPair p r.length q && mayIn r q.1.toNat then behind p (r.set q.1.toNat q.2) ps else none
def optRow : Option (List Int) → PyData
  | some r => rowD r
  | none => .none
theorem isPair_lt {p n : Nat} {q : Int × Int} (h : isPair p n q = true) : q.1.toNat < n ∧ ((q.1.toNat : Nat) : Int) = q.1 := by
  unfold isPair at h
  simp at h
  omega
section
variable {P : Program} {w : World} {K : PySem.W.Frag} {mg : Str → Option Value} {base : Heap} {aC : Addr} {t1 t2 t3 t4 : Tok}
def P_need_few : List PyData → PyData → Prop := fun ds d => ∃ (p n : Nat), 1 ≤ p ∧ p ≤ 1000 ∧ n ≤ 16 ∧ p ^ n ≤ 2500 ∧ ds = [.int p, .int n] ∧ d = .none
theorem L_need_few : ∀ ds d, P_need_few ds d → ds.length = 2 := fun ds d ⟨_, _, _, _, _, _, h, _⟩ => by rw [h]; rfl
abbrev s_need_few : Stmt := topS 35
def N_need_few : List Str := ["clock", "size", "found", "_"]
theorem sc_need_few : FnScope N_need_few ["clock", "size"] (defScope s_need_few) := ⟨rfl, rfl, rfl, by decide +kernel, rfl, by decide +kernel, by decide +kernel⟩
theorem ok_need_few {f : Addr} {fd : FuncData} (F : Fun K "need_few" "need_few" s_need_few f fd) (T : Txt K mg aC t1 t2 t3 t4) : FnOk P w K mg base L2.CX0 1 f fd ["clock", "size"] (spP K P_need_few) := by
  refine F.ok sc_need_few (spP_len L_need_few) (fun cdv A outer s H vs Q E hr h => ?_)
  have hu64 := hr.units
  refine ⟨_, (pss_cons (ps_set (i := 2) sc_need_few.nd rfl (Or.inl rfl) pe_int)
      (pss_one (ps_for PassesOwn.never rfl (pi_range1 (by rfl) T.range (pa_cons (pv 1) pa_nil)) (pg_name (i := 3) sc_need_few.nd rfl (Or.inl rfl)) (pss_cons (ps_set (i := 2) sc_need_few.nd rfl (Or.inl rfl) (pe_op op_mulX (pv 2) (pv 0)))
      (pss_one (ps_if (pt_cmpR op_gt (pv 2) (pe_glob (by rfl) T.mMOST_ROWS.1 T.mMOST_ROWS.2) (nomark _)) pss_never pss_nil)))))), ?_⟩
  refine body_p (K := K) (N := N_need_few) (P := P_need_few) (fun ds d hp => ?_) vs H Q E h
  obtain ⟨p, n, hp1, hp2, hn, hpn, rfl, rfl⟩ := hp
  have pw : ∀ i, i ≤ n → p ^ i ≤ 2500 := fun i hi => Nat.le_trans (Nat.pow_le_pow_right hp1 hi) hpn
  refine ⟨Nat.le_add_left 2 2, q_asg evp_int ?_⟩
  refine s_for (fun i es M => ∃ s, es = [.d (.int p), .d (.int n), .d (.int ((p ^ i : Nat) : Int)), s] ∧ M = []) (evw_r1 (eva_cons (evp_var rfl) eva_nil) (by omega) (by omega)) ⟨_, rfl, rfl⟩ ?_ ?_
  · rintro i d es1 M1 hi ⟨s, rfl, rfl⟩
    have hi' := (List.getElem?_eq_some_iff.mp hi).1
    rw [List.length_map, rgD_len, Int.toNat_natCast] at hi'
    refine ⟨_, [3], gt_name (by simp), q_asg (evp_mul (evp_var rfl) (evp_var rfl) (Or.inr ⟨by omega, by omega⟩)) ?_⟩
    have e : ((p ^ i : Nat) : Int) * (p : Int) = ((p ^ (i + 1) : Nat) : Int) := by
      rw [Nat.pow_succ]
      exact (Int.natCast_mul _ _).symm
    rw [e]
    refine s_if (evt_test (evp_I0b (evp_var rfl) evp_int)) (fun h => ?_) fun _ => s_next ⟨_, Wk.refl _, _, rfl, rfl⟩
    exfalso
    have := pw (i + 1) hi'
    have h := of_decide_eq_true h
    omega
  · rintro es1 M1 ⟨s, rfl, rfl⟩
    rfl
def P_is_pair : List PyData → PyData → Prop := fun ds d => ∃ (q : Int × Int) (p n : Nat), ds = [pairD q, .int p, .int n] ∧ d = .bool (isPair p n q)
theorem L_is_pair : ∀ ds d, P_is_pair ds d → ds.length = 3 := fun ds d ⟨_, _, _, h, _⟩ => by rw [h]; rfl
abbrev s_is_pair : Stmt := topS 41
def N_is_pair : List Str := ["value", "clock", "size"]
theorem sc_is_pair : FnScope N_is_pair ["value", "clock", "size"] (defScope s_is_pair) := ⟨rfl, rfl, rfl, by decide +kernel, rfl, by decide +kernel, by decide +kernel⟩
theorem ok_is_pair {f : Addr} {fd : FuncData} (F : Fun K "is_pair" "is_pair" s_is_pair f fd) (T : Txt K mg aC t1 t2 t3 t4) (C_is_within : Callee P w K mg base "is_within" 2 ["value", "least", "most"] (spP K P_is_within)) : FnOk P w K mg base L2.CX0 3 f fd ["value", "clock", "size"] (spP K P_is_pair) := by
  refine F.ok sc_is_pair (spP_len L_is_pair) (fun cdv A outer s H vs Q E hr h => ?_)
  have hu64 := hr.units
  refine ⟨_, (pss_cons (ps_if (PW.pt (pw_or (pt_not (pt_val (pe_callB call_isi (by rfl) T.isinstance (by decide +kernel) (pa_cons (pv 0) (pa_cons (pe_bltn (v := .ty "tuple") (by rfl) T.tuple (by decide +kernel) rfl) pa_nil))))) (pw_or1 (pt_cmpR (show OpR _ _ (rNeD K) from op_neD hu64) (pe_callB (show CallR _ _ (rLenX K) from call_len) (by rfl) T.len (by decide +kernel) (pa_cons (pv 0) pa_nil)) pe_int (nomark _))))) (pss_one (ps_ret pe_bl)) pss_nil)
      (pss_one (ps_ret (pe_and (pe_callC C_is_within hr (by decide) (by rfl) (pa_cons (pe_ix (show IxR _ (rIx K) from ix_seq) (pv 0) pe_int (fun _ _ => rfl)) (pa_cons pe_int (pa_cons (pe_op op_sub (pv 2) pe_int) pa_nil)))) (pe_one (pe_callC C_is_within hr (by decide) (by rfl) (pa_cons (pe_ix (show IxR _ (rIx K) from ix_seq) (pv 0) pe_int (fun _ _ => rfl)) (pa_cons pe_int (pa_cons (pe_op op_sub (pv 1) pe_int) pa_nil))))))))), ?_⟩
  refine body_p (K := K) (N := N_is_pair) (P := P_is_pair) (fun ds d hp => ?_) vs H Q E h
  obtain ⟨q, p, n, rfl, rfl⟩ := hp
  refine ⟨Nat.le_refl 3, q_if (evt_or (evt_not (evt_test (evp_isi (d := pairD q) (evp_var rfl) kit_tt))) fun _ => evt_test (evp_ne (evp_lenT (evp_var rfl)) evp_int rfl rfl)) (fun h => ?_) fun _ => q_next ?_⟩
  · exfalso
    rw [eqv_int] at h
    simp at h
  · exact s_ret (evp_andV (evp_call (eva_cons (evp_ixT (evp_var rfl) evp_int rfl rfl) (eva_cons evp_int (eva_cons (evp_I0i (evp_var rfl) evp_int) eva_nil))) ⟨q.1, 0, (n : Int) - 1, rfl, rfl⟩)
      fun _ => evp_call (eva_cons (evp_ixT (evp_var rfl) evp_int rfl rfl) (eva_cons evp_int (eva_cons (evp_I0i (evp_var rfl) evp_int) eva_nil))) ⟨q.2, 0, (p : Int) - 1, rfl, rfl⟩) rfl
def P_row_behind : List PyData → PyData → Prop := fun ds d => ∃ (p : Nat) (r : List Int) (ps : List (Int × Int)), r.length ≤ 1000 ∧ ps.length ≤ 1000 ∧ ds = [.int p, rowD r, .tuple (ps.map pairD)] ∧ d = optRow (behind p r ps)
theorem L_row_behind : ∀ ds d, P_row_behind ds d → ds.length = 3 := fun ds d ⟨_, _, _, _, _, h, _⟩ => by rw [h]; rfl
abbrev s_row_behind : Stmt := topS 42
def N_row_behind : List Str := ["clock", "row", "sets", "pair"]
theorem sc_row_behind : FnScope N_row_behind ["clock", "row", "sets"] (defScope s_row_behind) := ⟨rfl, rfl, rfl, by decide +kernel, rfl, by decide +kernel, by decide +kernel⟩
theorem ok_row_behind {f : Addr} {fd : FuncData} (F : Fun K "row_behind" "row_behind" s_row_behind f fd) (T : Txt K mg aC t1 t2 t3 t4) (C_is_pair : Callee P w K mg base "is_pair" 3 ["value", "clock", "size"] (spP K P_is_pair)) (C_may_in : Callee P w K mg base "may_in" 1 ["row", "gap"] (spP K P_may_in)) (C_with_number : Callee P w K mg base "with_number" 1 ["row", "gap", "number"] (spP K P_with_number)) : FnOk P w K mg base L2.CX0 4 f fd ["clock", "row", "sets"] (spP K P_row_behind) := by
  refine F.ok sc_row_behind (spP_len L_row_behind) (fun cdv A outer s H vs Q E hr h => ?_)
  have hu64 := hr.units
  refine ⟨_, (pss_cons (ps_if (PW.pt (pw_or (pt_not (pt_val (pe_callB call_isi (by rfl) T.isinstance (by decide +kernel) (pa_cons (pv 2) (pa_cons (pe_bltn (v := .ty "tuple") (by rfl) T.tuple (by decide +kernel) rfl) pa_nil))))) (pw_or1 (pt_cmpR op_gt (pe_callB (show CallR _ _ (rLenX K) from call_len) (by rfl) T.len (by decide +kernel) (pa_cons (pv 2) pa_nil)) (pe_glob (by rfl) T.mMOST_SETS.1 T.mMOST_SETS.2) (nomark _))))) (pss_one (ps_ret pe_non)) pss_nil)
      (pss_cons (ps_for PassesOwn.never rfl (show PI _ _ _ (iSeqX K _) from pi_seqX (pv 2)) (pg_name (i := 3) sc_row_behind.nd rfl (Or.inl rfl)) (pss_cons (ps_if (PW.pt (pw_or (pt_not (pt_val (pe_callC C_is_pair hr (by decide) (by rfl) (pa_cons (pv 3) (pa_cons (pv 0) (pa_cons (pe_callB (show CallR _ _ (rLenX K) from call_len) (by rfl) T.len (by decide +kernel) (pa_cons (pv 1) pa_nil)) pa_nil)))))) (pw_or1 (pt_not (pt_val (pe_callC C_may_in hr (by decide) (by rfl) (pa_cons (pv 1) (pa_cons (pe_ix (show IxR _ (rIx K) from ix_seq) (pv 3) pe_int (fun _ _ => rfl)) pa_nil)))))))) (pss_one (ps_ret pe_non)) pss_nil)
      (pss_one (ps_set (i := 1) sc_row_behind.nd rfl (Or.inl rfl) (pe_callC C_with_number hr (by decide) (by rfl) (pa_cons (pv 1) (pa_cons (pe_ix (show IxR _ (rIx K) from ix_seq) (pv 3) pe_int (fun _ _ => rfl)) (pa_cons (pe_ix (show IxR _ (rIx K) from ix_seq) (pv 3) pe_int (fun _ _ => rfl)) pa_nil))))))))
      (pss_one (ps_ret (pv 1))))), ?_⟩
  refine body_p (K := K) (N := N_row_behind) (P := P_row_behind) (fun ds d hp => ?_) vs H Q E h
  obtain ⟨p, r, ps, hl, hps, rfl, rfl⟩ := hp
  refine ⟨Nat.le_add_left 3 1, q_if (evt_or (evt_not (evt_test (evp_isi (d := .tuple (ps.map pairD)) (evp_var rfl) kit_tt))) fun _ => evt_test (evp_I0b (evp_lenT (evp_var rfl)) evp_int)) (fun h => ?_) fun _ => q_next ?_⟩
  · exfalso
    simp at h
    omega
  refine q_for (fun i es M => ∃ r' s, es = [.d (.int p), .d (rowD r'), .d (.tuple (ps.map pairD)), s] ∧ M = [] ∧ r'.length = r.length ∧ behind p r' (ps.drop i) = behind p r ps) (evw_T (evp_var rfl)) ⟨r, _, rfl, rfl, rfl, rfl⟩ ?_ ?_
  · rintro i d es1 M1 hi ⟨r', s, rfl, rfl, hr', hb⟩
    rw [List.getElem?_map] at hi
    cases hq : ps[i]? with
    | none => rw [hq] at hi; cases hi
    | some q =>
      rw [hq] at hi
      have hi : pairD q = d := Option.some.inj hi
      subst hi
      have hd : ps.drop i = q :: ps.drop (i + 1) := by
        have hlt := (List.getElem?_eq_some_iff.mp hq)
        obtain ⟨h1, h2⟩ := hlt
        rw [List.drop_eq_getElem_cons h1, h2]
      rw [hd] at hb
      refine ⟨_, [3], gt_name (by simp), q_if (evt_or (b := !mayIn r' q.1.toNat) (evt_not (evt_test (evp_call (eva_cons (evp_var rfl) (eva_cons (evp_var rfl) (eva_cons (evp_lenT (evp_var rfl)) eva_nil))) ⟨q, p, r'.length, by rw [List.length_map], rfl⟩))) fun hok => evt_not (evt_test (evp_call (eva_cons (evp_var rfl) (eva_cons (evp_ixT (evp_var rfl) evp_int rfl rfl) eva_nil)) ?_))) (fun h => ?_) fun h => q_next ?_⟩
      · have hok : isPair p r'.length q = true := by simpa using hok
        obtain ⟨g1, g2⟩ := isPair_lt hok
        exact ⟨r', q.1.toNat, g1, by rw [g2], rfl⟩
      · have : behind p r' (q :: ps.drop (i + 1)) = none := by
          unfold behind
          rw [if_neg]
          intro z
          rw [Bool.and_eq_true] at z
          rw [z.1, z.2] at h
          cases h
        rw [this] at hb
        rw [← hb]
        exact s_ret evp_non rfl
      · have hok : isPair p r'.length q = true ∧ mayIn r' q.1.toNat = true := by simpa using h
        obtain ⟨g1, g2⟩ := isPair_lt hok.1
        refine s_asg (evp_call (eva_cons (evp_var rfl) (eva_cons (evp_ixT (evp_var rfl) evp_int rfl rfl) (eva_cons (evp_ixT (evp_var rfl) evp_int rfl rfl) eva_nil))) ⟨r', q.1.toNat, q.2, g1, by omega, by rw [g2], rfl⟩) ?_
        refine ⟨_, Wk.refl _, _, _, rfl, rfl, by rw [List.length_set]; exact hr', ?_⟩
        rw [← hb]
        conv => rhs; unfold behind
        rw [if_pos (by rw [hok.1, hok.2]; rfl)]
  · rintro es1 M1 ⟨r', s, rfl, rfl, hr', hb⟩
    rw [List.drop_eq_nil_of_le (by rw [List.length_map]; exact Nat.le_refl _)] at hb
    rw [← hb]
    exact s_ret (evp_var rfl) rfl
def P_rows_next : List PyData → PyData → Prop := fun ds d => ∃ (p : Nat) (r : List Int), p ≤ 100 ∧ r.length ≤ 100 ∧ ds = [.int p, rowD r] ∧ d = .list ((rowsNext p r).map rowD)
theorem L_rows_next : ∀ ds d, P_rows_next ds d → ds.length = 2 := fun ds d ⟨_, _, _, _, h, _⟩ => by rw [h]; rfl
theorem rgD_nat (n : Nat) : (rgD 0 1 n).map PyData.int = (List.range n).map fun (i : Nat) => PyData.int (i : Int) := by
  unfold rgD
  rw [List.map_map]
  refine List.map_congr_left fun i _ => ?_
  show PyData.int (0 + (i : Int) * 1) = _
  rw [Int.zero_add, Int.mul_one]
theorem rgD_natT (n : Nat) : (rgD 0 1 ((n : Int)).toNat).map PyData.int = (List.range n).map fun (i : Nat) => PyData.int (i : Int) := by rw [Int.toNat_natCast, rgD_nat]
theorem evw_is {wi : TI} {es : List Sl} {M : List MO} {ds ds' : List PyData} (h : EvW K wi es M ds) (e : ds = ds') : EvW K wi es M ds' := e ▸ h
theorem evw_rn {ta : TA} {es : List Sl} {M : List MO} {n : Nat} (h : EvAP K ta es M [.int n]) (hn : n ≤ 1000000) : EvW K (iRng1 ta) es M ((List.range n).map fun (i : Nat) => PyData.int (i : Int)) :=
  evw_is (evw_r1 h (by omega) (by omega)) (rgD_natT n)
abbrev s_rows_next : Stmt := topS 36
def N_rows_next : List Str := ["clock", "row", "found", "gap", "number"]
theorem sc_rows_next : FnScope N_rows_next ["clock", "row"] (defScope s_rows_next) := ⟨rfl, rfl, rfl, by decide +kernel, rfl, by decide +kernel, by decide +kernel⟩
theorem ok_rows_next {f : Addr} {fd : FuncData} (F : Fun K "rows_next" "rows_next" s_rows_next f fd) (T : Txt K mg aC t1 t2 t3 t4) (C_may_in : Callee P w K mg base "may_in" 1 ["row", "gap"] (spP K P_may_in)) (C_with_number : Callee P w K mg base "with_number" 1 ["row", "gap", "number"] (spP K P_with_number)) : FnOk P w K mg base L2.CX0 2 f fd ["clock", "row"] (spP K P_rows_next) := by
  refine F.ok sc_rows_next (spP_len L_rows_next) (fun cdv A outer s H vs Q E hr h => ?_)
  have hu64 := hr.units
  refine ⟨_, (pss_cons (ps_set (i := 2) sc_rows_next.nd rfl (Or.inl rfl) (pe_lst pa_nil))
      (pss_cons (ps_for PassesOwn.never rfl (show PI _ _ _ (iSeqX K _) from pi_seqX (pe_lc (own := [("gap", 3)]) rfl sc_rows_next.nd (pi_range1 (by rfl) T.range (pa_cons (pe_callB (show CallR _ _ (rLenX K) from call_len) (by rfl) T.len (by decide +kernel) (pa_cons (pv 1) pa_nil)) pa_nil)) (blkOk_by (own := [("gap", 3)]) (N := N_rows_next) (sc := defScope s_rows_next) (by decide +kernel)) (fun _ _ _ _ _ => (pg_name (i := 3) sc_rows_next.nd rfl (Or.inl rfl))) (fun _ _ _ _ _ => (pts_one (pt_val (pe_callC C_may_in hr (by decide) (by rfl) (pa_cons (pv 1) (pa_cons (pv 3) pa_nil)))))) (fun _ _ _ _ _ => (pv 3)))) (pg_name (i := 3) sc_rows_next.nd rfl (Or.inr rfl)) (pss_one (ps_expr (pe_bm PySem.F.plainAttrs_list PySem.F.slot_list_extend PySem.F.type_list_extend mt_extend (pv 2) (pa_cons (pe_lc (own := [("number", 4)]) rfl sc_rows_next.nd (pi_range1 (by rfl) T.range (pa_cons (pv 0) pa_nil)) (blkOk_by (own := [("number", 4)]) (N := N_rows_next) (sc := defScope s_rows_next) (by decide +kernel)) (fun _ _ _ _ _ => (pg_name (i := 4) sc_rows_next.nd rfl (Or.inl rfl))) (fun _ _ _ _ _ => pts_nil) (fun _ _ _ _ _ => (pe_callC C_with_number hr (by decide) (by rfl) (pa_cons (pv 1) (pa_cons (pv 3) (pa_cons (pv 4) pa_nil)))))) pa_nil)))))
      (pss_one (ps_ret (pv 2))))), ?_⟩
  refine body_p (K := K) (N := N_rows_next) (P := P_rows_next) (fun ds d hp => ?_) vs H Q E h
  obtain ⟨p, r, hp1, hl, rfl, rfl⟩ := hp
  refine ⟨Nat.le_add_left 2 3, q_asgN (evn_lst eva_nil (Nat.zero_le _)) ?_⟩
  have hlen : ∀ (gs : List Nat) , gs.length ≤ 100 → (gs.flatMap fun g => (List.range p).map fun (x : Nat) => r.set g (x : Int)).length ≤ 10000 := by
    intro gs hg
    rw [List.length_flatMap]
    have : (gs.map fun a => ((List.range p).map fun (x : Nat) => r.set a (x : Int)).length) = gs.map fun _ => p := by
      refine List.map_congr_left fun a _ => ?_
      rw [List.length_map, List.length_range]
    rw [this, List.map_const', List.sum_replicate_nat]
    exact Nat.mul_le_mul hg hp1
  have fl : ((List.range r.length).filter (mayIn r)).length ≤ 100 := Nat.le_trans (List.length_filter_le _ _) (by rw [List.length_range]; exact hl)
  refine q_for (ds := (((List.range r.length).filter (mayIn r)).map fun (g : Nat) => PyData.int (g : Int))) (fun i es M => ∃ s s', es = [.d (.int p), .d (rowD r), .l 0, s, s'] ∧ M = [.lst (((((List.range r.length).filter (mayIn r)).take i).flatMap fun g => (List.range p).map fun (x : Nat) => r.set g (x : Int)).map rowD)]) ?_ ⟨_, _, rfl, rfl⟩ ?_ ?_
  · refine evw_L (evp_of_new (evn_lc (List.range r.length) (fun (i : Nat) => PyData.int (i : Int)) (mayIn r) (fun (i : Nat) => PyData.int (i : Int)) (evw_rn (eva_cons (evp_is (evp_lenT (evp_var rfl)) (by rw [List.length_map])) eva_nil) (by omega)) (by rw [List.length_range]; omega) fun g hg => ⟨_, gt_name (by simp), evt_test (evp_call (eva_cons (evp_var rfl) (eva_cons (evp_var rfl) eva_nil)) ⟨r, g, List.mem_range.mp hg, rfl, rfl⟩), fun _ => evp_var rfl⟩))
  · rintro i d es1 M1 hi ⟨s, s', rfl, rfl⟩
    rw [List.getElem?_map] at hi
    cases hq : ((List.range r.length).filter (mayIn r))[i]? with
    | none => rw [hq] at hi; cases hi
    | some g =>
      rw [hq] at hi
      have hi : PyData.int (g : Int) = d := Option.some.inj hi
      subst hi
      have hmem := List.mem_filter.mp (List.mem_of_getElem? hq)
      have hg : g < r.length := List.mem_range.mp hmem.1
      refine ⟨_, [3], gt_name (by simp), s_ext (evs_new (evn_lcy (List.range p) (fun (i : Nat) => PyData.int (i : Int)) (fun (x : Nat) => rowD (r.set g (x : Int))) (evw_rn (eva_cons (evp_var rfl) eva_nil) (by omega)) (by rw [List.length_range]; omega) fun x hx => ⟨_, gt_name (by simp), evp_call (eva_cons (evp_var rfl) (eva_cons (evp_var rfl) (eva_cons (evp_var rfl) eva_nil))) ⟨r, g, (x : Int), hg, by omega, rfl, rfl⟩⟩)) rfl rfl ?_ ⟨_, Wk.refl _, _, _, rfl, ?_⟩⟩
      · rw [List.length_map, List.length_map, List.length_range]
        have := hlen (((List.range r.length).filter (mayIn r)).take i) (by rw [List.length_take]; omega)
        omega
      · obtain ⟨h1, h2⟩ := List.getElem?_eq_some_iff.mp hq
        rw [List.take_succ_eq_append_getElem h1, List.flatMap_append, List.map_append, h2]
        simp [List.flatMap_cons, List.map_map]
  · rintro es1 M1 ⟨s, s', rfl, rfl⟩
    rw [List.length_map, List.take_length]
    exact sx_frz (M := []) (Nat.le_refl 0) rfl (s_ret (evp_var rfl) rfl)
end
end Q
end
section
set_option Elab.async false
set_option linter.all false
set_option maxRecDepth 100000
set_option maxHeartbeats 4000000
/-! Qk: instances: fields, methods, making. -/
namespace Q
open PySem PySem.Spec PyProof.Rows L2
/-- a field put -/
def putS (f : Str) (s : Sl) : List (Str × Sl) → List (Str × Sl)
  | [] => [(f, s)]
  | (g, x) :: r => if g = f then (g, s) :: r else (g, x) :: putS f s r
section
variable {K : PySem.W.Frag} {G H : Hp} {as : List Addr}
abbrev FsAt (K : PySem.W.Frag) (G : Hp) (as : List Addr) (fs : List (Str × Sl)) (vs : List (Str × V)) : Prop := Paired (fun (p : Str × Sl) (q : Str × V) => p.1 = q.1 ∧ SlAt K G as p.2 (some q.2)) fs vs
theorem FsAt.put {fs : List (Str × Sl)} {vs : List (Str × V)} {f : Str} {s : Sl} {v : V} (h : FsAt K G as fs vs) (hs : SlAt K G as s (some v)) : FsAt K G as (putS f s fs) (putF f v vs) := by
  induction h with
  | nil => exact .cons ⟨rfl, hs⟩ .nil
  | @cons p q ps qs hp t ih =>
    obtain ⟨g, x⟩ := p
    obtain ⟨g', y⟩ := q
    obtain ⟨e, hx⟩ := hp
    have e : g = g' := e
    subst e
    unfold putS putF
    by_cases z : g = f
    · rw [if_pos z, if_pos z]
      exact .cons ⟨rfl, hs⟩ t
    · rw [if_neg z, if_neg z]
      exact .cons ⟨rfl, hx⟩ ih
theorem FsAt.get {fs : List (Str × Sl)} {vs : List (Str × V)} {f : Str} (h : FsAt K G as fs vs) : (fs.lookup f = none ∧ vs.lookup f = none) ∨ ∃ s v, fs.lookup f = some s ∧ vs.lookup f = some v ∧ SlAt K G as s (some v) := by
  induction h with
  | nil => exact .inl ⟨rfl, rfl⟩
  | @cons p q ps qs hp t ih =>
    obtain ⟨g, x⟩ := p
    obtain ⟨g', y⟩ := q
    obtain ⟨e, hx⟩ := hp
    have e : g = g' := e
    subst e
    rw [List.lookup_cons, List.lookup_cons]
    cases z : f == g with
    | true => exact .inr ⟨x, y, rfl, rfl, hx⟩
    | false => exact ih
theorem FsAt.len {fs : List (Str × Sl)} {vs : List (Str × V)} (h : FsAt K G as fs vs) : fs.length = vs.length := Paired.length h
end
section
variable {K : PySem.W.Frag} {es : List Sl} {M : List MO} {te : TE} {tr : TA} {i k : Nat} {C : Addr} {fs : List (Str × Sl)} {f : Str} {d : PyData}
/-- an instance's slot read -/
theorem ins_at {G H : Hp} {as : List Addr} {σ : L2.St} (R : Rep K G H as M) (S : SlotsAt K G as es σ) (hx : es[i]? = some (.l k)) (hm : M[k]? = some (.ins C fs)) : ∃ a dx vs, as[k]? = some a ∧ σ[i]? = some (some (.ref a)) ∧ G a = none ∧ H a = some (.ins C dx vs) ∧ FsAt K G as fs vs := by
  obtain ⟨o, eo, a, ha, rfl⟩ := S.get hx
  obtain ⟨ga, dx, vs, h1, h2⟩ := R.at_ k a _ ha hm
  exact ⟨a, dx, vs, ha, eo, ga, h1, h2⟩
theorem evp_fld (hx : es[i]? = some (.l k)) (hm : M[k]? = some (.ins C fs)) (cl : Cls K C) (na : NoAttr K C f) (hf : fs.lookup f = some (.d d)) : EvP K (tFld K (tVar i) f) es M d := fun G H as σ R S Q q => by
  obtain ⟨a, dx, vs, ha, eo, ga, h1, h2⟩ := ins_at R S hx hm
  rcases h2.get (f := f) with ⟨z, _⟩ | ⟨s, v, z, zv, hs⟩
  · rw [hf] at z
    cases z
  · rw [hf] at z
    cases z
    obtain ⟨w, ew, aw⟩ := hs
    cases ew
    exact ⟨_, eo, a, C, dx, vs, v, rfl, h1, cl, na, zv, q v G H (.refl R.ex) aw⟩
/-- xs.f.append(e), the field an own list -/
theorem s_appF {n0 j : Nat} {ds : List PyData} {Φ : Out → Prop} (h : EvP K te es M d) (hx : es[i]? = some (.l k)) (hm : M[k]? = some (.ins C fs)) (cl : Cls K C) (na : NoAttr K C f) (hf : fs.lookup f = some (.l j)) (hj : M[j]? = some (.lst ds)) (hl : ds.length < 1000000) (p : Φ (.nx es (M.set j (.lst (ds ++ [d]))))) :
    Sx K n0 (tDrop (tBM K "list" rAppend (tFld K (tVar i) f) (tCons te tNil))) es M Φ := fun as0 G0 H0 e G H as σ s R S D q => by
  obtain ⟨a, dx, vs, ha, eo, ga, h1, h2⟩ := ins_at R S hx hm
  rcases h2.get (f := f) with ⟨z, _⟩ | ⟨sl, v, z, zv, hs⟩
  · rw [hf] at z
    cases z
  · rw [hf] at z
    cases z
    obtain ⟨b, hb, eb⟩ := hs
    cases eb
    obtain ⟨gb, xs, x1, x2⟩ := R.at_ j b _ hb hj
    refine ⟨_, eo, a, C, dx, vs, _, rfl, h1, cl, na, zv, .inl ⟨rfl, xs, .inl (.inl x1)⟩, h G H as σ R S _ fun v G1 H1 s1 a1 => ?_⟩
    have R1 := R.stepP s1
    obtain ⟨gb1, ys, y1, y2⟩ := R1.at_ j b _ hb hj
    obtain ⟨R3, s3⟩ := R1.put (o := .lst (ys ++ [v])) (m := .lst (ds ++ [d])) hb ⟨_, upd_same, y2.snoc a1⟩
    exact ⟨b, ys, v, rfl, rfl, y1, by rw [← y2.length]; exact sz6' hl, q _ G1 _ as p ((s.trans s1.step).trans s3) s1.g σ R3 (S.up0 s1.g)⟩
/-- x.f = e -/
theorem s_fld {n0 : Nat} {Φ : Out → Prop} (h : EvP K te es M d) (hx : es[i]? = some (.l k)) (hm : M[k]? = some (.ins C fs)) (cl : Cls K C) (na : NoAttr K C f) (hl : fs.length < 1000) (p : Φ (.nx es (M.set k (.ins C (putS f (.d d) fs))))) : Sx K n0 (sFld K (tVar i) te f) es M Φ := fun as0 G0 H0 e G H as σ s R S D q =>
  h G H as σ R S _ fun v G1 H1 s1 a1 => by
    have R1 := R.stepP s1
    obtain ⟨a, dx, vs, ha, eo, ga, h1, h2⟩ := ins_at R1 (S.up0 s1.g) hx hm
    obtain ⟨R3, s3⟩ := R1.put (o := .ins C dx (putF f v vs)) (m := .ins C (putS f (.d d) fs)) ha ⟨dx, _, upd_same, h2.put ⟨v, rfl, a1⟩⟩
    exact ⟨_, eo, a, C, dx, vs, rfl, h1, cl, na, by rw [← h2.len]; exact hl, q _ G1 _ as p ((s.trans s1.step).trans s3) s1.g σ R3 (S.up0 s1.g)⟩
theorem q_fld {n0 : Nat} {Φ : Out → Prop} {tz : TS} (h : EvP K te es M d) (hx : es[i]? = some (.l k)) (hm : M[k]? = some (.ins C fs)) (cl : Cls K C) (na : NoAttr K C f) (hl : fs.length < 1000) (p : Sx K n0 tz es (M.set k (.ins C (putS f (.d d) fs))) Φ) : Sx K n0 (tSeq (sFld K (tVar i) te f) tz) es M Φ :=
  sx_seq (Ψ := fun o => o = .nx es (M.set k (.ins C (putS f (.d d) fs)))) (s_fld h hx hm cl na hl rfl) fun o e => by subst e; exact p
/-- x.f = a new own object -/
theorem s_fldN {n0 : Nat} {Φ : Out → Prop} {m : MO} (h : EvN K te es M m) (hx : es[i]? = some (.l k)) (hm : M[k]? = some (.ins C fs)) (cl : Cls K C) (na : NoAttr K C f) (hl : fs.length < 1000) (p : Φ (.nx es ((M ++ [m]).set k (.ins C (putS f (.l M.length) fs))))) : Sx K n0 (sFld K (tVar i) te f) es M Φ := fun as0 G0 H0 e G H as σ s R S D q =>
  h G H as σ R S _ fun b G1 H1 s1 hb gb mb => by
    obtain ⟨R1, st⟩ := R.addNew s1 hb gb mb
    have S1 := S.step st
    have hk := (List.getElem?_eq_some_iff.mp hm).1
    have hm1 : (M ++ [m])[k]? = some (.ins C fs) := by rw [List.getElem?_append_left hk]; exact hm
    obtain ⟨a, dx, vs, ha, eo, ga, h1, h2⟩ := ins_at R1 S1 hx hm1
    obtain ⟨R3, s3⟩ := R1.put (o := .ins C dx (putF f (.ref b) vs)) (m := .ins C (putS f (.l M.length) fs)) ha ⟨dx, _, upd_same, h2.put ⟨b, by rw [← R.len]; simp, rfl⟩⟩
    exact ⟨_, eo, a, C, dx, vs, rfl, h1, cl, na, by rw [← h2.len]; exact hl, q _ G1 _ _ p ((s.trans st).trans s3) s1.g σ R3 S1⟩
/-- x.m(..), all own objects handed over -/
theorem ev_meth {mn : Str} {Pre : List Sl → List MO → Prop} {Post : List Sl → List MO → Sl → List MO → Prop} {E : XK} {Φ : Sl → List MO → Prop} (hx : es[i]? = some (.l k)) (hm : M[k]? = some (.ins C fs)) (hf : fs.lookup mn = none)
    (h : EvA K tr es M fun ss M' => Pre (.l k :: ss) M' ∧ ∀ s M'', Post (.l k :: ss) M' s M'' → Φ s M'') : Ev K (tMeth C mn (spM K Pre Post) [] E (tVar i) tr) es M Φ := fun G H as σ R S Q q => by
  obtain ⟨a, dx, vs, ha, eo, ga, h1, h2⟩ := ins_at R S hx hm
  have hn : vs.lookup mn = none := by
    rcases h2.get (f := mn) with ⟨_, z⟩ | ⟨s, v, z, _⟩
    · exact z
    · rw [hf] at z
      cases z
  refine ⟨_, eo, a, dx, vs, rfl, h1, hn, h G H as σ R S _ fun ss M1 ws G1 H1 as1 ⟨p, kk⟩ s1 R1 a1 => ?_⟩
  show spM K Pre Post (V.ref a :: (ws ++ [])) H1 Q E
  rw [List.append_nil]
  obtain ⟨new, en, _⟩ := s1.more
  have ha1 : as1[k]? = some a := by
    rw [en, List.getElem?_append_left (List.getElem?_eq_some_iff.mp ha).1]
    exact ha
  exact ⟨G1, as1, .l k :: ss, M1, R1, .cons ⟨a, ha1, rfl⟩ a1, p, fun s M' v G' H' as' hp s2 R2 a2 => q s M' v G' H' as' (kk s M' hp) (s1.trans s2) R2 a2⟩
/-- C(..), a new instance, its __init__ -/
theorem ev_make {Pre : List Sl → List MO → Prop} {Post : List Sl → List MO → Sl → List MO → Prop} {E : XK} {Φ : Sl → List MO → Prop}
    (h : EvA K tr es M fun ss M' => Pre (.l M'.length :: ss) (M' ++ [.ins C []]) ∧ ∀ s M'', Post (.l M'.length :: ss) (M' ++ [.ins C []]) s M'' → s = .d .none ∧ Φ (.l M'.length) M'') : Ev K (tMake C (spM K Pre Post) [] E tr) es M Φ := fun G H as σ R S Q q =>
  h G H as σ R S _ fun ss M1 ws G1 H1 as1 ⟨p, kk⟩ s1 R1 a1 x dx hx hdx hne => by
    show spM K Pre Post (V.ref x :: (ws ++ [])) _ _ E
    rw [List.append_nil]
    have gdx : G1 dx = none := R1.ex.free hdx
    have gx : G1 x = none := R1.ex.free hx
    have s2 : StepP G1 H1 G1 (upd H1 dx (.own x)) := ⟨.refl _, .new hdx, R1.ex.mut gdx, fun _ _ z => z⟩
    have R2 := R1.stepP s2
    have hx2 : (upd H1 dx (.own x)) x = none := by
      rw [upd_ne (Ne.symm hne)]
      exact hx
    obtain ⟨R3, s3⟩ := R2.push (o := .ins C dx []) (m := .ins C []) hx2 ⟨dx, [], upd_same, .nil⟩
    have st := (s1.trans s2.step).trans s3
    have lx : (as1 ++ [x])[M1.length]? = some x := by rw [← R1.len]; simp
    refine ⟨G1, as1 ++ [x], .l M1.length :: ss, M1 ++ [.ins C []], R3, .cons ⟨x, lx, rfl⟩ ?_, p, fun s M' v G' H' as' hp s4 R4 a4 => ?_⟩
    · have up : ∀ {ss : List Sl} {vs : List V}, SlsAt K G1 as1 ss vs → SlsAt K G1 (as1 ++ [x]) ss vs := by
        intro ss vs h
        induction h with
        | nil => exact .nil
        | cons h _ ih => exact .cons (h.up (.refl _)) ih
      exact up a1
    · obtain ⟨e, hΦ⟩ := kk s M' hp
      subst e
      obtain ⟨w, ew, aw⟩ := a4
      cases ew
      cases aw
      obtain ⟨new, en, _⟩ := s4.more
      refine ⟨rfl, q _ M' _ G' H' as' hΦ (st.trans s4) R4 ⟨x, ?_, rfl⟩⟩
      rw [en, List.getElem?_append_left (List.getElem?_eq_some_iff.mp lx).1]
      exact lx
end
section
variable {P : Program} {w : World} {K : PySem.W.Frag} {mg : Str → Option Value} {base : Heap}
/-- what a caller needs of a method -/
def MethC (P : Program) (w : World) (K : PySem.W.Frag) (mg : Str → Option Value) (base : Heap) (C : Addr) (m : Str) (k : Nat) (ps : List Str) (sp : Sp) : Prop :=
  ∃ f fd, FnOk P w K mg base L2.CX0 k f fd ps sp ∧ Meth K C m f ∧ Binds K fd ps []
theorem pe_methC {X : Cx} {C : Addr} {m : Str} {k j : Nat} {ps : List Str} {sp : Sp} {o e : Expr} {es : List Expr} {apos pos : Pos} {ta : TE} {t : TA} {pl : Sem Bool} (M : MethC X.prog X.w X.K X.mg X.base C m k ps sp) (cl : Cls X.K C) (hr : Room j X.A) (hk : k ≤ j) (he : PE X o ta) (ha : PA X (e :: es) t)
    (hst : starEach (e :: es) X.env = (false, eval e X.env) :: starEach es X.env := by rfl) (hpl : (backTo pos (starEach es X.env)).any (·.1) = false := by rfl)
    (ht : eval (.Call (.Attribute o m apos) (e :: es) [] pos) X.env = (do
      let ov ← eval o X.env
      standAt apos.atName
      let (f, first) ← holding [ov] (getMethod ov m pl)
      callWith pos f first (backTo pos (starEach (e :: es) X.env)) (backToKw pos (keywordEach [] X.env))) := by rfl) :
    PE X (.Call (.Attribute o m apos) (e :: es) [] pos) (tMeth C m sp [] L2.E0 ta t) := by
  obtain ⟨f, fd, F, mt, b⟩ := M
  exact pe_meth he cl mt F (hr.mono hk) b .nil L2.pass0 ha hst hpl ht
theorem pe_methC0 {X : Cx} {C : Addr} {m : Str} {k j : Nat} {ps : List Str} {sp : Sp} {o : Expr} {apos pos : Pos} {ta : TE} {pl : Sem Bool} (M : MethC X.prog X.w X.K X.mg X.base C m k ps sp) (cl : Cls X.K C) (hr : Room j X.A) (hk : k ≤ j) (he : PE X o ta)
    (ht : eval (.Call (.Attribute o m apos) [] [] pos) X.env = (do
      let ov ← eval o X.env
      standAt apos.atName
      let (f, first) ← holding [ov] (getMethod ov m pl)
      callWith pos f first (backTo pos (starEach [] X.env)) (backToKw pos (keywordEach [] X.env))) := by rfl) :
    PE X (.Call (.Attribute o m apos) [] [] pos) (tMeth C m sp [] L2.E0 ta tNil) := by
  obtain ⟨f, fd, F, mt, b⟩ := M
  exact pe_meth0 he cl mt F (hr.mono hk) b .nil L2.pass0 ht
/-- what a caller needs of a class -/
def MakeC (P : Program) (w : World) (K : PySem.W.Frag) (mg : Str → Option Value) (base : Heap) (x : Str) (C : Addr) (k : Nat) (ps : List Str) (sp : Sp) : Prop :=
  ∃ f fd, Mk K C f ∧ FnOk P w K mg base L2.CX0 k f fd ps sp ∧ mg x = some (.ref C) ∧ Binds K fd ps []
theorem pe_makeC {X : Cx} {C : Addr} {x : Str} {k j : Nat} {ps : List Str} {sp : Sp} {p pos : Pos} {e : Expr} {es : List Expr} {t : TA} (M : MakeC X.prog X.w X.K X.mg X.base x C k ps sp) (hr : Room j X.A) (hk : k + 1 ≤ j) (hg : Gl X x) (ha : PA X (e :: es) t)
    (hdb : (x == ("__debug__" : Str)) = false := by decide) (he : starEach (e :: es) X.env = (false, eval e X.env) :: starEach es X.env := by rfl) (hpl : (backTo pos (starEach es X.env)).any (·.1) = false := by rfl) :
    PE X (.Call (.Name x p) (e :: es) [] pos) (tMake C sp [] L2.E0 t) := by
  obtain ⟨f, fd, mk, F, m, b⟩ := M
  exact pe_make mk F (hr.mono hk) hg m b .nil L2.pass0 ha hdb he hpl
theorem pe_makeC0 {X : Cx} {C : Addr} {x : Str} {k j : Nat} {ps : List Str} {sp : Sp} {p pos : Pos} (M : MakeC X.prog X.w X.K X.mg X.base x C k ps sp) (hr : Room j X.A) (hk : k + 1 ≤ j) (hg : Gl X x)
    (hdb : (x == ("__debug__" : Str)) = false := by decide) : PE X (.Call (.Name x p) [] [] pos) (tMake C sp [] L2.E0 tNil) := by
  obtain ⟨f, fd, mk, F, m, b⟩ := M
  exact pe_make0 mk F (hr.mono hk) hg m b .nil L2.pass0 hdb
end
end Q
end
section
set_option Elab.async false
set_option linter.all false
set_option maxRecDepth 100000
set_option maxHeartbeats 4000000
/-! Wn: games told: the class Game. -/
namespace Q
open PySem PySem.Spec PyProof.Rows L2
/-! plain readings -/
structure GS where
  row : List Int
  sets : List (Nat × Int)
def gpD (q : Nat × Int) : PyData := .tuple [.int q.1, .int q.2]
def gput (g : Nat) (x : Int) (s : GS) : GS := if s.row.getD g 0 = x then s else ⟨s.row.set g x, s.sets ++ [(g, x)]⟩
def spare (p : Nat) (others : List Int) : List Int := ((List.range p).filter fun (x : Nat) => !decide ((x : Int) ∈ others)).map fun (x : Nat) => (x : Int)
def gpart (p g : Nat) (others : List Int) (s : GS) : GS := if s.row.getD g 0 ∈ others then gput g ((spare p others).headD 0) s else s
def white1 (p : Nat) (s : GS) (i : Nat) : GS := if s.row.getD (2 + 2 * i) 0 = s.row.getD 0 0 then s else gput (2 + 2 * i) (s.row.getD 0 0) (gpart p (1 + 2 * i) [s.row.getD (3 + 2 * i) 0] s)
def gwhites (p : Nat) (s : GS) : GS := (List.range (s.row.length / 2 - 1)).foldl (white1 p) s
/-- the first black that is not as the first -/
def offBlacks (r : List Int) : List Nat := ((List.range (r.length / 2 - 1)).map fun i => 3 + 2 * i).filter fun b => r.getD b 0 != r.getD 1 0
def black1 (p : Nat) (strange : Int) (s : GS) (b : Nat) : GS :=
  let s1 := gpart p b [s.row.getD 1 0, s.row.getD (b + 2) 0] s
  let s2 := gput (b + 1) strange s1
  let s3 := gput (b - 1) (s2.row.getD 0 0) s2
  gput b (s3.row.getD 1 0) s3
def blackRun (p : Nat) (strange : Int) : Nat → Nat → GS → GS
  | 0, b, s => gput b (s.row.getD 1 0) s
  | k + 1, b, s => blackRun p strange k (b + 2) (black1 p strange s b)
def gblacks (p : Nat) (s : GS) : GS :=
  let b := (offBlacks s.row).headD 0
  let s1 := gpart p (b - 1) [s.row.getD 0 0] s
  blackRun p (s1.row.getD (b - 1) 0) ((s.row.length - 1 - b) / 2) b s1
def gameIn (p : Nat) (r : List Int) : GS := gblacks p (gwhites p ⟨r, []⟩)
/-! fields of a game -/
def gf (p : Nat) (r : List Int) (j : Nat) : List (Str × Sl) := [("clock", .d (.int p)), ("row", .d (rowD r)), ("sets", .l j)]
theorem s01 : (("row" : Str) == "clock") = false := by decide +kernel
theorem s02 : (("sets" : Str) == "clock") = false := by decide +kernel
theorem s03 : (("sets" : Str) == "row") = false := by decide +kernel
theorem gf_clock {p : Nat} {r : List Int} {j : Nat} : (gf p r j).lookup ("clock" : Str) = some (.d (.int p)) := by
  unfold gf
  rw [List.lookup_cons, beq_self_eq_true]
theorem gf_row {p : Nat} {r : List Int} {j : Nat} : (gf p r j).lookup ("row" : Str) = some (.d (rowD r)) := by
  unfold gf
  rw [List.lookup_cons, s01, List.lookup_cons, beq_self_eq_true]
theorem gf_sets {p : Nat} {r : List Int} {j : Nat} : (gf p r j).lookup ("sets" : Str) = some (.l j) := by
  unfold gf
  rw [List.lookup_cons, s02, List.lookup_cons, s03, List.lookup_cons, beq_self_eq_true]
theorem gf_none {p : Nat} {r : List Int} {j : Nat} {m : Str} (h1 : (m == "clock") = false) (h2 : (m == "row") = false) (h3 : (m == "sets") = false) : (gf p r j).lookup m = none := by
  unfold gf
  rw [List.lookup_cons, h1, List.lookup_cons, h2, List.lookup_cons, h3]
  rfl
theorem row_clock_ne : ¬ ("clock" : Str) = "row" := by decide +kernel
theorem gf_putRow {p : Nat} {r r' : List Int} {j : Nat} : putS "row" (.d (rowD r')) (gf p r j) = gf p r' j := by
  unfold gf putS
  rw [if_neg row_clock_ne]
  unfold putS
  rw [if_pos rfl]
structure GAt (C : Addr) (M : List MO) (k j p : Nat) (s : GS) : Prop where
  at_ : M[k]? = some (.ins C (gf p s.row j))
  sets : M[j]? = some (.lst (s.sets.map gpD))
theorem GAt.ne {C : Addr} {M : List MO} {k j p : Nat} {s : GS} (h : GAt C M k j p s) : k ≠ j := fun e => by
  have h1 := h.at_
  rw [e, h.sets] at h1
  cases h1
theorem setAt0 {M : List MO} {k : Nat} {m m' : MO} (h : M[k]? = some m) : (M.set k m')[k]? = some m' := by
  rw [List.getElem?_set_self (List.getElem?_eq_some_iff.mp h).1]
theorem getD_get0 {r : List Int} {i : Nat} (h : i < r.length) : (r.map PyData.int)[i]? = some (.int (r.getD i 0)) := by
  rw [map_int_get h, List.getD_eq_getElem?_getD, List.getElem?_eq_getElem h]
  rfl
theorem ixN_nat0 {n g : Nat} (h : g < n) : ixN n (g : Int) = some g := by
  have := ixN_pos (n := n) (z := (g : Int)) (by omega) (by omega)
  rwa [Int.toNat_natCast] at this
section
variable {P : Program} {w : World} {K : PySem.W.Frag} {mg : Str → Option Value} {base : Heap} {aC aG : Addr} {t1 t2 t3 t4 : Tok}
def Pre_Game___init__ (C : Addr) : List Sl → List MO → Prop := fun ss M => ∃ (k p : Nat) (r : List Int), ss = [.l k, .d (.int p), .d (rowD r)] ∧ M[k]? = some (.ins C [])
def Post_Game___init__ (C : Addr) : List Sl → List MO → Sl → List MO → Prop := fun ss M s M' => s = .d .none ∧ ∃ (k p : Nat) (r : List Int), ss = [.l k, .d (.int p), .d (rowD r)] ∧ M' = (M ++ [MO.lst []]).set k (.ins C (gf p r M.length))
theorem L_Game___init__ : ∀ ss M, Pre_Game___init__ aG ss M → ss.length = 3 := fun ss M ⟨_, _, _, h, _⟩ => by rw [h]; rfl
abbrev s_Game___init__ : Stmt := inClass (topS 29) 0
def N_Game___init__ : List Str := ["self", "clock", "row"]
theorem sc_Game___init__ : FnScope N_Game___init__ ["self", "clock", "row"] (defScope s_Game___init__) := ⟨rfl, rfl, rfl, by decide +kernel, rfl, by decide +kernel, by decide +kernel⟩
theorem ok_Game___init__ {f : Addr} {fd : FuncData} (F : Fun K "__init__" "Game.__init__" s_Game___init__ f fd) (T : Txt K mg aC t1 t2 t3 t4) (cl : Cls K aG) (naC : NoAttr K aG "clock") (naR : NoAttr K aG "row") (naS : NoAttr K aG "sets") : FnOk P w K mg base L2.CX0 1 f fd ["self", "clock", "row"] (spM K (Pre_Game___init__ aG) (Post_Game___init__ aG)) := by
  refine F.ok sc_Game___init__ (spM_len L_Game___init__) (fun cdv A outer s H vs Q E hr h => ?_)
  have hu64 := hr.units
  refine ⟨_, (pss_cons (ps_fld (pv 0) (pv 1) rfl)
      (pss_cons (ps_fld (pv 0) (pv 2) rfl)
      (pss_one (ps_fld (pv 0) (pe_lst pa_nil) rfl)))), ?_⟩
  refine body_m (K := K) (N := N_Game___init__) (Pre := Pre_Game___init__ aG) (Post := Post_Game___init__ aG) (fun ss M hp => ?_) vs H Q E h
  obtain ⟨k, p, r, rfl, hM⟩ := hp
  have hk := (List.getElem?_eq_some_iff.mp hM).1
  refine ⟨Nat.le_refl 3, q_fld (evp_var rfl) rfl hM cl naC (by decide) (q_fld (evp_var rfl) rfl (setAt0 hM) cl naR (by show 1 < 1000; omega) (s_fldN (evn_lst eva_nil (Nat.zero_le _)) rfl (setAt0 (setAt0 hM)) cl naS ?_ ⟨rfl, k, p, r, rfl, ?_⟩))⟩
  · show (putS "row" _ [("clock", _)]).length < 1000
    unfold putS
    split
    · show 1 < 1000
      omega
    · show 2 < 1000
      omega
  · rw [List.length_set, List.length_set, List.set_append_left _ _ (by rw [List.length_set, List.length_set]; exact hk), List.set_append_left _ _ hk, List.set_set, List.set_set]
    rfl
/-- small enough -/
def GOk (s : GS) (n : Nat) : Prop := s.row.length = n ∧ n ≤ 16 ∧ s.sets.length ≤ 500
def Pre_Game_put (C : Addr) : List Sl → List MO → Prop := fun ss M => ∃ (k j p n g : Nat) (x : Int) (s : GS), ss = [.l k, .d (.int g), .d (.int x)] ∧ GAt C M k j p s ∧ GOk s n ∧ g < n
def Post_Game_put (C : Addr) : List Sl → List MO → Sl → List MO → Prop := fun ss M s M' => s = .d .none ∧ ∀ (k j p g : Nat) (x : Int) (s : GS), ss = [.l k, .d (.int g), .d (.int x)] → GAt C M k j p s → GAt C M' k j p (gput g x s)
theorem L_Game_put : ∀ ss M, Pre_Game_put aG ss M → ss.length = 3 := fun ss M ⟨_, _, _, _, _, _, _, h, _⟩ => by rw [h]; rfl
theorem GAt.uniq {C : Addr} {M : List MO} {k j j' p p' : Nat} {s s' : GS} (h : GAt C M k j p s) (h' : GAt C M k j' p' s') : j = j' ∧ p = p' ∧ s = s' := by
  have e1 := h.at_
  rw [h'.at_] at e1
  injection e1 with e1
  injection e1 with _ e1
  unfold gf at e1
  simp only [List.cons.injEq, Prod.mk.injEq, true_and, Sl.d.injEq, Sl.l.injEq, PyData.int.injEq, and_true] at e1
  obtain ⟨e1, e2, e3⟩ := e1
  subst e3
  have e4 := h.sets
  rw [h'.sets] at e4
  injection e4 with e4
  injection e4 with e4
  have inj : ∀ (a b : List (Nat × Int)), a.map gpD = b.map gpD → a = b := by
    intro a
    induction a with
    | nil =>
      intro b h
      cases b with
      | nil => rfl
      | cons y b => cases h
    | cons x a ih =>
      intro b h
      cases b with
      | nil => cases h
      | cons y b =>
        rw [List.map_cons, List.map_cons] at h
        injection h with h1 h2
        unfold gpD at h1
        simp only [PyData.tuple.injEq, List.cons.injEq, PyData.int.injEq, and_true] at h1
        obtain ⟨a1, b1⟩ := x
        obtain ⟨a2, b2⟩ := y
        obtain ⟨h3, h4⟩ := h1
        have h3 : (a1 : Int) = a2 := h3
        have h4 : b1 = b2 := h4
        rw [ih b h2, h4, show a1 = a2 by omega]
  have injR : ∀ (a b : List Int), a.map PyData.int = b.map PyData.int → a = b := by
    intro a
    induction a with
    | nil =>
      intro b h
      cases b with
      | nil => rfl
      | cons y b => cases h
    | cons x a ih =>
      intro b h
      cases b with
      | nil => cases h
      | cons y b =>
        rw [List.map_cons, List.map_cons] at h
        injection h with h1 h2
        injection h1 with h1
        rw [ih b h2, h1]
  have hs := inj _ _ e4
  have hr : s'.row = s.row := by
    unfold rowD at e2
    injection e2 with e2
    exact injR _ _ e2
  refine ⟨rfl, by omega, ?_⟩
  cases s
  cases s'
  simp only at hs hr
  rw [hs, hr]
abbrev s_Game_put : Stmt := inClass (topS 29) 1
def N_Game_put : List Str := ["self", "gap", "number"]
theorem sc_Game_put : FnScope N_Game_put ["self", "gap", "number"] (defScope s_Game_put) := ⟨rfl, rfl, rfl, by decide +kernel, rfl, by decide +kernel, by decide +kernel⟩
theorem ok_Game_put {f : Addr} {fd : FuncData} (F : Fun K "put" "Game.put" s_Game_put f fd) (T : Txt K mg aC t1 t2 t3 t4) (C_with_number : Callee P w K mg base "with_number" 1 ["row", "gap", "number"] (spP K P_with_number)) (cl : Cls K aG) (naR : NoAttr K aG "row") (naS : NoAttr K aG "sets") : FnOk P w K mg base L2.CX0 2 f fd ["self", "gap", "number"] (spM K (Pre_Game_put aG) (Post_Game_put aG)) := by
  refine F.ok sc_Game_put (spM_len L_Game_put) (fun cdv A outer s H vs Q E hr h => ?_)
  have hu64 := hr.units
  refine ⟨_, (pss_one (ps_if (pt_cmpR (show OpR _ _ (rNeD K) from op_neD hu64) (pe_ix (show IxR _ (rIx K) from ix_seq) (show PE _ _ (tFld K _ _) from pe_fld (pv 0) rfl) (pv 1) (fun _ _ => rfl)) (pv 2) (nomark _)) (pss_cons (ps_fld (pv 0) (pe_callC C_with_number hr (by decide) (by rfl) (pa_cons (show PE _ _ (tFld K _ _) from pe_fld (pv 0) rfl) (pa_cons (pv 1) (pa_cons (pv 2) pa_nil)))) rfl)
      (pss_one (ps_expr (pe_bm PySem.F.plainAttrs_list PySem.F.slot_list_append PySem.F.type_list_append mt_append (show PE _ _ (tFld K _ _) from pe_fld (pv 0) rfl) (pa_cons (pe_tup (pa_cons (pv 1) (pa_cons (pv 2) pa_nil))) pa_nil))))) pss_nil)), ?_⟩
  refine body_m (K := K) (N := N_Game_put) (Pre := Pre_Game_put aG) (Post := Post_Game_put aG) (fun ss M hp => ?_) vs H Q E h
  obtain ⟨k, j, p, n, g, x, s, rfl, hG, ⟨hn, hn16, hsl⟩, hg⟩ := hp
  have hg' : g < s.row.length := by omega
  have fin : ∀ M', GAt aG M' k j p (gput g x s) → Post_Game_put aG [.l k, .d (.int g), .d (.int x)] M (.d .none) M' := fun M' h => ⟨rfl, fun k2 j2 p2 g2 x2 s2 e h2 => by
    simp only [List.cons.injEq, Sl.l.injEq, Sl.d.injEq, PyData.int.injEq, and_true] at e
    obtain ⟨e1, e2, e3⟩ := e
    have e2 : g = g2 := by omega
    subst e1 e2 e3
    obtain ⟨a1, a2, a3⟩ := hG.uniq h2
    subst a1 a2 a3
    exact h⟩
  refine ⟨Nat.le_refl 3, s_if (b := !(s.row.getD g 0 == x)) (evt_is (evt_test (evp_ne (evp_ixT (evp_fld rfl hG.at_ cl naR gf_row) (evp_var rfl) (by rw [List.length_map]; exact ixN_nat0 hg') (getD_get0 hg')) (evp_var rfl) rfl rfl)) (by rw [eqv_int])) (fun h => ?_) fun h => s_next (fin M ?_)⟩
  · have hne : ¬ s.row.getD g 0 = x := by simpa using h
    have hput : gput g x s = ⟨s.row.set g x, s.sets ++ [(g, x)]⟩ := if_neg hne
    refine q_fld (evp_call (eva_cons (evp_fld rfl hG.at_ cl naR gf_row) (eva_cons (evp_var rfl) (eva_cons (evp_var rfl) eva_nil))) ⟨s.row, g, x, hg', by omega, rfl, rfl⟩) rfl hG.at_ cl naR (by show 3 < 1000; omega) ?_
    rw [gf_putRow]
    have hkj := hG.ne
    have hj2 : (M.set k (.ins aG (gf p (s.row.set g x) j)))[j]? = some (.lst (s.sets.map gpD)) := by
      rw [List.getElem?_set_ne hkj]
      exact hG.sets
    refine s_appF (d := gpD (g, x)) (evp_tup (eva_cons (evp_var rfl) (eva_cons (evp_var rfl) eva_nil)) (by show 2 ≤ 1000000; omega)) rfl (setAt0 hG.at_) cl naS gf_sets hj2 (by rw [List.length_map]; omega) (fin _ ?_)
    rw [hput]
    exact ⟨by rw [List.getElem?_set_ne hkj.symm]; exact setAt0 hG.at_, by rw [setAt0 hj2, List.map_append]; rfl⟩
  · have he : s.row.getD g 0 = x := by simpa using h
    have hput : gput g x s = s := if_pos he
    rw [hput]
    exact hG
def Pre_Game_part (C : Addr) : List Sl → List MO → Prop := fun ss M => ∃ (k j p n g : Nat) (os : List Int) (s : GS), ss = [.l k, .d (.int g), .d (.tuple (os.map .int))] ∧ GAt C M k j p s ∧ GOk s n ∧ g < n ∧ os.length ≤ 2 ∧ 3 ≤ p ∧ p ≤ 100
def Post_Game_part (C : Addr) : List Sl → List MO → Sl → List MO → Prop := fun ss M s M' => s = .d .none ∧ ∀ (k j p g : Nat) (os : List Int) (s : GS), ss = [.l k, .d (.int g), .d (.tuple (os.map .int))] → GAt C M k j p s → GAt C M' k j p (gpart p g os s)
theorem L_Game_part : ∀ ss M, Pre_Game_part aG ss M → ss.length = 3 := fun ss M ⟨_, _, _, _, _, _, _, h, _⟩ => by rw [h]; rfl
theorem ints_inj : ∀ {a b : List Int}, a.map PyData.int = b.map PyData.int → a = b
  | [], [], _ => rfl
  | [], y :: b, h => by cases h
  | x :: a, [], h => by cases h
  | x :: a, y :: b, h => by
    rw [List.map_cons, List.map_cons] at h
    injection h with h1 h2
    injection h1 with h1
    rw [ints_inj h2, h1]
/-- of three numbers or more one is spare -/
theorem spare_ne {p : Nat} {os : List Int} (hp : 3 ≤ p) (ho : os.length ≤ 2) : spare p os ≠ [] := by
  intro h
  have h2 : (List.range p).filter (fun (x : Nat) => !decide ((x : Int) ∈ os)) = [] := by
    unfold spare at h
    exact List.map_eq_nil_iff.mp h
  rw [List.filter_eq_nil_iff] at h2
  have hm : ∀ x : Nat, x < 3 → (x : Int) ∈ os := fun x hx => by
    have := h2 x (List.mem_range.mpr (by omega))
    simpa using this
  have h0 := hm 0 (by omega)
  have h1 := hm 1 (by omega)
  have h3 := hm 2 (by omega)
  match os, ho with
  | [], _ => cases h0
  | [a], _ =>
    have a0 : ((0 : Nat) : Int) = a := by simpa using h0
    have a1 : ((1 : Nat) : Int) = a := by simpa using h1
    omega
  | [a, b], _ =>
    have a0 : ((0 : Nat) : Int) = a ∨ ((0 : Nat) : Int) = b := by simpa using h0
    have a1 : ((1 : Nat) : Int) = a ∨ ((1 : Nat) : Int) = b := by simpa using h1
    have a2 : ((2 : Nat) : Int) = a ∨ ((2 : Nat) : Int) = b := by simpa using h3
    omega
abbrev s_Game_part : Stmt := inClass (topS 29) 2
def N_Game_part : List Str := ["self", "gap", "others", "number"]
theorem sc_Game_part : FnScope N_Game_part ["self", "gap", "others"] (defScope s_Game_part) := ⟨rfl, rfl, rfl, by decide +kernel, rfl, by decide +kernel, by decide +kernel⟩
theorem ok_Game_part {f : Addr} {fd : FuncData} (F : Fun K "part" "Game.part" s_Game_part f fd) (T : Txt K mg aC t1 t2 t3 t4) (M_Game_put : MethC P w K mg base aG "put" 2 ["self", "gap", "number"] (spM K (Pre_Game_put aG) (Post_Game_put aG))) (cl : Cls K aG) (naC : NoAttr K aG "clock") (naR : NoAttr K aG "row") : FnOk P w K mg base L2.CX0 3 f fd ["self", "gap", "others"] (spM K (Pre_Game_part aG) (Post_Game_part aG)) := by
  refine F.ok sc_Game_part (spM_len L_Game_part) (fun cdv A outer s H vs Q E hr h => ?_)
  have hu64 := hr.units
  refine ⟨_, (pss_one (ps_if (pt_cmpR (show OpR _ _ (rIn K false) from op_in_seq) (pe_ix (show IxR _ (rIx K) from ix_seq) (show PE _ _ (tFld K _ _) from pe_fld (pv 0) rfl) (pv 1) (fun _ _ => rfl)) (pv 2) (by with_unfolding_all rfl)) (pss_one (ps_expr (pe_methC M_Game_put cl hr (by decide) (pv 0) (pa_cons (pv 1) (pa_cons (pe_ix (show IxR _ (rIx K) from ix_seq) (pe_lc (own := [("number", 3)]) rfl sc_Game_part.nd (pi_range1 (by rfl) T.range (pa_cons (show PE _ _ (tFld K _ _) from pe_fld (pv 0) rfl) pa_nil)) (blkOk_by (own := [("number", 3)]) (N := N_Game_part) (sc := defScope s_Game_part) (by decide +kernel)) (fun _ _ _ _ _ => (pg_name (i := 3) sc_Game_part.nd rfl (Or.inl rfl))) (fun _ _ _ _ _ => (pts_one (pt_cmpR (show OpR _ _ (rIn K true) from op_notIn_seq) (pv 3) (pv 2) (by with_unfolding_all rfl)))) (fun _ _ _ _ _ => (pv 3))) pe_int (fun _ _ => rfl)) pa_nil))))) pss_nil)), ?_⟩
  refine body_m (K := K) (N := N_Game_part) (Pre := Pre_Game_part aG) (Post := Post_Game_part aG) (fun ss M hp => ?_) vs H Q E h
  obtain ⟨k, j, p, n, g, os, s, rfl, hG, ⟨hn, hn16, hsl⟩, hg, ho, hp3, hp100⟩ := hp
  have hg' : g < s.row.length := by omega
  have fin : ∀ M', GAt aG M' k j p (gpart p g os s) → Post_Game_part aG [.l k, .d (.int g), .d (.tuple (os.map .int))] M (.d .none) M' := fun M' h => ⟨rfl, fun k2 j2 p2 g2 x2 s2 e h2 => by
    simp only [List.cons.injEq, Sl.l.injEq, Sl.d.injEq, PyData.int.injEq, PyData.tuple.injEq, and_true] at e
    obtain ⟨e1, e2, e3⟩ := e
    have e2 : g = g2 := by omega
    have e3 := ints_inj e3
    subst e1 e2 e3
    obtain ⟨a1, a2, a3⟩ := hG.uniq h2
    subst a1 a2 a3
    exact h⟩
  refine ⟨Nat.le_succ 3, s_if (b := decide (s.row.getD g 0 ∈ os)) (evt_test (evp_inT (evp_ixT (evp_fld rfl hG.at_ cl naR gf_row) (evp_var rfl) (by rw [List.length_map]; exact ixN_nat0 hg') (getD_get0 hg')) (evp_var rfl))) (fun h => ?_) fun h => s_next (fin M ?_)⟩
  · have hin := of_decide_eq_true h
    have hpart : gpart p g os s = gput g ((spare p os).headD 0) s := if_pos hin
    have hne := spare_ne hp3 ho
    refine s_exprX (ev_meth rfl hG.at_ (gf_none (by decide +kernel) (by decide +kernel) (by decide +kernel)) (evA_cons (Ψ := fun s M' => s = .d (.int g) ∧ M' = M) (ev_p (evp_var rfl) ⟨rfl, rfl⟩) fun s1 M1 ⟨e1, e2⟩ => ?_))
    rw [e1, e2]
    refine evA_cons (Ψ := fun s M' => s = .d (.int ((spare p os).headD 0)) ∧ M' = M) (ev_p (evp_ixS (ds := (spare p os).map .int) (evs_is (evs_new (evn_lc (List.range p) (fun (i : Nat) => PyData.int (i : Int)) (fun (x : Nat) => !decide ((x : Int) ∈ os)) (fun (i : Nat) => PyData.int (i : Int)) (evw_rn (eva_cons (evp_fld rfl hG.at_ cl naC gf_clock) eva_nil) (by omega)) (by rw [List.length_range]; omega) fun x hx => ⟨_, gt_name (by simp), evt_test (evp_niT (evp_var rfl) (evp_var rfl)), fun _ => evp_var rfl⟩)) (by unfold spare; rw [List.map_map]; rfl)) evp_int (j := 0) (ixN_pos (by decide) (by rw [List.length_map]; have := List.length_pos_iff.mpr hne; omega)) ?_) ⟨rfl, rfl⟩) fun s1 M1 ⟨e1, e2⟩ => evA_nil ?_
    · cases e : spare p os with
      | nil => exact absurd e hne
      | cons a l => rfl
    · rw [e1, e2]
      refine ⟨⟨k, j, p, n, g, _, s, rfl, hG, ⟨hn, hn16, hsl⟩, hg⟩, fun s1 M1 ⟨e3, h3⟩ => ?_⟩
      exact fin M1 (by rw [hpart]; exact h3 k j p g _ s rfl hG)
  · have hno := of_decide_eq_false h
    have hpart : gpart p g os s = s := if_neg hno
    rw [hpart]
    exact hG
end
end Q
end
section
set_option Elab.async false
set_option linter.all false
set_option maxRecDepth 100000
set_option maxHeartbeats 4000000
/-! Wo: games told: even whites, even blacks. -/
namespace Q
open PySem PySem.Spec PyProof.Rows L2
theorem gput_len (g : Nat) (x : Int) (s : GS) : (gput g x s).row.length = s.row.length ∧ (gput g x s).sets.length ≤ s.sets.length + 1 := by
  unfold gput
  split
  · exact ⟨rfl, Nat.le_succ _⟩
  · exact ⟨List.length_set, by show (s.sets ++ [(g, x)]).length ≤ _; rw [List.length_append]; exact Nat.le_refl _⟩
theorem gpart_len (p g : Nat) (os : List Int) (s : GS) : (gpart p g os s).row.length = s.row.length ∧ (gpart p g os s).sets.length ≤ s.sets.length + 1 := by
  unfold gpart
  split
  · exact gput_len _ _ _
  · exact ⟨rfl, Nat.le_succ _⟩
theorem white1_len (p : Nat) (s : GS) (i : Nat) : (white1 p s i).row.length = s.row.length ∧ (white1 p s i).sets.length ≤ s.sets.length + 2 := by
  unfold white1
  split
  · exact ⟨rfl, Nat.le_add_right _ _⟩
  · obtain ⟨a1, a2⟩ := gpart_len p (1 + 2 * i) [s.row.getD (3 + 2 * i) 0] s
    obtain ⟨b1, b2⟩ := gput_len (2 + 2 * i) (s.row.getD 0 0) (gpart p (1 + 2 * i) [s.row.getD (3 + 2 * i) 0] s)
    exact ⟨by rw [b1, a1], by omega⟩
theorem whites_len (p : Nat) : ∀ (m : Nat) (s : GS), ((List.range m).foldl (white1 p) s).row.length = s.row.length ∧ ((List.range m).foldl (white1 p) s).sets.length ≤ s.sets.length + 2 * m
  | 0, s => ⟨rfl, Nat.le_refl _⟩
  | m + 1, s => by
    rw [List.range_succ, List.foldl_append]
    obtain ⟨a1, a2⟩ := whites_len p m s
    obtain ⟨b1, b2⟩ := white1_len p ((List.range m).foldl (white1 p) s) m
    exact ⟨b1.trans a1, by show (white1 p _ m).sets.length ≤ _; omega⟩
/-- what even_whites changes does not touch the first white -/
theorem gput_row0 {g : Nat} {x : Int} {s : GS} (h : 0 < g) : (gput g x s).row.getD 0 0 = s.row.getD 0 0 := by
  unfold gput
  split
  · rfl
  · show (s.row.set g x).getD 0 0 = _
    simp only [List.getD_eq_getElem?_getD]
    rw [List.getElem?_set_ne (by omega)]
theorem gpart_row0 {p g : Nat} {os : List Int} {s : GS} (h : 0 < g) : (gpart p g os s).row.getD 0 0 = s.row.getD 0 0 := by
  unfold gpart
  split
  · exact gput_row0 h
  · rfl
theorem gput_at {g i : Nat} {x : Int} {s : GS} (h : g < s.row.length) : (gput g x s).row.getD i 0 = if i = g then x else s.row.getD i 0 := by
  unfold gput
  by_cases e : s.row.getD g 0 = x
  · rw [if_pos e]
    by_cases e2 : i = g
    · rw [if_pos e2, e2, e]
    · rw [if_neg e2]
  · rw [if_neg e]
    show (s.row.set g x).getD i 0 = _
    simp only [List.getD_eq_getElem?_getD, List.getElem?_set]
    by_cases e2 : i = g
    · rw [if_pos e2.symm, if_pos e2, if_pos h]
      rfl
    · rw [if_neg e2, if_neg (Ne.symm e2)]
theorem rgC_even {n : Nat} (h4 : 4 ≤ n) (h16 : n ≤ 16) (he : n % 2 = 0) : RgC 2 (n : Int) 2 (n / 2 - 1) ∧ RgC 3 (n : Int) 2 (n / 2 - 1) := by
  have : n = 4 ∨ n = 6 ∨ n = 8 ∨ n = 10 ∨ n = 12 ∨ n = 14 ∨ n = 16 := by omega
  rcases this with rfl | rfl | rfl | rfl | rfl | rfl | rfl <;> exact ⟨⟨by decide, by decide, by decide, by decide⟩, ⟨by decide, by decide, by decide, by decide⟩⟩
section
variable {P : Program} {w : World} {K : PySem.W.Frag} {mg : Str → Option Value} {base : Heap} {aC aG : Addr} {t1 t2 t3 t4 : Tok}
section
variable {es : List Sl} {M : List MO} {k j p n : Nat} {s : GS}
/-- self.row[e] -/
theorem evp_rowAt {te : TE} {i : Nat} {z : Int} (hG : GAt aG M k j p s) (cl : Cls K aG) (naR : NoAttr K aG "row") (h0 : es[0]? = some (.l k)) (he : EvP K te es M (.int z)) (hz : z = (i : Int)) (hi : i < s.row.length) : EvP K (tOp (rIx K) (tFld K (tVar 0) "row") te) es M (.int (s.row.getD i 0)) :=
  evp_ixT (evp_fld h0 hG.at_ cl naR gf_row) he (by rw [List.length_map, hz]; exact ixN_nat0 hi) (getD_get0 hi)
theorem ev_put {ta tb : TE} {E : XK} {g : Nat} {z x : Int} {Φ : Sl → List MO → Prop} (hG : GAt aG M k j p s) (ho : GOk s n) (h0 : es[0]? = some (.l k)) (ha : EvP K ta es M (.int z)) (hz : z = (g : Int)) (hg : g < n) (hb : EvP K tb es M (.int x)) (kk : ∀ M', GAt aG M' k j p (gput g x s) → Φ (.d .none) M') :
    Ev K (tMeth aG "put" (spM K (Pre_Game_put aG) (Post_Game_put aG)) [] E (tVar 0) (tCons ta (tCons tb tNil))) es M Φ := by
  refine ev_meth h0 hG.at_ (gf_none (by decide +kernel) (by decide +kernel) (by decide +kernel)) (evA_cons (Ψ := fun s M' => s = .d (.int g) ∧ M' = M) (ev_p ha ⟨by rw [hz], rfl⟩) fun s1 M1 ⟨e1, e2⟩ => ?_)
  rw [e1, e2]
  refine evA_cons (Ψ := fun s M' => s = .d (.int x) ∧ M' = M) (ev_p hb ⟨rfl, rfl⟩) fun s1 M1 ⟨e1, e2⟩ => evA_nil ?_
  rw [e1, e2]
  refine ⟨⟨k, j, p, n, g, _, s, rfl, hG, ho, hg⟩, fun s1 M1 ⟨e3, h3⟩ => ?_⟩
  rw [e3]
  exact kk M1 (h3 k j p g _ s rfl hG)
theorem ev_part {ta tb : TE} {E : XK} {g : Nat} {z : Int} {os : List Int} {Φ : Sl → List MO → Prop} (hG : GAt aG M k j p s) (ho : GOk s n) (h0 : es[0]? = some (.l k)) (ha : EvP K ta es M (.int z)) (hz : z = (g : Int)) (hg : g < n) (hb : EvP K tb es M (.tuple (os.map .int))) (hos : os.length ≤ 2) (hp : 3 ≤ p) (hp2 : p ≤ 100)
    (kk : ∀ M', GAt aG M' k j p (gpart p g os s) → Φ (.d .none) M') : Ev K (tMeth aG "part" (spM K (Pre_Game_part aG) (Post_Game_part aG)) [] E (tVar 0) (tCons ta (tCons tb tNil))) es M Φ := by
  refine ev_meth h0 hG.at_ (gf_none (by decide +kernel) (by decide +kernel) (by decide +kernel)) (evA_cons (Ψ := fun s M' => s = .d (.int g) ∧ M' = M) (ev_p ha ⟨by rw [hz], rfl⟩) fun s1 M1 ⟨e1, e2⟩ => ?_)
  rw [e1, e2]
  refine evA_cons (Ψ := fun s M' => s = .d (.tuple (os.map .int)) ∧ M' = M) (ev_p hb ⟨rfl, rfl⟩) fun s1 M1 ⟨e1, e2⟩ => evA_nil ?_
  rw [e1, e2]
  refine ⟨⟨k, j, p, n, g, _, s, rfl, hG, ho, hg, hos, hp, hp2⟩, fun s1 M1 ⟨e3, h3⟩ => ?_⟩
  rw [e3]
  exact kk M1 (h3 k j p g _ s rfl hG)
end
def Pre_Game_even_whites (C : Addr) : List Sl → List MO → Prop := fun ss M => ∃ (k j p n : Nat) (s : GS), ss = [.l k] ∧ GAt C M k j p s ∧ s.row.length = n ∧ 4 ≤ n ∧ n ≤ 16 ∧ n % 2 = 0 ∧ s.sets.length ≤ 10 ∧ 3 ≤ p ∧ p ≤ 100
def Post_Game_even_whites (C : Addr) : List Sl → List MO → Sl → List MO → Prop := fun ss M s M' => s = .d .none ∧ ∀ (k j p : Nat) (s : GS), ss = [.l k] → GAt C M k j p s → GAt C M' k j p (gwhites p s)
theorem L_Game_even_whites : ∀ ss M, Pre_Game_even_whites aG ss M → ss.length = 1 := fun ss M ⟨_, _, _, _, _, h, _⟩ => by rw [h]; rfl
abbrev s_Game_even_whites : Stmt := inClass (topS 29) 3
def N_Game_even_whites : List Str := ["self", "white"]
theorem sc_Game_even_whites : FnScope N_Game_even_whites ["self"] (defScope s_Game_even_whites) := ⟨rfl, rfl, rfl, by decide +kernel, rfl, by decide +kernel, by decide +kernel⟩
theorem ok_Game_even_whites {f : Addr} {fd : FuncData} (F : Fun K "even_whites" "Game.even_whites" s_Game_even_whites f fd) (T : Txt K mg aC t1 t2 t3 t4) (M_Game_put : MethC P w K mg base aG "put" 2 ["self", "gap", "number"] (spM K (Pre_Game_put aG) (Post_Game_put aG))) (M_Game_part : MethC P w K mg base aG "part" 3 ["self", "gap", "others"] (spM K (Pre_Game_part aG) (Post_Game_part aG))) (cl : Cls K aG) (naR : NoAttr K aG "row") : FnOk P w K mg base L2.CX0 4 f fd ["self"] (spM K (Pre_Game_even_whites aG) (Post_Game_even_whites aG)) := by
  refine F.ok sc_Game_even_whites (spM_len L_Game_even_whites) (fun cdv A outer s H vs Q E hr h => ?_)
  have hu64 := hr.units
  refine ⟨_, (pss_one (ps_for PassesOwn.never rfl (pi_range3 (by rfl) T.range (pa_cons pe_int (pa_cons (pe_callB (show CallR _ _ (rLenX K) from call_len) (by rfl) T.len (by decide +kernel) (pa_cons (show PE _ _ (tFld K _ _) from pe_fld (pv 0) rfl) pa_nil)) (pa_cons pe_int pa_nil)))) (pg_name (i := 1) sc_Game_even_whites.nd rfl (Or.inl rfl)) (pss_one (ps_if (pt_cmpR (show OpR _ _ (rNeD K) from op_neD hu64) (pe_ix (show IxR _ (rIx K) from ix_seq) (show PE _ _ (tFld K _ _) from pe_fld (pv 0) rfl) (pv 1) (fun _ _ => rfl)) (pe_ix (show IxR _ (rIx K) from ix_seq) (show PE _ _ (tFld K _ _) from pe_fld (pv 0) rfl) pe_int (fun _ _ => rfl)) (nomark _)) (pss_cons (ps_expr (pe_methC M_Game_part cl hr (by decide) (pv 0) (pa_cons (pe_op op_sub (pv 1) pe_int) (pa_cons (pe_tup (pa_cons (pe_ix (show IxR _ (rIx K) from ix_seq) (show PE _ _ (tFld K _ _) from pe_fld (pv 0) rfl) (pe_op (show OpR _ _ (rAddX K) from op_addX) (pv 1) pe_int) (fun _ _ => rfl)) pa_nil)) pa_nil))))
      (pss_one (ps_expr (pe_methC M_Game_put cl hr (by decide) (pv 0) (pa_cons (pv 1) (pa_cons (pe_ix (show IxR _ (rIx K) from ix_seq) (show PE _ _ (tFld K _ _) from pe_fld (pv 0) rfl) pe_int (fun _ _ => rfl)) pa_nil)))))) pss_nil)))), ?_⟩
  refine body_m (K := K) (N := N_Game_even_whites) (Pre := Pre_Game_even_whites aG) (Post := Post_Game_even_whites aG) (fun ss M hp => ?_) vs H Q E h
  obtain ⟨k, j, p, n, s, rfl, hG, hn, hn4, hn16, hev, hsl, hp3, hp100⟩ := hp
  refine ⟨Nat.le_succ 1, s_for (ds := (List.range (n / 2 - 1)).map fun (i : Nat) => PyData.int ((2 + 2 * i : Nat) : Int)) (fun i es M1 => ∃ s1, es = [.l k, s1] ∧ GAt aG M1 k j p ((List.range i).foldl (white1 p) s)) (evw_is (evw_r3 (n := n / 2 - 1) (eva_cons evp_int (eva_cons (evp_lenT (evp_fld rfl hG.at_ cl naR gf_row)) (eva_cons evp_int eva_nil))) ?_) ?_) ⟨_, rfl, hG⟩ ?_ ?_⟩
  · rw [List.length_map, hn]
    exact (rgC_even hn4 hn16 hev).1
  · unfold rgD
    rw [List.map_map]
    refine List.map_congr_left fun i _ => ?_
    show PyData.int (2 + (i : Int) * 2) = _
    congr 1
    omega
  · rintro i d es1 M1 hi ⟨s1, rfl, hG1⟩
    have hi2 := (List.getElem?_eq_some_iff.mp hi).1
    rw [List.length_map, List.length_range] at hi2
    have hi : PyData.int ((2 + 2 * i : Nat) : Int) = d := by
      rw [List.getElem?_map, List.getElem?_range hi2] at hi
      exact Option.some.inj hi
    subst hi
    obtain ⟨l1, l2⟩ := whites_len p i s
    have hstep : (List.range (i + 1)).foldl (white1 p) s = white1 p ((List.range i).foldl (white1 p) s) i := by rw [List.range_succ, List.foldl_append]; rfl
    rw [hstep]
    generalize (List.range i).foldl (white1 p) s = s' at hG1 l1 l2
    have ho : GOk s' n := ⟨by omega, hn16, by omega⟩
    refine ⟨_, [1], gt_name (by simp), s_if (b := !(s'.row.getD (2 + 2 * i) 0 == s'.row.getD 0 0)) (evt_is (evt_test (evp_ne (evp_rowAt hG1 cl naR rfl (evp_var rfl) rfl (by omega)) (evp_rowAt (i := 0) hG1 cl naR rfl evp_int rfl (by omega)) rfl rfl)) (by rw [eqv_int])) (fun h => ?_) fun h => s_next ⟨_, Wk.refl _, _, rfl, ?_⟩⟩
    · have hne : ¬ s'.row.getD (2 + 2 * i) 0 = s'.row.getD 0 0 := by simpa using h
      have hw : white1 p s' i = gput (2 + 2 * i) (s'.row.getD 0 0) (gpart p (1 + 2 * i) [s'.row.getD (3 + 2 * i) 0] s') := if_neg hne
      rw [hw]
      have hpl := gpart_len p (1 + 2 * i) [s'.row.getD (3 + 2 * i) 0] s'
      have hr0 : (gpart p (1 + 2 * i) [s'.row.getD (3 + 2 * i) 0] s').row.getD 0 0 = s'.row.getD 0 0 := gpart_row0 (by omega)
      refine q_exprX (ev_part hG1 ho rfl (evp_I0i (evp_var rfl) evp_int) (g := 1 + 2 * i) (by omega) (by omega) (os := [s'.row.getD (3 + 2 * i) 0]) (evp_tup (eva_cons (evp_rowAt (i := 3 + 2 * i) hG1 cl naR rfl (evp_add (evp_var rfl) evp_int) (by omega) (by omega)) eva_nil) (by show 1 ≤ 1000000; omega)) (by show 1 ≤ 2; omega) hp3 hp100 fun M2 hG2 => ?_)
      refine s_exprX (ev_put (n := n) hG2 ⟨by omega, hn16, by omega⟩ rfl (evp_var rfl) (g := 2 + 2 * i) rfl (by omega) (evp_is (evp_rowAt (i := 0) hG2 cl naR rfl evp_int rfl (by omega)) (by rw [hr0])) fun M3 hG3 => ⟨_, Wk.refl _, _, rfl, hG3⟩)
    · have he : s'.row.getD (2 + 2 * i) 0 = s'.row.getD 0 0 := by simpa using h
      have hw : white1 p s' i = s' := if_pos he
      rw [hw]
      exact hG1
  · rintro es1 M1 ⟨s1, rfl, hG1⟩
    rw [List.length_map, List.length_range] at hG1
    refine ⟨rfl, fun k2 j2 p2 s2 e h2 => ?_⟩
    simp only [List.cons.injEq, Sl.l.injEq, and_true] at e
    subst e
    obtain ⟨a1, a2, a3⟩ := hG.uniq h2
    subst a1 a2 a3
    unfold gwhites
    rw [hn]
    exact hG1
def Pre_Game_even_blacks (C : Addr) : List Sl → List MO → Prop := fun ss M => ∃ (k j p n : Nat) (s : GS), ss = [.l k] ∧ GAt C M k j p s ∧ s.row.length = n ∧ 4 ≤ n ∧ n ≤ 16 ∧ n % 2 = 0 ∧ s.sets.length ≤ 100 ∧ 3 ≤ p ∧ p ≤ 100 ∧ offBlacks s.row ≠ []
def Post_Game_even_blacks (C : Addr) : List Sl → List MO → Sl → List MO → Prop := fun ss M s M' => s = .d .none ∧ ∀ (k j p : Nat) (s : GS), ss = [.l k] → GAt C M k j p s → GAt C M' k j p (gblacks p s)
theorem L_Game_even_blacks : ∀ ss M, Pre_Game_even_blacks aG ss M → ss.length = 1 := fun ss M ⟨_, _, _, _, _, h, _⟩ => by rw [h]; rfl
theorem off_mem {r : List Int} {b : Nat} (he : r.length % 2 = 0) (h : b ∈ offBlacks r) : 3 ≤ b ∧ b + 1 ≤ r.length ∧ b % 2 = 1 ∧ r.getD b 0 ≠ r.getD 1 0 := by
  obtain ⟨h1, h2⟩ := List.mem_filter.mp h
  obtain ⟨i, hi, rfl⟩ := List.mem_map.mp h1
  have := List.mem_range.mp hi
  exact ⟨by omega, by omega, by omega, by simpa using h2⟩
abbrev s_Game_even_blacks : Stmt := inClass (topS 29) 4
def N_Game_even_blacks : List Str := ["self", "black", "strange", "at"]
theorem sc_Game_even_blacks : FnScope N_Game_even_blacks ["self"] (defScope s_Game_even_blacks) := ⟨rfl, rfl, rfl, by decide +kernel, rfl, by decide +kernel, by decide +kernel⟩
theorem ok_Game_even_blacks {f : Addr} {fd : FuncData} (F : Fun K "even_blacks" "Game.even_blacks" s_Game_even_blacks f fd) (T : Txt K mg aC t1 t2 t3 t4) (M_Game_put : MethC P w K mg base aG "put" 2 ["self", "gap", "number"] (spM K (Pre_Game_put aG) (Post_Game_put aG))) (M_Game_part : MethC P w K mg base aG "part" 3 ["self", "gap", "others"] (spM K (Pre_Game_part aG) (Post_Game_part aG))) (cl : Cls K aG) (naR : NoAttr K aG "row") : FnOk P w K mg base L2.CX0 4 f fd ["self"] (spM K (Pre_Game_even_blacks aG) (Post_Game_even_blacks aG)) := by
  refine F.ok sc_Game_even_blacks (spM_len L_Game_even_blacks) (fun cdv A outer s H vs Q E hr h => ?_)
  have hu64 := hr.units
  refine ⟨_, (pss_cons (ps_set (i := 1) sc_Game_even_blacks.nd rfl (Or.inl rfl) (pe_ix (show IxR _ (rIx K) from ix_seq) (pe_lc (own := [("at", 3)]) rfl sc_Game_even_blacks.nd (pi_range3 (by rfl) T.range (pa_cons pe_int (pa_cons (pe_callB (show CallR _ _ (rLenX K) from call_len) (by rfl) T.len (by decide +kernel) (pa_cons (show PE _ _ (tFld K _ _) from pe_fld (pv 0) rfl) pa_nil)) (pa_cons pe_int pa_nil)))) (blkOk_by (own := [("at", 3)]) (N := N_Game_even_blacks) (sc := defScope s_Game_even_blacks) (by decide +kernel)) (fun _ _ _ _ _ => (pg_name (i := 3) sc_Game_even_blacks.nd rfl (Or.inl rfl))) (fun _ _ _ _ _ => (pts_one (pt_cmpR (show OpR _ _ (rNeD K) from op_neD hu64) (pe_ix (show IxR _ (rIx K) from ix_seq) (show PE _ _ (tFld K _ _) from pe_fld (pv 0) rfl) (pv 3) (fun _ _ => rfl)) (pe_ix (show IxR _ (rIx K) from ix_seq) (show PE _ _ (tFld K _ _) from pe_fld (pv 0) rfl) pe_int (fun _ _ => rfl)) (nomark _)))) (fun _ _ _ _ _ => (pv 3))) pe_int (fun _ _ => rfl)))
      (pss_cons (ps_expr (pe_methC M_Game_part cl hr (by decide) (pv 0) (pa_cons (pe_op op_sub (pv 1) pe_int) (pa_cons (pe_tup (pa_cons (pe_ix (show IxR _ (rIx K) from ix_seq) (show PE _ _ (tFld K _ _) from pe_fld (pv 0) rfl) pe_int (fun _ _ => rfl)) pa_nil)) pa_nil))))
      (pss_cons (ps_set (i := 2) sc_Game_even_blacks.nd rfl (Or.inl rfl) (pe_ix (show IxR _ (rIx K) from ix_seq) (show PE _ _ (tFld K _ _) from pe_fld (pv 0) rfl) (pe_op op_sub (pv 1) pe_int) (fun _ _ => rfl)))
      (pss_cons (ps_while PassesOwn.never (pt_cmpR op_lt (pv 1) (pe_op op_sub (pe_callB (show CallR _ _ (rLenX K) from call_len) (by rfl) T.len (by decide +kernel) (pa_cons (show PE _ _ (tFld K _ _) from pe_fld (pv 0) rfl) pa_nil)) pe_int) (nomark _)) (pss_cons (ps_expr (pe_methC M_Game_part cl hr (by decide) (pv 0) (pa_cons (pv 1) (pa_cons (pe_tup (pa_cons (pe_ix (show IxR _ (rIx K) from ix_seq) (show PE _ _ (tFld K _ _) from pe_fld (pv 0) rfl) pe_int (fun _ _ => rfl)) (pa_cons (pe_ix (show IxR _ (rIx K) from ix_seq) (show PE _ _ (tFld K _ _) from pe_fld (pv 0) rfl) (pe_op (show OpR _ _ (rAddX K) from op_addX) (pv 1) pe_int) (fun _ _ => rfl)) pa_nil))) pa_nil))))
      (pss_cons (ps_expr (pe_methC M_Game_put cl hr (by decide) (pv 0) (pa_cons (pe_op (show OpR _ _ (rAddX K) from op_addX) (pv 1) pe_int) (pa_cons (pv 2) pa_nil))))
      (pss_cons (ps_expr (pe_methC M_Game_put cl hr (by decide) (pv 0) (pa_cons (pe_op op_sub (pv 1) pe_int) (pa_cons (pe_ix (show IxR _ (rIx K) from ix_seq) (show PE _ _ (tFld K _ _) from pe_fld (pv 0) rfl) pe_int (fun _ _ => rfl)) pa_nil))))
      (pss_cons (ps_expr (pe_methC M_Game_put cl hr (by decide) (pv 0) (pa_cons (pv 1) (pa_cons (pe_ix (show IxR _ (rIx K) from ix_seq) (show PE _ _ (tFld K _ _) from pe_fld (pv 0) rfl) pe_int (fun _ _ => rfl)) pa_nil))))
      (pss_one (ps_set (i := 1) sc_Game_even_blacks.nd rfl (Or.inl rfl) (pe_op (show OpR _ _ (rAddX K) from op_addX) (pv 1) pe_int))))))))
      (pss_one (ps_expr (pe_methC M_Game_put cl hr (by decide) (pv 0) (pa_cons (pv 1) (pa_cons (pe_ix (show IxR _ (rIx K) from ix_seq) (show PE _ _ (tFld K _ _) from pe_fld (pv 0) rfl) pe_int (fun _ _ => rfl)) pa_nil))))))))), ?_⟩
  refine body_m (K := K) (N := N_Game_even_blacks) (Pre := Pre_Game_even_blacks aG) (Post := Post_Game_even_blacks aG) (fun ss M hp => ?_) vs H Q E h
  obtain ⟨k, j, p, n, s, rfl, hG, hn, hn4, hn16, hev, hsl, hp3, hp100, hoff⟩ := hp
  have hpos := List.length_pos_iff.mpr hoff
  obtain ⟨b, hb⟩ : ∃ b, (offBlacks s.row).headD 0 = b := ⟨_, rfl⟩
  have hbm : b ∈ offBlacks s.row := by
    cases e : offBlacks s.row with
    | nil => exact absurd e hoff
    | cons a l =>
      rw [e] at hb
      have hb : a = b := hb
      subst hb
      exact List.mem_cons_self ..
  obtain ⟨hb3, hbn, hbo, _⟩ := off_mem (by rw [hn]; exact hev) hbm
  refine ⟨Nat.le_add_left 1 3, q_asg (d := .int b) (evp_ixS (ds := (offBlacks s.row).map fun (i : Nat) => PyData.int (i : Int)) (evs_is (evs_new (evn_lc (List.range (n / 2 - 1)) (fun (i : Nat) => PyData.int ((3 + 2 * i : Nat) : Int)) (fun i => s.row.getD (3 + 2 * i) 0 != s.row.getD 1 0) (fun (i : Nat) => PyData.int ((3 + 2 * i : Nat) : Int)) (evw_is (evw_r3 (n := n / 2 - 1) (eva_cons evp_int (eva_cons (evp_lenT (evp_fld rfl hG.at_ cl naR gf_row)) (eva_cons evp_int eva_nil))) ?_) ?_) (by rw [List.length_range]; omega) fun i hi => ?_)) ?_) evp_int (j := 0) (ixN_pos (by decide) (by rw [List.length_map]; omega)) ?_) ?_⟩
  · rw [List.length_map, hn]
    exact (rgC_even hn4 hn16 hev).2
  · unfold rgD
    rw [List.map_map]
    refine List.map_congr_left fun i _ => ?_
    show PyData.int (3 + (i : Int) * 2) = _
    congr 1
    omega
  · have hi := List.mem_range.mp hi
    exact ⟨_, gt_name (by simp), evt_is (evt_test (evp_ne (evp_rowAt (i := 3 + 2 * i) hG cl naR rfl (evp_var rfl) rfl (by omega)) (evp_rowAt (i := 1) hG cl naR rfl evp_int rfl (by omega)) rfl rfl)) (by rw [eqv_int]; rfl), fun _ => evp_var rfl⟩
  · unfold offBlacks
    rw [hn, List.filter_map, List.map_map]
    rfl
  · cases e : offBlacks s.row with
    | nil => exact absurd e hoff
    | cons a l =>
      rw [e] at hb
      have hb : a = b := hb
      rw [hb]
      rfl
  have hfin : ∀ M', GAt aG M' k j p (gblacks p s) → Post_Game_even_blacks aG [.l k] M (.d .none) M' := fun M' h => ⟨rfl, fun k2 j2 p2 s2 e h2 => by
    simp only [List.cons.injEq, Sl.l.injEq, and_true] at e
    subst e
    obtain ⟨a1, a2, a3⟩ := hG.uniq h2
    subst a1 a2 a3
    exact h⟩
  have hgb : gblacks p s = blackRun p ((gpart p (b - 1) [s.row.getD 0 0] s).row.getD (b - 1) 0) ((n - 1 - b) / 2) b (gpart p (b - 1) [s.row.getD 0 0] s) := by
    unfold gblacks
    rw [hb, hn]
  rw [hgb] at hfin
  have hpl := gpart_len p (b - 1) [s.row.getD 0 0] s
  refine q_exprX (ev_part hG ⟨hn, hn16, by omega⟩ rfl (evp_I0i (evp_var rfl) evp_int) (g := b - 1) (by omega) (by omega) (os := [s.row.getD 0 0]) (evp_tup (eva_cons (evp_rowAt (i := 0) hG cl naR rfl evp_int rfl (by omega)) eva_nil) (by show 1 ≤ 1000000; omega)) (by show 1 ≤ 2; omega) hp3 hp100 fun M1 hG1 => ?_)
  generalize gpart p (b - 1) [s.row.getD 0 0] s = s1 at hG1 hpl hfin
  refine q_asg (evp_rowAt (i := b - 1) hG1 cl naR rfl (evp_I0i (evp_var rfl) evp_int) (by omega) (by omega)) ?_
  generalize s1.row.getD (b - 1) 0 = strange at hfin
  obtain ⟨res, hres⟩ : ∃ res, res = blackRun p strange ((n - 1 - b) / 2) b s1 := ⟨_, rfl⟩
  rw [← hres] at hfin
  refine q_while (fun m es M2 => ∃ b' s' s3, es = [.l k, .d (.int ((b' : Nat) : Int)), .d (.int strange), s3] ∧ GAt aG M2 k j p s' ∧ s'.row.length = n ∧ b' % 2 = 1 ∧ 3 ≤ b' ∧ b' + 1 ≤ n ∧ m = (n - 1 - b') / 2 ∧ s'.sets.length + 4 * m ≤ 200 ∧ blackRun p strange m b' s' = res) ((n - 1 - b) / 2) ⟨b, s1, _, rfl, hG1, by omega, hbo, hb3, by omega, rfl, by omega, hres.symm⟩ ?_
  rintro m es1 M2 ⟨b', s', s3, rfl, hG2, hn2, hb1, hb2, hb4, hm, hsl2, hrun⟩
  refine ⟨decide (b' < n - 1), evt_is (evt_test (evp_I0b (evp_var rfl) (evp_I0i (evp_lenT (evp_fld rfl hG2.at_ cl naR gf_row)) evp_int))) ?_, fun hc => ?_, fun hc => ?_⟩
  · rw [decide_eq_decide, List.length_map, hn2]
    omega
  · have hc := of_decide_eq_true hc
    obtain ⟨m', rfl⟩ : ∃ m', m = m' + 1 := ⟨m - 1, by omega⟩
    have hrun : blackRun p strange m' (b' + 2) (black1 p strange s' b') = res := hrun
    obtain ⟨c1, c2⟩ := gpart_len p b' [s'.row.getD 1 0, s'.row.getD (b' + 2) 0] s'
    refine q_exprX (ev_part hG2 ⟨hn2, hn16, by omega⟩ rfl (evp_var rfl) (g := b') rfl (by omega) (os := [s'.row.getD 1 0, s'.row.getD (b' + 2) 0]) (evp_tup (eva_cons (evp_rowAt (i := 1) hG2 cl naR rfl evp_int rfl (by omega)) (eva_cons (evp_rowAt (i := b' + 2) hG2 cl naR rfl (evp_add (evp_var rfl) evp_int) (by omega) (by omega)) eva_nil)) (by show 2 ≤ 1000000; omega)) (by show 2 ≤ 2; omega) hp3 hp100 fun M3 hG3 => ?_)
    dsimp only [black1] at hrun
    generalize gpart p b' [s'.row.getD 1 0, s'.row.getD (b' + 2) 0] s' = u1 at hG3 c1 c2 hrun
    obtain ⟨d1, d2⟩ := gput_len (b' + 1) strange u1
    refine q_exprX (ev_put (n := n) hG3 ⟨by omega, hn16, by omega⟩ rfl (evp_add (evp_var rfl) evp_int) (g := b' + 1) (by omega) (by omega) (evp_var rfl) fun M4 hG4 => ?_)
    generalize gput (b' + 1) strange u1 = u2 at hG4 d1 d2 hrun
    obtain ⟨e1, e2⟩ := gput_len (b' - 1) (u2.row.getD 0 0) u2
    refine q_exprX (ev_put (n := n) hG4 ⟨by omega, hn16, by omega⟩ rfl (evp_I0i (evp_var rfl) evp_int) (g := b' - 1) (by omega) (by omega) (evp_rowAt (i := 0) hG4 cl naR rfl evp_int rfl (by omega)) fun M5 hG5 => ?_)
    generalize gput (b' - 1) (u2.row.getD 0 0) u2 = u3 at hG5 e1 e2 hrun
    obtain ⟨f1, f2⟩ := gput_len b' (u3.row.getD 1 0) u3
    refine q_exprX (ev_put (n := n) hG5 ⟨by omega, hn16, by omega⟩ rfl (evp_var rfl) (g := b') rfl (by omega) (evp_rowAt (i := 1) hG5 cl naR rfl evp_int rfl (by omega)) fun M6 hG6 => ?_)
    refine s_asg (evp_add (evp_var rfl) evp_int) ⟨_, m', by omega, Wk.refl _, b' + 2, _, _, rfl, hG6, by omega, by omega, by omega, by omega, by omega, by omega, hrun⟩
  · have hc := of_decide_eq_false hc
    have hm0 : m = 0 := by omega
    subst hm0
    have hrun : gput b' (s'.row.getD 1 0) s' = res := hrun
    exact s_exprX (ev_put (n := n) hG2 ⟨hn2, hn16, by omega⟩ rfl (evp_var rfl) (g := b') rfl (by omega) (evp_rowAt (i := 1) hG2 cl naR rfl evp_int rfl (by omega)) fun M3 hG3 => hfin M3 (by rw [← hrun]; exact hG3))
end
end Q
end
section
set_option Elab.async false
set_option linter.all false
set_option maxRecDepth 100000
set_option maxHeartbeats 4000000
/-! Wp: game_in. -/
namespace Q
open PySem PySem.Spec PyProof.Rows L2
section
variable {P : Program} {w : World} {K : PySem.W.Frag} {mg : Str → Option Value} {base : Heap} {aC aG : Addr} {t1 t2 t3 t4 : Tok}
theorem evs_fldL {es : List Sl} {M : List MO} {i k j : Nat} {C : Addr} {fs : List (Str × Sl)} {f : Str} {ds : List PyData} (hx : es[i]? = some (.l k)) (hm : M[k]? = some (.ins C fs)) (cl : Cls K C) (na : NoAttr K C f) (hf : fs.lookup f = some (.l j)) (hj : M[j]? = some (.lst ds)) : EvS K (tFld K (tVar i) f) es M ds := fun G H as σ R S Q q => by
  obtain ⟨a, dx, vs, ha, eo, ga, h1, h2⟩ := ins_at R S hx hm
  rcases h2.get (f := f) with ⟨z, _⟩ | ⟨sl, v, z, zv, hs⟩
  · rw [hf] at z
    cases z
  · rw [hf] at z
    cases z
    obtain ⟨b, hb, eb⟩ := hs
    cases eb
    obtain ⟨gb, xs, x1, x2⟩ := R.at_ j b _ hb hj
    exact ⟨_, eo, a, C, dx, vs, _, rfl, h1, cl, na, zv, q b xs G H (.refl R.ex) x1 x2⟩
def GameOk (p n : Nat) (r : List Int) : Prop := 3 ≤ p ∧ p ≤ 100 ∧ 4 ≤ n ∧ n ≤ 16 ∧ n % 2 = 0 ∧ r.length = n ∧ offBlacks (gwhites p ⟨r, []⟩).row ≠ []
def P_game_in : List PyData → PyData → Prop := fun ds d => ∃ (p n : Nat) (r : List Int), GameOk p n r ∧ ds = [.int p, rowD r] ∧ d = .tuple ((gameIn p r).sets.map gpD)
theorem L_game_in : ∀ ds d, P_game_in ds d → ds.length = 2 := fun ds d ⟨_, _, _, _, h, _⟩ => by rw [h]; rfl
abbrev s_game_in : Stmt := topS 30
def N_game_in : List Str := ["clock", "row", "game"]
theorem sc_game_in : FnScope N_game_in ["clock", "row"] (defScope s_game_in) := ⟨rfl, rfl, rfl, by decide +kernel, rfl, by decide +kernel, by decide +kernel⟩
theorem ok_game_in {f : Addr} {fd : FuncData} (F : Fun K "game_in" "game_in" s_game_in f fd) (T : Txt K mg aC t1 t2 t3 t4) (K_Game : MakeC P w K mg base "Game" aG 1 ["self", "clock", "row"] (spM K (Pre_Game___init__ aG) (Post_Game___init__ aG))) (M_Game_even_whites : MethC P w K mg base aG "even_whites" 4 ["self"] (spM K (Pre_Game_even_whites aG) (Post_Game_even_whites aG))) (M_Game_even_blacks : MethC P w K mg base aG "even_blacks" 4 ["self"] (spM K (Pre_Game_even_blacks aG) (Post_Game_even_blacks aG))) (cl : Cls K aG) (naS : NoAttr K aG "sets") : FnOk P w K mg base L2.CX0 5 f fd ["clock", "row"] (spP K P_game_in) := by
  refine F.ok sc_game_in (spP_len L_game_in) (fun cdv A outer s H vs Q E hr h => ?_)
  have hu64 := hr.units
  refine ⟨_, (pss_cons (ps_set (i := 2) sc_game_in.nd rfl (Or.inl rfl) (pe_makeC K_Game hr (by decide) (by rfl) (pa_cons (pv 0) (pa_cons (pv 1) pa_nil))))
      (pss_cons (ps_expr (pe_methC0 M_Game_even_whites cl hr (by decide) (pv 2)))
      (pss_cons (ps_expr (pe_methC0 M_Game_even_blacks cl hr (by decide) (pv 2)))
      (pss_one (ps_ret (pe_callTy (show CallR _ _ (rTupX K) from call_tuple_of) (by rfl) T.tuple (by decide +kernel) (pa_cons (show PE _ _ (tFld K _ _) from pe_fld (pv 2) rfl) pa_nil))))))), ?_⟩
  refine body_p (K := K) (N := N_game_in) (P := P_game_in) (fun ds d hp => ?_) vs H Q E h
  obtain ⟨p, n, r, ⟨hp3, hp100, hn4, hn16, hev, hn, hoff⟩, rfl, rfl⟩ := hp
  have hwl := whites_len p (n / 2 - 1) ⟨r, []⟩
  have hgw : gwhites p ⟨r, []⟩ = (List.range (n / 2 - 1)).foldl (white1 p) ⟨r, []⟩ := by
    unfold gwhites
    rw [hn]
  rw [← hgw] at hwl
  refine ⟨Nat.le_succ 2, q_asgX (Ξ := fun s M' => s = .l 0 ∧ GAt aG M' 0 1 p ⟨r, []⟩) (ev_make (evA_cons (Ψ := fun s M' => s = .d (.int p) ∧ M' = []) (ev_p (evp_var rfl) ⟨rfl, rfl⟩) fun s1 M1 ⟨e1, e2⟩ => ?_)) fun s1 M1 ⟨e1, hG⟩ => ?_⟩
  · rw [e1, e2]
    refine evA_cons (Ψ := fun s M' => s = .d (rowD r) ∧ M' = []) (ev_p (evp_var rfl) ⟨rfl, rfl⟩) fun s1 M1 ⟨e1, e2⟩ => evA_nil ?_
    rw [e1, e2]
    refine ⟨⟨0, p, r, rfl, rfl⟩, fun s2 M2 ⟨e3, k, p', r', e4, e5⟩ => ⟨e3, rfl, ?_⟩⟩
    simp only [List.cons.injEq, Sl.l.injEq, Sl.d.injEq, PyData.int.injEq, and_true] at e4
    obtain ⟨e6, e7, e8⟩ := e4
    have e7 : p = p' := by omega
    have e8 : r = r' := by
      unfold rowD at e8
      injection e8 with e8
      exact ints_inj e8
    have e6 : k = 0 := e6.symm
    subst e6 e7 e8
    rw [e5]
    exact ⟨rfl, rfl⟩
  rw [e1]
  refine q_exprX (ev_meth rfl hG.at_ (gf_none (by decide +kernel) (by decide +kernel) (by decide +kernel)) (evA_nil ⟨⟨0, 1, p, n, _, rfl, hG, hn, hn4, hn16, hev, Nat.zero_le _, hp3, hp100⟩, fun s2 M2 ⟨e3, h3⟩ => ?_⟩))
  have hG2 := h3 0 1 p _ rfl hG
  refine q_exprX (ev_meth rfl hG2.at_ (gf_none (by decide +kernel) (by decide +kernel) (by decide +kernel)) (evA_nil ⟨⟨0, 1, p, n, _, rfl, hG2, hwl.1.trans hn, hn4, hn16, hev, ?_, hp3, hp100, hoff⟩, fun s3 M3 ⟨e4, h4⟩ => ?_⟩))
  · have := hwl.2
    have e : (⟨r, []⟩ : GS).sets.length = 0 := rfl
    omega
  have hG3 := h4 0 1 p _ rfl hG2
  exact s_ret (evp_tupS (evs_fldL rfl hG3.at_ cl naS gf_sets hG3.sets)) rfl
end
end Q
end
section
set_option Elab.async false
set_option linter.all false
set_option maxRecDepth 100000
set_option maxHeartbeats 4000000
/-! Ql: super().__init__(..) in an own class. -/
namespace Q
open PySem PySem.Spec PyProof.Rows L2 NdefX PySem.W
section
variable {X : Cx} {pins : List (Addr × Obj)} {σ : L2.St} {H : Hp} {s : Shared}
/-- what the text must have that «super().__init__» stands in a def of class D for an instance of C, f2 being found -/
structure SupK (K : PySem.W.Frag) (P : Program) (mg : Str → Option Value) (f cda cc D C f2 : Addr) (fd : FuncData) : Prop where
  fn : ∃ oc od osl, K.lookup f = some ⟨oc, od, .func fd, osl⟩
  par : ∃ ar, (fd.params.posonlyargs ++ fd.params.args).head? = some ar ∧ ar.arg = "self"
  code : ∃ c d vs t tf file, K.lookup cda = some ⟨c, d, .fields vs, t⟩ ∧ vs[2]? = some (.str file tf) ∧ ((P.main.file : Str) == file) = true
  top : (P.main.scope.names.lookup ("super" : Str)).isSome = false
  cell : ∃ c d t, K.lookup cc = some ⟨c, d, .cell (some (.ref D)), t⟩
  cls : ∃ cd, PySem.W.clsIn K D = some cd
  clsC : ∃ cd, PySem.W.clsIn K C = some cd
  sub : PySem.W.mroIn K C (.ref D) = some true
  sup : mg "super" = none
  ops : PySem.W.nsIn K cStatics "thirdparty.any" = some none
  at_ : ks_superIn K C D "__init__" = some (some (.ref f2))
  ty : PySem.W.typeIn K (.ref f2) = some (.type "function")
  fi : PySem.W.fnIn K f2 = true
theorem sup_stmt {CX : CXT} {body : List Stmt} {e1 : Expr} {es : List Expr} {ta : TA} {p0 p1 apos pos pos2 : Pos} {f cda cc D C f2 x dx k2 : Addr} {fd : FuncData} {fs : List (Str × V)} {sp2 : Sp} {E : XK} {Qn : Hp → Prop} {pl : Sem Bool} (B : SupK X.K X.prog X.mg f cda cc D C f2 fd)
    (hks : X.env.kindOf "super" = some .globalImplicit) (hkc : X.env.kindOf "__class__" = some .free) (hka : X.env.kindOf "self" = some .local) (hfu : X.env.func = some f) (hco : X.env.code = .ref cda) (hcl : X.env.cells.lookup ("__class__" : Str) = some cc) (hN : X.N[0]? = some ("self" : Str))
    (I : Inv X pins σ H s) (hσ : σ[0]? = some (some (.ref x))) (e : H x = some (.ins C dx fs)) (F2 : FnR X.prog X.w X.K X.mg X.base CX k2 f2 sp2) (hr : Room k2 X.A) (hx : Passes CX X E) (ha : PA X (e1 :: es) ta)
    (h : ∀ q, H q = none → ta σ (upd H q (.met f2 x)) fun vs H1 => H1 q = some (.met f2 x) ∧ sp2 (.ref x :: vs) H1 (fun _ H2 => Qn H2) E)
    (hst : starEach (e1 :: es) X.env = (false, eval e1 X.env) :: starEach es X.env) (hpl : (backTo pos (starEach es X.env)).any (·.1) = false)
    (hsw : swapsWith (.Call (.Attribute (.Call (.Name "super" p0) [] [] p1) "__init__" apos) (e1 :: es) [] pos) none pos2.line X.env = pure false)
    (he : eval (.Call (.Attribute (.Call (.Name "super" p0) [] [] p1) "__init__" apos) (e1 :: es) [] pos) X.env = (do
      let ov ← attributeBase (.Call (.Name "super" p0) [] [] p1) "__init__" X.env (eval (.Call (.Name "super" p0) [] [] p1) X.env)
      standAt apos.atName
      let (f, first) ← holding [ov] (getMethod ov "__init__" pl)
      callWith pos f first (backTo pos (starEach (e1 :: es) X.env)) [])) :
    _root_.PySem.wpAt (model X.prog X.w) X.A (.func body X.env) (exec (.Expr (.Call (.Attribute (.Call (.Name "super" p0) [] [] p1) "__init__" apos) (e1 :: es) [] pos) pos2) X.env) (fun fl s' => fl = .next ∧ ∃ H', Inv X pins σ H' s' ∧ Qn H') X.xe s := by
  obtain ⟨oc, od, osl, lk⟩ := B.fn
  obtain ⟨ar, hp, har⟩ := B.par
  obtain ⟨cc1, cc2, cvs, cc3, tf, file, hcode, hvs, hfile⟩ := B.code
  obtain ⟨cl1, cl2, cl3, hcell⟩ := B.cell
  obtain ⟨cdD, hD⟩ := B.cls
  obtain ⟨cdC, hC⟩ := B.clsC
  have KX : X.K.In s.heap := I.kIn
  obtain ⟨hh, g, d, t, os⟩ := s
  obtain ⟨oD, hD1, hD2⟩ : ∃ oD, hh.get? D = some oD ∧ oD.data = .cls cdD := by
    unfold PySem.W.clsIn at hD
    split at hD
    · rename_i c d cd' sl ho
      cases hD
      exact ⟨_, KX _ _ ho, rfl⟩
    · cases hD
  obtain ⟨mA, O, _⟩ := ins_get I.hok e
  obtain ⟨odx, J, _⟩ := O.look
  obtain ⟨m, hn, hl⟩ := I.loc
  obtain ⟨u, ru, l⟩ := hl 0 "self" (.ref x) hN hσ (.inl hka)
  obtain rfl : u = Value.ref x := ru
  have hm : m "self" = some (.ref x) := by
    rcases l with ⟨_, z⟩ | ⟨z, _⟩
    · exact z
    · have z' : X.env.kindOf "self" = some .cell ∨ X.env.kindOf "self" = some .free := z
      rcases z' with z' | z' <;> rw [hka] at z' <;> cases z'
  have hkd : X.env.scope.kind = .function := I.ok.kind
  refine ks_wpAt_Expr_any (ks_wpAt_MethodCall (pl := pl) ?_ he) I.quiet hsw
  refine ks_wpAt_super_base hks hkc (by decide) hfu (KX _ _ lk) rfl hp hco (KX _ _ hcode) rfl hvs hfile B.top ?_
  obtain ⟨mb, hb1, hb2⟩ := I.mod.blt
  refine ks_loadName_global hkd hks (Calls.loadGlobal_builtin (by rw [I.ok.glob]; exact I.mod.glob.keeps I.bk) B.sup (by rw [I.ok.blt]; exact hb1.keeps I.bk) ((hb2 "super" (by decide)).trans (show bootBuiltins "super" = some (.type "super") by rfl)) ⟨rfl, ?_⟩)
  refine wpAny_loadName_free hkd hkc hcl ⟨_, KX _ _ hcell, rfl⟩ ?_
  rw [har]
  refine wpAny_loadName_local hkd hka hn hm ?_
  refine ks_wpAny_isType_cls hD1 hD2 ⟨rfl, ?_⟩
  refine ks_wpAny_call_super hD1 hD2 J.at_ J.cls (fun c ee => ?_) (PySem.W.looks_mroIn KX B.sub) (fun h' eso kp => ?_)
  · have := J.no
    unfold PySem.W.notCls at this
    rw [ee] at this
    exact Bool.noConfusion this
  have I1 : Inv X pins σ H ⟨h', g, d, t, os⟩ := I.kept kp
  have KX1 : X.K.In h' := I1.kIn
  obtain ⟨of, hof, hofc⟩ : ∃ of, h'.get? f2 = some of ∧ of.cls = .type "function" := by
    have ht' : (X.K.lookup f2).map (·.cls) = some (.type "function") := B.ty
    cases z : X.K.lookup f2 with
    | none => rw [z] at ht'; cases ht'
    | some of => rw [z] at ht'; exact ⟨of, KX1 _ _ z, Option.some.inj ht'⟩
  have hal : PySem.W.alongIn X.K "__init__" ((cdC.mro.dropWhile (· != .ref D)).drop 1) = some (some (.ref f2)) := by
    have z := B.at_
    unfold ks_superIn at z
    rw [hC] at z
    exact z
  obtain ⟨mA1, O1, _⟩ := ins_get I1.hok e
  obtain ⟨odx1, J1, _⟩ := O1.look
  refine ks_wpAny_getMethod_super eso (PySem.W.looks_opaque KX1 B.ops) (l₀ := cdC.mro) (fun A Q E s k q => wpAny_bind ((PySem.W.looks_clsIn KX1 hC) A _ E s k (wpAny_pure q))) rfl KX1 hal hof hofc (ks_ne KX1 J1 hC) (by decide) ?_
  have I2 : Inv X pins σ (upd H h'.objs.size (.met f2 x)) ⟨h'.push (PySem.W.methodObj (.ref f2) (.ref x)), g, d, t + 1, os⟩ :=
    I1.laid (t' := t + 1) (a := h'.objs.size) (o := .met f2 x) (fun b u z => Heap.get?_push_of_some _ z) (Nat.le_refl _) (show (h'.push (PySem.W.methodObj (.ref f2) (.ref x))).get? h'.objs.size = some (PySem.W.methodObj (.ref f2) (.ref x)) from Heap.get?_push_size h' rfl)
  have hq := h h'.objs.size (I1.hok.fresh (Nat.le_refl _))
  rw [hst]
  refine callwith_met (a := x) (by show (false || (backTo pos (starEach es X.env)).any (·.1) || false) = false; rw [hpl]; rfl) B.fi ?_
  have z := ha.run pos pins _ σ _ _ I2 hq
  rw [hst] at z
  refine Calls.evalArgs_plain (thn z fun us s3 ⟨vs, H1, I3, r, hmet, hsp⟩ => ⟨met_P I3 hmet, ?_⟩)
  refine wpAny_mono (wpAny_call (PySem.W.method_call (met_P I3 hmet).1 (run_fnR (us := .ref x :: us) (vs := .ref x :: vs) F2 hr hx I3 (.cons rfl r) hsp))) (fun v s' ⟨_, H', I', _, q⟩ => ⟨rfl, H', I', q⟩) fun _ _ z => z
end
section
variable {P : Program} {w : World} {K : PySem.W.Frag} {mg : Str → Option Value} {base : Heap} {k k2 : Nat} {f f2 cda cc D C : Addr} {name qual : Str} {params : Arguments} {rest : List Stmt} {scope : Scope} {dV kV doc pm ct oc : Value} {an od : Option Addr}
  {osl : Array (Option Value)} {N ps : List Str} {sp sp2 : Sp} {e1 : Expr} {es : List Expr} {p0 p1 apos pos pos2 : Pos} {pl : Sem Bool}
abbrev supS (p0 p1 apos pos pos2 : Pos) (e1 : Expr) (es : List Expr) : Stmt := .Expr (.Call (.Attribute (.Call (.Name "super" p0) [] [] p1) "__init__" apos) (e1 :: es) [] pos) pos2
abbrev supNF (name qual : Str) (params : Arguments) (body : List Stmt) (scope : Scope) (cc cda : Addr) : NF := ⟨name, qual, params, body, scope, [("__class__", cc)], cda⟩
theorem fn_sup (lk : K.lookup f = some ⟨oc, od, .func (PySem.W.fnX name qual params (supS p0 p1 apos pos pos2 e1 es :: rest) scope [("__class__", cc)] dV kV doc pm an (.ref cda) ct), osl⟩) (hcd : PySem.W.codeIn K (.ref cda) qual = true) (S : NScope N ps ["__class__"] scope)
    (B : SupK K P mg f cda cc D C f2 (PySem.W.fnX name qual params (supS p0 p1 apos pos pos2 e1 es :: rest) scope [("__class__", cc)] dV kV doc pm an (.ref cda) ct)) (F2 : FnR P w K mg base L2.CX0 k2 f2 sp2) (hk2 : k2 ≤ k)
    (hks : scope.names.lookup ("super" : Str) = some .globalImplicit) (hka : scope.names.lookup ("self" : Str) = some .local) (hN : N[0]? = some ("self" : Str))
    (hst : ∀ L, starEach (e1 :: es) (envF (supNF name qual params (supS p0 p1 apos pos pos2 e1 es :: rest) scope cc cda) f L) = (false, eval e1 (envF (supNF name qual params (supS p0 p1 apos pos pos2 e1 es :: rest) scope cc cda) f L)) :: starEach es (envF (supNF name qual params (supS p0 p1 apos pos pos2 e1 es :: rest) scope cc cda) f L))
    (hpl : ∀ L, (backTo pos (starEach es (envF (supNF name qual params (supS p0 p1 apos pos pos2 e1 es :: rest) scope cc cda) f L))).any (·.1) = false)
    (hsw : ∀ L, swapsWith (.Call (.Attribute (.Call (.Name "super" p0) [] [] p1) "__init__" apos) (e1 :: es) [] pos) none pos2.line (envF (supNF name qual params (supS p0 p1 apos pos pos2 e1 es :: rest) scope cc cda) f L) = pure false)
    (he : ∀ L, eval (.Call (.Attribute (.Call (.Name "super" p0) [] [] p1) "__init__" apos) (e1 :: es) [] pos) (envF (supNF name qual params (supS p0 p1 apos pos pos2 e1 es :: rest) scope cc cda) f L) = (do
      let ov ← attributeBase (.Call (.Name "super" p0) [] [] p1) "__init__" (envF (supNF name qual params (supS p0 p1 apos pos pos2 e1 es :: rest) scope cc cda) f L) (eval (.Call (.Name "super" p0) [] [] p1) (envF (supNF name qual params (supS p0 p1 apos pos pos2 e1 es :: rest) scope cc cda) f L))
      standAt apos.atName
      let (f0, first) ← holding [ov] (getMethod ov "__init__" pl)
      callWith pos f0 first (backTo pos (starEach (e1 :: es) (envF (supNF name qual params (supS p0 p1 apos pos pos2 e1 es :: rest) scope cc cda) f L))) []))
    (len : ∀ vs H Q E, sp vs H Q E → vs.length = ps.length)
    (hbody : ∀ (A : Around) (outer : List Env) (s : Shared) (H : Hp) (vs : List V) (Q : VK) (E : XK), Room k (A.deeper (envF (supNF name qual params (supS p0 p1 apos pos pos2 e1 es :: rest) scope cc cda) f s.heap.objs.size)) → sp vs H Q E →
      ∃ (x dx : Addr) (fs : List (Str × V)) (ta : TA) (t : TS), vs[0]? = some (.ref x) ∧ H x = some (.ins C dx fs) ∧
        PA (ncx L2.CX0 P w K mg base N (supNF name qual params (supS p0 p1 apos pos pos2 e1 es :: rest) scope cc cda) f A outer s H E) (e1 :: es) ta ∧
        PSs (ncx L2.CX0 P w K mg base N (supNF name qual params (supS p0 p1 apos pos pos2 e1 es :: rest) scope cc cda) f A outer s H E) rest t ∧
        ∀ q, H q = none → ta (startF N vs [none]) (upd H q (.met f2 x)) fun us H1 => H1 q = some (.met f2 x) ∧ sp2 (.ref x :: us) H1 (fun _ H2 => t { nx := fun _ H' => Q .non H', rt := Q } (startF N vs [none]) H2) L2.E0) :
    FnOk P w K mg base L2.CX0 (k + 1) f (PySem.W.fnX name qual params (supS p0 p1 apos pos pos2 e1 es :: rest) scope [("__class__", cc)] dV kV doc pm an (.ref cda) ct) ps sp := by
  refine ⟨len, fun A outer s H args us vs Q E hr e0 hb r hsp => ?_⟩
  have hl := len _ _ _ _ hsp
  have KX : K.In s.heap := e0.mod.kin.keeps fun b o e => (e0.bs b o e).1
  have lim : s.heap.NoLimit := e0.mod.nolimit.keeps fun b o e => (e0.bs b o e).1
  refine ks_codeAny_call_defAt (body := supS p0 p1 apos pos pos2 e1 es :: rest) (binds := ps.zip us) hr.depth (KX _ _ lk) rfl lim (PySem.W.codeRec_of KX hcd) rfl hb S.nocell (fun y hy => S.par y.1 (List.of_mem_zip hy).1) (fun h₁ hns kp => ?_) S.co S.gen S.kind
  obtain ⟨cl1, cl2, cl3, hcell⟩ := B.cell
  have hone : ∀ y c, ([("__class__", cc)] : List (Str × Addr)).lookup y = some c → y = "__class__" ∧ c = cc := fun y c e => by
    rw [List.lookup_cons] at e
    cases z : y == ("__class__" : Str) with
    | true =>
      rw [z] at e
      exact ⟨beq_iff_eq.mp z, (Option.some.inj e).symm⟩
    | false =>
      rw [z] at e
      cases e
  have CA : CellsAt [("__class__", cc)] ["__class__"] [none] s.heap H := by
    refine ⟨rfl, fun y c e => ?_, fun x y c e1 e2 => (hone x c e1).1.trans (hone y c e2).1.symm, fun i y e => ?_⟩
    · obtain ⟨_, rfl⟩ := hone y c e
      exact ⟨(e0.bs _ _ (e0.mod.kin _ _ hcell)).2, some (.ref D), _, KX _ _ hcell, rfl⟩
    · cases i with
      | zero =>
        have e : some ("__class__" : Str) = some y := e
        cases e
        refine ⟨cc, by rw [List.lookup_cons, beq_self_eq_true], fun v ev => ?_⟩
        have ev : some (none : Option V) = some (some v) := ev
        cases ev
      | succ i =>
        rw [List.getElem?_cons_succ] at e
        cases e
  obtain ⟨x, dx, fs, ta, t, hx0, hins, hpa, hps, hq⟩ := hbody A outer s H vs Q E (hr.deeper _) hsp
  have I := inv_startN (tk := s.toks + (ps.zip us).length) (CX := L2.CX0) (E := E) (F := supNF name qual params (supS p0 p1 apos pos pos2 e1 es :: rest) scope cc cda) (f := f) S hr.hd e0 hl r CA hns kp
  refine ks_wpAt_execs_cons (ks_wpAt_mono (sup_stmt (X := ncx L2.CX0 P w K mg base N (supNF name qual params (supS p0 p1 apos pos pos2 e1 es :: rest) scope cc cda) f A outer s H E) (k2 := k2) (E := L2.E0) (Qn := fun H2 => t { nx := fun _ H' => Q .non H', rt := Q } (startF N vs [none]) H2)
    B hks (S.frk _ (by simp)) hka rfl rfl (by show List.lookup _ [(("__class__" : Str), cc)] = _; rw [List.lookup_cons, beq_self_eq_true]) hN I ?_ hins F2 ((hr.deeper _).mono hk2) L2.pass0 hpa hq (hst _) (hpl _) (hsw _) (he _)) (fun fl s' hs => ?_) fun e s' hs => hs)
  · unfold startF
    rw [List.getElem?_append_left (by rw [List.length_map]; exact (List.getElem?_eq_some_iff.mp hx0).1), List.getElem?_map, hx0]
    rfl
  · obtain ⟨rfl, H', I', q⟩ := hs
    refine wpAt_of_wpAny (wpAny_mono (hps.run [] s' _ H' _ I' q) (fun fl s' hs => ?_) fun e s' hs => hs)
    have fin : ∀ {σ' : L2.St} {H' : Hp} {v : V} {u : Value}, L2.Inv (ncx L2.CX0 P w K mg base N (supNF name qual params (supS p0 p1 apos pos pos2 e1 es :: rest) scope cc cda) f A outer s H E) [] σ' H' s' → L2.RelV v u → Q v H' → CE outer P w H s Q u s' :=
      fun {σ' H' v u} J rv q => ⟨v, H', J.os, J.bare, J.base, J.hok, rv, q⟩
    cases fl with
    | ret u =>
      obtain ⟨v, σ', H', J, rv, q⟩ := hs
      exact fin J rv q
    | next =>
      obtain ⟨σ', H', J, q⟩ := hs
      exact fin (v := V.non) (u := Value.none) J rfl q
    | brk =>
      obtain ⟨_, _, _, q⟩ := hs
      exact False.elim q
    | cont =>
      obtain ⟨_, _, _, q⟩ := hs
      exact False.elim q
end
end Q
end
section
set_option Elab.async false
set_option linter.all false
set_option maxRecDepth 100000
set_option maxHeartbeats 4000000
/-! Wq: papers: fixed, Paper.__init__. -/
namespace Q
open PySem PySem.Spec PyProof.Rows L2
/-- what fixed makes, by the depth -/
def FixS (Q0 : List PyData → PyData → Prop) : List PyData → PyData → Prop := fun ds d => (∃ i, ds = [.int i] ∧ d = .int i) ∨ ∃ (t : Bool) (xs : List PyData) (g : PyData → PyData), xs.length ≤ 1000 ∧ ds = [seqD t xs] ∧ d = .tuple (xs.map g) ∧ ∀ x ∈ xs, Q0 [x] (g x)
def P_fixed : Nat → List PyData → PyData → Prop
  | 0 => fun _ _ => False
  | n + 1 => FixS (P_fixed n)
theorem L_fixS {Q0 : List PyData → PyData → Prop} : ∀ ds d, FixS Q0 ds d → ds.length = 1 := fun ds d h => by
  rcases h with ⟨_, h, _⟩ | ⟨_, _, _, _, h, _⟩ <;> rw [h] <;> rfl
section
variable {P : Program} {w : World} {K : PySem.W.Frag} {mg : Str → Option Value} {base : Heap} {aC aG : Addr} {t1 t2 t3 t4 : Tok}
abbrev s_fixed : Stmt := topS 15
def N_fixed : List Str := ["value", "each"]
theorem sc_fixed : FnScope N_fixed ["value"] (defScope s_fixed) := ⟨rfl, rfl, rfl, by decide +kernel, rfl, by decide +kernel, by decide +kernel⟩
theorem fixS_ok {j : Nat} {Q0 : List PyData → PyData → Prop} {f : Addr} {fd : FuncData} (F : Fun K "fixed" "fixed" s_fixed f fd) (T : Txt K mg aC t1 t2 t3 t4) (C_fixed : Callee P w K mg base "fixed" j ["value"] (spP K Q0)) : FnOk P w K mg base L2.CX0 (j + 1) f fd ["value"] (spP K (FixS Q0)) := by
  refine F.ok sc_fixed (spP_len L_fixS) (fun cdv A outer s H vs Q E hr h => ?_)
  have hu64 := hr.units
  refine ⟨_, (pss_one (ps_ret (pe_ifExp (pt_val (pe_callB call_isiT (by rfl) T.isinstance (by decide +kernel) (pa_cons (pv 0) (pa_cons (pe_tup (pa_cons (pe_bltn (v := .ty "list") (by rfl) T.list (by decide +kernel) rfl) (pa_cons (pe_bltn (v := .ty "tuple") (by rfl) T.tuple (by decide +kernel) rfl) pa_nil))) pa_nil)))) (pe_callTy call_tuple_of (by rfl) T.tuple (by decide +kernel) (pa_cons (pe_lc (own := [("each", 1)]) rfl sc_fixed.nd (pi_seqX (pv 0)) (blkOk_by (own := [("each", 1)]) (N := N_fixed) (sc := defScope s_fixed) (by decide +kernel)) (fun _ _ _ _ _ => (pg_name (i := 1) sc_fixed.nd rfl (Or.inl rfl))) (fun _ _ _ _ _ => pts_nil) (fun _ _ _ _ _ => (pe_callC C_fixed hr (Nat.le_refl _) (by rfl) (pa_cons (pv 1) pa_nil)))) pa_nil)) (pv 0)))), ?_⟩
  refine body_p (K := K) (N := N_fixed) (P := FixS Q0) (fun ds d hp => ?_) vs H Q E h
  rcases hp with ⟨i, rfl, rfl⟩ | ⟨t, xs, g, hl, rfl, rfl, hg⟩
  · exact ⟨by show 1 ≤ 2; omega, s_ret (evp_if (evt_test (evp_isiT (d := .int i) (evp_var rfl) kit_il)) (fun h => by cases h) fun _ => evp_var rfl) rfl⟩
  · cases t with
    | true =>
      refine ⟨by show 1 ≤ 2; omega, s_ret (evp_if (evt_test (evp_isiT (d := .tuple xs) (evp_var rfl) kit_tl)) (fun _ => evp_tupS (evs_new (evn_lcy xs (fun x => x) g ?_ (by omega) fun x hx => ⟨_, gt_name (by simp), evp_call (eva_cons (evp_var rfl) eva_nil) (hg x hx)⟩))) fun h => by cases h) rfl⟩
      rw [List.map_id']
      exact evw_T (evp_var rfl)
    | false =>
      refine ⟨by show 1 ≤ 2; omega, s_ret (evp_if (evt_test (evp_isiT (d := .list xs) (evp_var rfl) kit_ll)) (fun _ => evp_tupS (evs_new (evn_lcy xs (fun x => x) g ?_ (by omega) fun x hx => ⟨_, gt_name (by simp), evp_call (eva_cons (evp_var rfl) eva_nil) (hg x hx)⟩))) fun h => by cases h) rfl⟩
      rw [List.map_id']
      exact evw_L (evp_var rfl)
theorem ok_fixed {f : Addr} {fd : FuncData} (F : Fun K "fixed" "fixed" s_fixed f fd) (T : Txt K mg aC t1 t2 t3 t4) (hm : mg "fixed" = some (.ref f)) (hk : PySem.W.keepIn K (.ref f) = true) (hb : Binds K fd ["value"] []) : ∀ n, FnOk P w K mg base L2.CX0 n f fd ["value"] (spP K (P_fixed n))
  | 0 => ⟨fun vs H Q E ⟨_, _, _, _, _, h, _⟩ => h.elim, fun A outer s H args us vs Q E hr e0 hbt hv ⟨_, _, _, _, _, h, _⟩ => h.elim⟩
  | n + 1 => fixS_ok F T ⟨f, fd, ok_fixed F T hm hk hb n, hm, hk, hb⟩
end
end Q
namespace Q
open PySem PySem.Spec PyProof.Rows L2
abbrev s_Paper___init__ : Stmt := inClass (topS 16) 0
def N_Paper___init__ : List Str := ["self", "word", "parts"]
theorem sc_Paper___init__ : FnScope N_Paper___init__ ["self", "word", "parts"] (defScope s_Paper___init__) := ⟨rfl, rfl, rfl, by decide +kernel, rfl, by decide +kernel, by decide +kernel⟩
theorem seqD_inj {t t' : Bool} {xs ys : List PyData} (h : seqD t xs = seqD t' ys) : t = t' ∧ xs = ys := by
  cases t <;> cases t' <;> unfold seqD at h <;> simp_all
theorem fix_uniq : ∀ (n : Nat) (ds : List PyData) (d d' : PyData), P_fixed n ds d → P_fixed n ds d' → d = d'
  | 0, _, _, _, h, _ => h.elim
  | n + 1, ds, d, d', h, h' => by
    rcases h with ⟨i, rfl, rfl⟩ | ⟨t, xs, g, _, rfl, rfl, hg⟩ <;> rcases h' with ⟨i', e, rfl⟩ | ⟨t', xs', g', _, e, rfl, hg'⟩
    · cases e
      rfl
    · exfalso
      cases t' <;> cases e
    · exfalso
      cases t <;> cases e
    · injection e with e _
      obtain ⟨rfl, rfl⟩ := seqD_inj e
      congr 1
      exact List.map_congr_left fun x hx => fix_uniq n _ _ _ (hg x hx) (hg' x hx)
/-- fields of a paper -/
def pf (x : Str) (pd : PyData) : List (Str × Sl) := [("word", .d (.str x)), ("parts", .d pd)]
section
variable {P : Program} {w : World} {K : PySem.W.Frag} {mg : Str → Option Value} {base : Heap} {aC aG C : Addr} {t1 t2 t3 t4 : Tok}
def Pre_Paper (C : Addr) : List Sl → List MO → Prop := fun ss M => ∃ (k : Nat) (x : Str) (ds : List PyData) (pd : PyData), ss = [.l k, .d (.str x), .d (.tuple ds)] ∧ M[k]? = some (.ins C []) ∧ P_fixed 4 [.tuple ds] pd
/-- the promise of Paper.__init__: the word x, the parts ds, which fixed makes pd of -/
def spPaper (K : PySem.W.Frag) (C : Addr) : Sp := fun vs H Q _ => ∃ (G : Hp) (as : List Addr) (M : List MO) (k : Nat) (a : Addr) (x : Str) (ds : List PyData) (pd : PyData) (us : List V), Rep K G H as M ∧ as[k]? = some a ∧ M[k]? = some (.ins C []) ∧ vs = .ref a :: .str x :: us ∧ AtL K G ds us ∧ ds.length ≤ 1000 ∧ P_fixed 4 [.tuple ds] pd ∧
  ∀ G' H' as', Step as G H as' G' H' → Rep K G' H' as' (M.set k (.ins C (pf x pd))) → Q .non H'
theorem ok_Paper {f : Addr} {fd : FuncData} (F : Fun K "__init__" "Paper.__init__" s_Paper___init__ f fd) (T : Txt K mg aC t1 t2 t3 t4) (cl : Cls K C) (naW : NoAttr K C "word") (naP : NoAttr K C "parts") (C_fixed : Callee P w K mg base "fixed" 4 ["value"] (spP K (P_fixed 4)))
    (hb : ∀ us rest : List Value, us.length = 2 → bindArgs fd ⟨us ++ rest, []⟩ = (newTuple rest >>= fun t => pure ((["self", "word"] : List Str).zip us ++ [(("parts" : Str), t)]))) : FnR P w K mg base L2.CX0 6 f (spPaper K C) := by
  obtain ⟨oc, od, kV, doc, pm, an, cdv, ct, osl, rfl, lk, hcd⟩ := F.ex
  refine FnR.imp (StX.fn_star (k := 5) (N := N_Paper___init__) (ps := ["self", "word"]) (pv := "parts") (sp := spM K (Pre_Paper C) fun ss M s M' => s = .d .none ∧ ∃ (k : Nat) (x : Str) (pd : PyData) (ds : List PyData), ss = [.l k, .d (.str x), .d (.tuple ds)] ∧ P_fixed 4 [.tuple ds] pd ∧ M' = M.set k (.ins C (pf x pd))) lk hcd sc_Paper___init__ StX.cxUp_none hb (fun A outer s H vs Q E hr h => ?_)) fun vs H Q E h => ?_
  · have hu64 := hr.units
    refine ⟨_, (pss_cons (ps_fld (pv 0) (pv 1) rfl) (pss_one (ps_fld (pv 0) (pe_callC C_fixed hr (by decide) (by rfl) (pa_cons (pv 2) pa_nil)) rfl))), ?_⟩
    refine body_m (K := K) (N := N_Paper___init__) (fun ss M hp => ?_) vs H Q E h
    obtain ⟨k, x, ds, pd, rfl, hM, hf⟩ := hp
    refine ⟨Nat.le_refl 3, q_fld (evp_var rfl) rfl hM cl naW (by decide) (s_fld (evp_call (eva_cons (evp_var rfl) eva_nil) hf) rfl (setAt0 hM) cl naP (by show 1 < 1000; omega) ⟨rfl, k, x, pd, ds, rfl, hf, ?_⟩)⟩
    rw [List.set_set]
    rfl
  · obtain ⟨G, as, M, k, a, x, ds, pd, us, R, ha, hM, rfl, au, hl, hf, kk⟩ := h
    refine ⟨[.ref a, .str x], us, rfl, rfl, by rw [← au.length]; exact sz6 (by omega), fun p hp => ?_⟩
    have s1 : StepP G H (upd G p (.tup us)) (upd H p (.tup us)) := .new R.ex hp
    have R1 := R.stepP s1
    refine ⟨_, as, [.l k, .d (.str x), .d (.tuple ds)], M, R1, .cons ⟨a, ha, rfl⟩ (.cons ⟨_, rfl, .str x⟩ (.cons ⟨_, rfl, .tup (.inl upd_same) (au.up s1.g)⟩ .nil)), ⟨k, x, ds, pd, rfl, hM, hf⟩, fun s M' v G' H' as' hp s2 R2 a2 => ?_⟩
    obtain ⟨rfl, k', x', pd', ds', e, hf', rfl⟩ := hp
    obtain ⟨w, ew, aw⟩ := a2
    cases ew
    cases aw
    simp only [List.cons.injEq, Sl.l.injEq, Sl.d.injEq, PyData.str.injEq, PyData.tuple.injEq, and_true] at e
    obtain ⟨rfl, rfl, rfl⟩ := e
    rw [fix_uniq 4 _ _ _ hf' hf] at R2
    exact kk G' H' as' (s1.step.trans s2) R2
end
end Q
end
section
set_option Elab.async false
set_option linter.all false
set_option maxRecDepth 100000
set_option maxHeartbeats 4000000
/-! Wr: Led.__init__, Chess.__init__. -/
namespace Q
open PySem PySem.Spec PyProof.Rows L2 NdefX PySem.W
/-- a method of a class that names super() -/
structure FunC (K : PySem.W.Frag) (x qual : Str) (st : Stmt) (cc cda f : Addr) (fd : FuncData) : Prop where
  ex : ∃ (oc : Value) (od : Option Addr) (dV kV doc pm : Value) (an : Option Addr) (ct : Value) (osl : Array (Option Value)),
    fd = PySem.W.fnX x qual (defArgs st) (defBody st) (defScope st) [("__class__", cc)] dV kV doc pm an (.ref cda) ct ∧ K.lookup f = some ⟨oc, od, .func fd, osl⟩ ∧ PySem.W.codeIn K (.ref cda) qual = true
abbrev s_Led___init__ : Stmt := inClass (topS 21) 0
def N_Led___init__ : List Str := ["self", "sets", "__class__"]
theorem sc_Led___init__ : NScope N_Led___init__ ["self", "sets"] ["__class__"] (defScope s_Led___init__) := nscope_by (by decide +kernel)
abbrev s_Chess___init__ : Stmt := inClass (topS 22) 0
def N_Chess___init__ : List Str := ["self", "__class__"]
theorem sc_Chess___init__ : NScope N_Chess___init__ ["self"] ["__class__"] (defScope s_Chess___init__) := nscope_by (by decide +kernel)
/-- fields of a Led -/
def lf (e : PyData) : List (Str × Sl) := [("word", .d (.str "led")), ("parts", .d (.tuple [e])), ("sets", .d e)]
def cf : List (Str × Sl) := pf "chess" (.tuple [])
section
variable {P : Program} {w : World} {K : PySem.W.Frag} {mg : Str → Option Value} {base : Heap} {aC aL aX : Addr} {t1 t2 t3 t4 : Tok}
def Pre_Led (C : Addr) : List Sl → List MO → Prop := fun ss M => ∃ (k : Nat) (d e : PyData), ss = [.l k, .d d] ∧ M[k]? = some (.ins C []) ∧ P_fixed 3 [d] e
def Post_Led (C : Addr) : List Sl → List MO → Sl → List MO → Prop := fun ss M s M' => s = .d .none ∧ ∃ (k : Nat) (d e : PyData), ss = [.l k, .d d] ∧ P_fixed 3 [d] e ∧ M' = M.set k (.ins C (lf e))
theorem L_Led : ∀ ss M, Pre_Led aL ss M → ss.length = 2 := fun ss M ⟨_, _, _, h, _⟩ => by rw [h]; rfl
theorem ok_Led {f cc cda fP : Addr} {fd : FuncData} (F : FunC K "__init__" "Led.__init__" s_Led___init__ cc cda f fd) (B : SupK K P mg f cda cc aL aL fP fd) (FP : FnR P w K mg base L2.CX0 6 fP (spPaper K aL)) (cl : Cls K aL) (naP : NoAttr K aL "parts") (naS : NoAttr K aL "sets") :
    FnOk P w K mg base L2.CX0 7 f fd ["self", "sets"] (spM K (Pre_Led aL) (Post_Led aL)) := by
  obtain ⟨oc, od, dV, kV, doc, pm, an, ct, osl, rfl, lk, hcd⟩ := F.ex
  refine fn_sup (k := 6) (N := N_Led___init__) (C := aL) lk hcd sc_Led___init__ B FP (Nat.le_refl 6) (by decide +kernel) (by decide +kernel) rfl (fun L => rfl) (fun L => rfl) (fun L => rfl) (fun L => rfl) (spM_len L_Led) (fun A outer s H vs Q E hr h => ?_)
  obtain ⟨G, as, ss, M, R, av, ⟨k, d, e, rfl, hM, hf⟩, kk⟩ := h
  obtain ⟨x, v, rfl, hx, avd⟩ : ∃ x v, vs = [V.ref x, v] ∧ as[k]? = some x ∧ At K G d v := by
    cases av with
    | cons h1 h2 =>
      cases h2 with
      | cons h2 h3 =>
        cases h3
        obtain ⟨x, hx, e1⟩ := h1
        obtain ⟨v, e2, av⟩ := h2
        cases e1
        cases e2
        exact ⟨x, _, rfl, hx, av⟩
  obtain ⟨gx, dx, fs, hHx, hfs⟩ := R.at_ k x _ hx hM
  cases hfs
  refine ⟨x, dx, [], _, _, rfl, hHx, pa_cons pe_str (pa_cons (pv 1) pa_nil), pss_one (ps_fld (pv 0) (pe_ix (show IxR _ (rIx K) from ix_seq) (show PE _ _ (tFld K _ _) from pe_fld (pv 0) rfl) pe_int (fun _ _ => rfl)) rfl), fun q hq => ?_⟩
  refine ⟨v, rfl, upd_same, ?_⟩
  have R1 : Rep K G (upd H q (.met fP x)) as M := R.stepP ⟨.refl G, .new hq, R.ex.mut (R.ex.free hq), fun _ _ z => z⟩
  refine ⟨G, as, M, k, x, "led", [d], .tuple [e], [v], R1, hx, hM, rfl, .one avd, by show 1 ≤ 1000; omega, .inr ⟨true, [d], fun _ => e, by show 1 ≤ 1000; omega, rfl, rfl, fun y hy => by rw [List.mem_singleton.mp hy]; exact hf⟩, fun G' H' as' st R' => ?_⟩
  have S' : SlotsAt K G' as' [.l k, .d d, .un] (startF N_Led___init__ [V.ref x, v] [none]) := by
    obtain ⟨new, en, _⟩ := st.more
    refine ⟨rfl, fun i s o h1 h2 => ?_⟩
    match i, h1, h2 with
    | 0, h1, h2 =>
      cases h1
      cases h2
      exact ⟨x, by rw [en, List.getElem?_append_left (List.getElem?_eq_some_iff.mp hx).1]; exact hx, rfl⟩
    | 1, h1, h2 =>
      cases h1
      cases h2
      exact ⟨v, rfl, avd.up st.g⟩
    | 2, h1, h2 =>
      cases h1
      trivial
  have hM' := setAt0 (m' := MO.ins aL (pf "led" (.tuple [e]))) hM
  have hlk : (pf "led" (.tuple [e])).lookup ("parts" : Str) = some (.d (.tuple [e])) := by
    unfold pf
    rw [List.lookup_cons, show (("parts" : Str) == "word") = false by decide +kernel, List.lookup_cons, beq_self_eq_true]
  refine (s_fld (n0 := as'.length) (Φ := fun o => o = .nx [.l k, .d d, .un] ((M.set k (.ins aL (pf "led" (.tuple [e])))).set k (.ins aL (lf e)))) (evp_ixT (evp_fld rfl hM' cl naP hlk) evp_int rfl rfl) rfl hM' cl naS (by show 2 < 1000; omega) ?_) as' G' H' rfl G' H' as' _ (.refl R'.ex) R' S' _ (fun o G2 H2 as2 po st2 g2 => ?_)
  · unfold pf lf putS
    rw [if_neg (show ¬ ("word" : Str) = "sets" by decide +kernel)]
    unfold putS
    rw [if_neg (show ¬ ("parts" : Str) = "sets" by decide +kernel)]
    rfl
  · subst po
    refine fun σ2 R2 S2 => kk (.d .none) _ .non G2 H2 as2 ⟨rfl, k, d, e, rfl, hf, List.set_set ..⟩ (((StepP.mk (.refl G) (.new hq) (R.ex.mut (R.ex.free hq)) fun _ _ z => z : StepP G H G (upd H q (.met fP x))).step.trans st).trans st2) R2 ⟨.non, rfl, .non⟩
def Pre_Chess (C : Addr) : List Sl → List MO → Prop := fun ss M => ∃ (k : Nat), ss = [.l k] ∧ M[k]? = some (.ins C [])
def Post_Chess (C : Addr) : List Sl → List MO → Sl → List MO → Prop := fun ss M s M' => s = .d .none ∧ ∃ (k : Nat), ss = [.l k] ∧ M' = M.set k (.ins C cf)
theorem L_Chess : ∀ ss M, Pre_Chess aX ss M → ss.length = 1 := fun ss M ⟨_, h, _⟩ => by rw [h]; rfl
theorem ok_Chess {f cc cda fP : Addr} {fd : FuncData} (F : FunC K "__init__" "Chess.__init__" s_Chess___init__ cc cda f fd) (B : SupK K P mg f cda cc aX aX fP fd) (FP : FnR P w K mg base L2.CX0 6 fP (spPaper K aX)) :
    FnOk P w K mg base L2.CX0 7 f fd ["self"] (spM K (Pre_Chess aX) (Post_Chess aX)) := by
  obtain ⟨oc, od, dV, kV, doc, pm, an, ct, osl, rfl, lk, hcd⟩ := F.ex
  refine fn_sup (k := 6) (N := N_Chess___init__) (C := aX) lk hcd sc_Chess___init__ B FP (Nat.le_refl 6) (by decide +kernel) (by decide +kernel) rfl (fun L => rfl) (fun L => rfl) (fun L => rfl) (fun L => rfl) (spM_len L_Chess) (fun A outer s H vs Q E hr h => ?_)
  obtain ⟨G, as, ss, M, R, av, ⟨k, rfl, hM⟩, kk⟩ := h
  obtain ⟨x, rfl, hx⟩ : ∃ x, vs = [V.ref x] ∧ as[k]? = some x := by
    cases av with
    | cons h1 h2 =>
      cases h2
      obtain ⟨x, hx, e1⟩ := h1
      cases e1
      exact ⟨x, rfl, hx⟩
  obtain ⟨gx, dx, fs, hHx, hfs⟩ := R.at_ k x _ hx hM
  cases hfs
  refine ⟨x, dx, [], _, _, rfl, hHx, pa_cons pe_str pa_nil, pss_nil, fun q hq => ?_⟩
  refine ⟨upd_same, ?_⟩
  have R1 : Rep K G (upd H q (.met fP x)) as M := R.stepP ⟨.refl G, .new hq, R.ex.mut (R.ex.free hq), fun _ _ z => z⟩
  refine ⟨G, as, M, k, x, "chess", [], .tuple [], [], R1, hx, hM, rfl, .nil, Nat.zero_le _, .inr ⟨true, [], fun _ => .none, Nat.zero_le _, rfl, rfl, fun y hy => by cases hy⟩, fun G' H' as' st R' => ?_⟩
  exact kk (.d .none) _ .non G' H' as' ⟨rfl, k, rfl, rfl⟩ ((StepP.mk (.refl G) (.new hq) (R.ex.mut (R.ex.free hq)) fun _ _ z => z : StepP G H G (upd H q (.met fP x))).step.trans st) R' ⟨.non, rfl, .non⟩
end
end Q
end
section
set_option Elab.async false
set_option linter.all false
set_option maxRecDepth 100000
set_option maxHeartbeats 4000000
/-! Wd: the law's own reading of rows: chess, strange, next, played, crossed. -/
namespace Q
open PySem PySem.Spec PyProof.Rows L2
/-! plain readings -/
def lchess (r : List Int) : Bool := (List.range r.length).all fun i => r.getD i 0 == r.getD (i % 2) 0
def lstrange (r : List Int) : List Nat := if lchess r then [] else (List.range r.length).filter fun g => lchess (r.set g (cy r (g + r.length - 2)))
def lnext (p : Nat) (r : List Int) : List (List Int) := ((List.range r.length).filter (mayIn r)).flatMap fun g => ((List.range p).filter fun (x : Nat) => (x : Int) != r.getD g 0).map fun (x : Nat) => r.set g (x : Int)
/-- what the row says at a gap -/
def stepAt (r : List Int) (g : Nat) : Int := cy r (g + r.length - 1) - cy r (g + 1)
def crossD (q : Bool × Nat) : PyData := .tuple [.str (if q.1 then "over" else "under"), .int q.2]
def crossAdd (p : Nat) (at_ step x : Int) (g : Nat) (cs : List (Bool × Nat)) (m : Nat) : List (Bool × Nat) :=
  if (at_ + (m : Int) * step - x) % (p : Int) = 0 then (if 2 * m < p then cs ++ List.replicate m (true, g) else cs ++ List.replicate (p - m) (false, g)) else cs
def played (p : Nat) : List Int → List (Nat × Nat) → List (Bool × Nat) → Option (List Int × List (Bool × Nat))
  | r, [], cs => some (r, cs)
  | r, (g, x) :: ps, cs => if stepAt r g % (p : Int) = 0 then none else played p (r.set g (x : Int)) ps ((List.range p).foldl (crossAdd p (r.getD g 0) (stepAt r g % (p : Int)) (x : Int) g) cs)
def playedD : Option (List Int × List (Bool × Nat)) → PyData
  | some (r, cs) => .tuple [.list (r.map .int), .list (cs.map crossD)]
  | none => .tuple [.none, .list []]
def cross1 (p : Nat) (r : List Int) (q : Bool × Nat) : List Int := r.set q.2 ((r.getD q.2 0 + (if q.1 then stepAt r q.2 else -stepAt r q.2)) % (p : Int))
def crossed (p : Nat) (r : List Int) (cs : List (Bool × Nat)) : List Int := cs.foldl (cross1 p) r
def pairN (q : Nat × Nat) : PyData := .tuple [.int q.1, .int q.2]
/-! data that may be held against data -/
def lay (d : PyData) (k : Nat) : Prop := d.canLay0 = true ∧ d.depth ≤ k
theorem shaped_lay {d : PyData} {k : Nat} (h : lay d k) (hk : k ≤ 64) : SeqAt.shaped d = true := by
  unfold SeqAt.shaped
  rw [h.1, decide_eq_true (Nat.le_trans h.2 hk)]
  rfl
theorem layAll : ∀ {ds : List PyData} {k : Nat}, (∀ d ∈ ds, lay d k) → PyData.canLayAll0 ds = true ∧ PyData.depthAll ds ≤ k
  | [], k, _ => ⟨rfl, Nat.zero_le k⟩
  | d :: ds, k, h => by
    obtain ⟨h1, h2⟩ := layAll (ds := ds) fun x hx => h x (List.mem_cons_of_mem _ hx)
    obtain ⟨h3, h4⟩ := h d (List.mem_cons_self ..)
    refine ⟨?_, ?_⟩
    · show (d.canLay0 && PyData.canLayAll0 ds) = true
      rw [h3, h1]
      rfl
    · show max d.depth (PyData.depthAll ds) ≤ k
      omega
theorem lay_list {ds : List PyData} {k : Nat} (h : ∀ d ∈ ds, lay d k) : lay (.list ds) (k + 1) := by
  obtain ⟨h1, h2⟩ := layAll h
  exact ⟨h1, Nat.succ_le_succ h2⟩
theorem lay_tup {ds : List PyData} {k : Nat} (h : ∀ d ∈ ds, lay d k) : lay (.tuple ds) (k + 1) := by
  obtain ⟨h1, h2⟩ := layAll h
  exact ⟨h1, Nat.succ_le_succ h2⟩
theorem lay_int (i : Int) : lay (.int i) 0 := ⟨rfl, Nat.le_refl 0⟩
theorem lay_ints (ns : List Int) : ∀ d ∈ ns.map PyData.int, lay d 0 := fun d hd => by
  obtain ⟨n, _, rfl⟩ := List.mem_map.mp hd
  exact lay_int n
theorem shaped_ints (ns : List Int) : SeqAt.shaped (.list (ns.map PyData.int)) = true := shaped_lay (lay_list (lay_ints ns)) (by omega)
theorem shaped_nats {ns : List Nat} : SeqAt.shaped (.list (ns.map fun (i : Nat) => PyData.int (i : Int))) = true := shaped_lay (k := 1) (lay_list fun d hd => by
  obtain ⟨n, _, rfl⟩ := List.mem_map.mp hd
  exact lay_int n) (by omega)
theorem eqv_nil (ds : List PyData) : PyData.eqv (.list ds) (.list []) = ds.isEmpty := by
  cases ds <;> simp [PyData.eqv, PyData.eqvAll]
theorem eqv_ints : ∀ (a b : List Int), PyData.eqv (.list (a.map PyData.int)) (.list (b.map PyData.int)) = (a == b) := by
  intro a b
  have : ∀ (a b : List Int), PyData.eqvAll (a.map PyData.int) (b.map PyData.int) = (a == b) := by
    intro a
    induction a with
    | nil =>
      intro b
      cases b <;> rfl
    | cons x xs ih =>
      intro b
      cases b with
      | nil => rfl
      | cons y ys =>
        show (PyData.eqv (.int x) (.int y) && PyData.eqvAll (xs.map PyData.int) (ys.map PyData.int)) = (x :: xs == y :: ys)
        rw [ih, eqv_int]
        rfl
  show PyData.eqvAll (a.map PyData.int) (b.map PyData.int) = (a == b)
  exact this a b
section
variable {K : PySem.W.Frag} {te tb : TE} {tl th : TO} {es : List Sl} {M : List MO} {ds : List PyData} {d : PyData} {t : Bool} {i : Int} {j : Nat}
/-! lists and tuples alike -/
theorem evp_ixX (ha : EvP K te es M (seqD t ds)) (hb : EvP K tb es M (.int i)) (hj : ixN ds.length i = some j) (h : ds[j]? = some d) : EvP K (tOp (rIx K) te tb) es M d := by
  cases t
  · exact evp_ixS (evs_of ha) hb hj h
  · exact evp_ixT ha hb hj h
theorem evp_lenX (ha : EvP K te es M (seqD t ds)) : EvP K (tCB (rLenX K) (tCons te tNil)) es M (.int ds.length) := by
  cases t
  · exact evp_lenS (evs_of ha)
  · exact evp_lenT ha
theorem evn_listX (ha : EvP K te es M (seqD t ds)) : EvN K (tCB (rListX K) (tCons te tNil)) es M (.lst ds) := by
  cases t
  · exact evn_listS (evs_of ha)
  · exact evn_listT ha
theorem evw_X (ha : EvP K te es M (seqD t ds)) : EvW K (iSeqX K te) es M ds := by
  cases t
  · exact evw_L ha
  · exact evw_T ha
theorem evp_slX {lo hi : Option Int} (ha : EvP K te es M (seqD t ds)) (hl : EvO K tl es M lo) (hh : EvO K th es M hi) : EvP K (tSl (rSlX K) te tl th) es M (seqD t (cutD ds lo hi)) := by
  cases t
  · exact evp_of_new (evn_slS (evs_of ha) hl hh)
  · exact evp_slT ha hl hh
end
theorem getD_get {r : List Int} {i : Nat} (h : i < r.length) : (r.map PyData.int)[i]? = some (.int (r.getD i 0)) := by
  rw [map_int_get h, List.getD_eq_getElem?_getD, List.getElem?_eq_getElem h]
  rfl
theorem ixN_two {n : Nat} {g : Nat} (h : g < n) (h2 : 2 ≤ n) : ixN n ((g : Int) - 2) = some ((g + n - 2) % n) := by
  unfold ixN
  by_cases e : 2 ≤ g
  · have h1 : (g + n - 2) % n = g - 2 := by
      have : g + n - 2 = (g - 2) + n := by omega
      rw [this, Nat.add_mod_right, Nat.mod_eq_of_lt (by omega)]
    rw [if_pos (by omega), if_pos (by omega), h1]
    congr 1
    omega
  · have h1 : (g + n - 2) % n = g + n - 2 := Nat.mod_eq_of_lt (by omega)
    rw [if_neg (by omega), if_pos (by omega), h1]
    congr 1
    omega
theorem ixN_nat {n g : Nat} (h : g < n) : ixN n (g : Int) = some g := by
  have := ixN_pos (n := n) (z := (g : Int)) (by omega) (by omega)
  rwa [Int.toNat_natCast] at this
theorem cut_set2 {r : List Int} {g : Nat} {x : PyData} (h : g < r.length) : cutD (r.map PyData.int) none (some (g : Int)) ++ [x] ++ cutD (r.map PyData.int) (some ((g : Int) + 1)) none = (r.map PyData.int).set g x := by
  have h1 : HT.sIx (r.map PyData.int).length (r.map PyData.int).length (some (g : Int)) = g := by
    rw [List.length_map, HT.sIx_nat]
    omega
  have h2 : HT.sIx (r.map PyData.int).length 0 (some ((g : Int) + 1)) = g + 1 := by
    rw [List.length_map, show ((g : Int) + 1) = ((g + 1 : Nat) : Int) by omega, HT.sIx_nat]
    omega
  unfold cutD
  rw [h1, h2]
  show List.take (g - 0) (List.drop 0 _) ++ _ ++ _ = _
  rw [List.drop_zero, Nat.sub_zero, List.set_eq_take_append_cons_drop, if_pos (by rw [List.length_map]; exact h), List.append_assoc]
  congr 1
  show x :: _ = _
  congr 1
  rw [List.take_of_length_le]
  · rfl
  · show _ ≤ (r.map PyData.int).length - (g + 1)
    rw [List.length_drop]
    exact Nat.le_refl _
section
variable {P : Program} {w : World} {K : PySem.W.Frag} {mg : Str → Option Value} {base : Heap} {aC : Addr} {t1 t2 t3 t4 : Tok}
def P__law_is_chess : List PyData → PyData → Prop := fun ds d => ∃ (t : Bool) (r : List Int), 2 ≤ r.length ∧ r.length ≤ 1000 ∧ ds = [seqD t (r.map .int)] ∧ d = .bool (lchess r)
theorem L__law_is_chess : ∀ ds d, P__law_is_chess ds d → ds.length = 1 := fun ds d ⟨_, _, _, _, h, _⟩ => by rw [h]; rfl
abbrev s__law_is_chess : Stmt := topS 54
def N__law_is_chess : List Str := ["_law_row", "_law_at"]
theorem sc__law_is_chess : FnScope N__law_is_chess ["_law_row"] (defScope s__law_is_chess) := ⟨rfl, rfl, rfl, by decide +kernel, rfl, by decide +kernel, by decide +kernel⟩
theorem ok__law_is_chess {f : Addr} {fd : FuncData} (F : Fun K "_law_is_chess" "_law_is_chess" s__law_is_chess f fd) (T : Txt K mg aC t1 t2 t3 t4) : FnOk P w K mg base L2.CX0 1 f fd ["_law_row"] (spP K P__law_is_chess) := by
  refine F.ok sc__law_is_chess (spP_len L__law_is_chess) (fun cdv A outer s H vs Q E hr h => ?_)
  have hu64 := hr.units
  refine ⟨_, (pss_one (ps_ret (pe_cmpR (show OpR _ _ (rEqD K) from op_eqD hu64) (pe_lc (own := [("_law_at", 1)]) rfl sc__law_is_chess.nd (pi_range1 (by rfl) T.range (pa_cons (pe_callB (show CallR _ _ (rLenX K) from call_len) (by rfl) T.len (by decide +kernel) (pa_cons (pv 0) pa_nil)) pa_nil)) (blkOk_by (own := [("_law_at", 1)]) (N := N__law_is_chess) (sc := defScope s__law_is_chess) (by decide +kernel)) (fun _ _ _ _ _ => (pg_name (i := 1) sc__law_is_chess.nd rfl (Or.inl rfl))) (fun _ _ _ _ _ => (pts_one (pt_cmpR (show OpR _ _ (rNeD K) from op_neD hu64) (pe_ix (show IxR _ (rIx K) from ix_seq) (pv 0) (pv 1) (fun _ _ => rfl)) (pe_ix (show IxR _ (rIx K) from ix_seq) (pv 0) (pe_op op_mod (pe_callTy call_int1 (by rfl) T.int (by decide +kernel) (pa_cons (pv 1) pa_nil)) pe_int) (fun _ _ => rfl)) (nomark _)))) (fun _ _ _ _ _ => (pv 1))) (pe_lst pa_nil) (nomark _)))), ?_⟩
  refine body_p (K := K) (N := N__law_is_chess) (P := P__law_is_chess) (fun ds d hp => ?_) vs H Q E h
  obtain ⟨t, r, h2, hl, rfl, rfl⟩ := hp
  refine ⟨Nat.le_succ 1, s_ret (evp_is (evp_eq (evp_of_new (evn_lc (List.range r.length) (fun (i : Nat) => PyData.int (i : Int)) (fun i => !(r.getD i 0 == r.getD (i % 2) 0)) (fun (i : Nat) => PyData.int (i : Int)) (evw_rn (eva_cons (evp_is (evp_lenX (evp_var rfl)) (by rw [List.length_map])) eva_nil) (by omega)) (by rw [List.length_range]; omega) fun i hi => ?_)) (evp_of_new (evn_lst eva_nil (Nat.zero_le _))) shaped_nats rfl) ?_) rfl⟩
  · have hi := List.mem_range.mp hi
    have hm := Nat.mod_lt i (show 0 < 2 by omega)
    refine ⟨_, gt_name (by simp), evt_is (evt_test (evp_ne (evp_ixX (evp_var rfl) (evp_var rfl) (by rw [List.length_map]; exact ixN_nat hi) (getD_get hi)) (evp_ixX (j := i % 2) (evp_var rfl) (evp_Ii (evp_intI (evp_var rfl)) evp_int (by decide)) ?_ (getD_get (by omega))) rfl rfl)) ?_, fun _ => evp_var rfl⟩
    · rw [List.length_map]
      exact ixN_nat (g := i % 2) (by omega)
    · rw [eqv_int]
  · rw [eqv_nil]
    unfold lchess
    congr 1
    rw [Bool.eq_iff_iff]
    simp [List.isEmpty_iff, List.filter_eq_nil_iff]
def P__law_strange : List PyData → PyData → Prop := fun ds d => ∃ (t : Bool) (r : List Int), 2 ≤ r.length ∧ r.length ≤ 1000 ∧ ds = [seqD t (r.map .int)] ∧ d = .list ((lstrange r).map fun (i : Nat) => .int (i : Int))
theorem L__law_strange : ∀ ds d, P__law_strange ds d → ds.length = 1 := fun ds d ⟨_, _, _, _, h, _⟩ => by rw [h]; rfl
abbrev s__law_strange : Stmt := topS 55
def N__law_strange : List Str := ["_law_row", "_law_gap"]
theorem sc__law_strange : FnScope N__law_strange ["_law_row"] (defScope s__law_strange) := ⟨rfl, rfl, rfl, by decide +kernel, rfl, by decide +kernel, by decide +kernel⟩
theorem ok__law_strange {f : Addr} {fd : FuncData} (F : Fun K "_law_strange" "_law_strange" s__law_strange f fd) (T : Txt K mg aC t1 t2 t3 t4) (C__law_is_chess : Callee P w K mg base "_law_is_chess" 1 ["_law_row"] (spP K P__law_is_chess)) : FnOk P w K mg base L2.CX0 2 f fd ["_law_row"] (spP K P__law_strange) := by
  refine F.ok sc__law_strange (spP_len L__law_strange) (fun cdv A outer s H vs Q E hr h => ?_)
  have hu64 := hr.units
  refine ⟨_, (pss_cons (ps_if (pt_val (pe_callC C__law_is_chess hr (by decide) (by rfl) (pa_cons (pv 0) pa_nil))) (pss_one (ps_ret (pe_lst pa_nil))) pss_nil)
      (pss_one (ps_ret (pe_lc (own := [("_law_gap", 1)]) rfl sc__law_strange.nd (pi_range1 (by rfl) T.range (pa_cons (pe_callB (show CallR _ _ (rLenX K) from call_len) (by rfl) T.len (by decide +kernel) (pa_cons (pv 0) pa_nil)) pa_nil)) (blkOk_by (own := [("_law_gap", 1)]) (N := N__law_strange) (sc := defScope s__law_strange) (by decide +kernel)) (fun _ _ _ _ _ => (pg_name (i := 1) sc__law_strange.nd rfl (Or.inl rfl))) (fun _ _ _ _ _ => (pts_one (pt_val (pe_callC C__law_is_chess hr (by decide) (by rfl) (pa_cons (pe_op (show OpR _ _ (rAddX K) from op_addX) (pe_op (show OpR _ _ (rAddX K) from op_addX) (pe_callTy (show CallR _ _ (rListX K) from call_list_of) (by rfl) T.list (by decide +kernel) (pa_cons (pe_slice (show SlR _ (rSlX K) from sl_X) (pv 0) po_none (po_some (pv 1))) pa_nil)) (pe_lst (pa_cons (pe_ix (show IxR _ (rIx K) from ix_seq) (pv 0) (pe_op op_sub (pv 1) pe_int) (fun _ _ => rfl)) pa_nil))) (pe_callTy (show CallR _ _ (rListX K) from call_list_of) (by rfl) T.list (by decide +kernel) (pa_cons (pe_slice (show SlR _ (rSlX K) from sl_X) (pv 0) (po_some (pe_op (show OpR _ _ (rAddX K) from op_addX) (pv 1) pe_int)) po_none) pa_nil))) pa_nil))))) (fun _ _ _ _ _ => (pv 1)))))), ?_⟩
  refine body_p (K := K) (N := N__law_strange) (P := P__law_strange) (fun ds d hp => ?_) vs H Q E h
  obtain ⟨t, r, h2, hl, rfl, rfl⟩ := hp
  refine ⟨Nat.le_succ 1, q_if (evt_test (evp_call (eva_cons (evp_var rfl) eva_nil) ⟨t, r, h2, hl, rfl, rfl⟩)) (fun h => ?_) fun h => q_next ?_⟩
  · unfold lstrange
    rw [if_pos h]
    exact s_ret (evp_of_new (evn_lst eva_nil (Nat.zero_le _))) rfl
  · unfold lstrange
    rw [if_neg (by rw [h]; exact Bool.false_ne_true)]
    refine s_ret (evp_of_new (evn_lc (List.range r.length) (fun (i : Nat) => PyData.int (i : Int)) (fun g => lchess (r.set g (cy r (g + r.length - 2)))) (fun (i : Nat) => PyData.int (i : Int)) (evw_rn (eva_cons (evp_is (evp_lenX (evp_var rfl)) (by rw [List.length_map])) eva_nil) (by omega)) (by rw [List.length_range]; omega) fun g hg => ?_)) rfl
    have hg := List.mem_range.mp hg
    have ll : ∀ lo hi, (cutD (r.map PyData.int) lo hi).length ≤ r.length := fun lo hi => Nat.le_trans (cutD_len _ _ _) (by rw [List.length_map]; exact Nat.le_refl _)
    have l1 := ll none (some (g : Int))
    have l2 := ll (some ((g : Int) + 1)) none
    refine ⟨_, gt_name (by simp), evt_test (evp_call (eva_cons (evp_of_new (evn_cat (evs_new (evn_cat (evs_new (evn_listX (evp_slX (evp_var rfl) evo_none (evo_some (evp_var rfl))))) (evs_new (evn_lst (eva_cons (evp_ixX (evp_var rfl) (evp_I0i (evp_var rfl) evp_int) (by rw [List.length_map]; exact ixN_two hg h2) (cy_get (by omega))) eva_nil) (by show 1 ≤ 1000000; omega))) ?_)) (evs_new (evn_listX (evp_slX (evp_var rfl) (evo_some (evp_add (evp_var rfl) evp_int)) evo_none))) ?_)) eva_nil) ⟨false, r.set g (cy r (g + r.length - 2)), by rw [List.length_set]; exact h2, by rw [List.length_set]; exact hl, ?_, rfl⟩), fun _ => evp_var rfl⟩
    · show _ + 1 ≤ 1000000
      omega
    · rw [List.length_append]
      show _ + 1 + _ ≤ 1000000
      omega
    · rw [cut_set2 hg, List.map_set]
      rfl
def P__law_next : List PyData → PyData → Prop := fun ds d => ∃ (p : Nat) (r : List Int), p ≤ 100 ∧ r.length ≤ 100 ∧ 2 ≤ r.length ∧ ds = [.int p, rowD r] ∧ d = .list ((lnext p r).map rowD)
theorem L__law_next : ∀ ds d, P__law_next ds d → ds.length = 2 := fun ds d ⟨_, _, _, _, _, h, _⟩ => by rw [h]; rfl
def lnextTo (p : Nat) (r : List Int) (n : Nat) : List (List Int) := ((List.range n).filter (mayIn r)).flatMap fun g => ((List.range p).filter fun (x : Nat) => (x : Int) != r.getD g 0).map fun (x : Nat) => r.set g (x : Int)
theorem lnextTo_succ (p : Nat) (r : List Int) (n : Nat) : lnextTo p r (n + 1) = lnextTo p r n ++ (if mayIn r n then ((List.range p).filter fun (x : Nat) => (x : Int) != r.getD n 0).map fun (x : Nat) => r.set n (x : Int) else []) := by
  unfold lnextTo
  rw [List.range_succ, List.filter_append, List.flatMap_append]
  congr 1
  by_cases h : mayIn r n = true
  · simp [h]
  · simp [h]
theorem lnextTo_len (p : Nat) (r : List Int) : ∀ n, (lnextTo p r n).length ≤ n * p
  | 0 => by simp [lnextTo]
  | n + 1 => by
    rw [lnextTo_succ, List.length_append, Nat.add_mul, Nat.one_mul]
    have := lnextTo_len p r n
    have h2 : (if mayIn r n then ((List.range p).filter fun (x : Nat) => (x : Int) != r.getD n 0).map fun (x : Nat) => r.set n (x : Int) else []).length ≤ p := by
      split
      · rw [List.length_map]
        exact Nat.le_trans (List.length_filter_le _ _) (by rw [List.length_range]; exact Nat.le_refl _)
      · exact Nat.zero_le _
    omega
abbrev s__law_next : Stmt := topS 56
def N__law_next : List Str := ["_law_clock", "_law_row", "_law_found", "_law_size", "_law_gap", "_law_number"]
theorem sc__law_next : FnScope N__law_next ["_law_clock", "_law_row"] (defScope s__law_next) := ⟨rfl, rfl, rfl, by decide +kernel, rfl, by decide +kernel, by decide +kernel⟩
theorem ok__law_next {f : Addr} {fd : FuncData} (F : Fun K "_law_next" "_law_next" s__law_next f fd) (T : Txt K mg aC t1 t2 t3 t4) : FnOk P w K mg base L2.CX0 1 f fd ["_law_clock", "_law_row"] (spP K P__law_next) := by
  refine F.ok sc__law_next (spP_len L__law_next) (fun cdv A outer s H vs Q E hr h => ?_)
  have hu64 := hr.units
  refine ⟨_, (pss_cons (ps_par (i := 2) (j := 3) rfl sc__law_next.nd rfl rfl (by decide) rfl rfl (pa_cons (pe_lst pa_nil) (pa_cons (pe_callB (show CallR _ _ (rLenX K) from call_len) (by rfl) T.len (by decide +kernel) (pa_cons (pv 1) pa_nil)) pa_nil)) rfl)
      (pss_cons (ps_for PassesOwn.never rfl (pi_range1 (by rfl) T.range (pa_cons (pv 3) pa_nil)) (pg_name (i := 4) sc__law_next.nd rfl (Or.inr rfl)) (pss_one (ps_if (pt_cmpR (show OpR _ _ (rNeD K) from op_neD hu64) (pe_ix (show IxR _ (rIx K) from ix_seq) (pv 1) (pe_op op_sub (pv 4) pe_int) (fun _ _ => rfl)) (pe_ix (show IxR _ (rIx K) from ix_seq) (pv 1) (pe_op op_mod (pe_callTy call_int1 (by rfl) T.int (by decide +kernel) (pa_cons (pe_op (show OpR _ _ (rAddX K) from op_addX) (pv 4) pe_int) pa_nil)) (pv 3)) (fun _ _ => rfl)) (nomark _)) (pss_one (ps_expr (pe_bm PySem.F.plainAttrs_list PySem.F.slot_list_extend PySem.F.type_list_extend mt_extend (pv 2) (pa_cons (pe_lc (own := [("_law_number", 5)]) rfl sc__law_next.nd (pi_range1 (by rfl) T.range (pa_cons (pv 0) pa_nil)) (blkOk_by (own := [("_law_number", 5)]) (N := N__law_next) (sc := defScope s__law_next) (by decide +kernel)) (fun _ _ _ _ _ => (pg_name (i := 5) sc__law_next.nd rfl (Or.inl rfl))) (fun _ _ _ _ _ => (pts_one (pt_cmpR (show OpR _ _ (rNeD K) from op_neD hu64) (pv 5) (pe_ix (show IxR _ (rIx K) from ix_seq) (pv 1) (pv 4) (fun _ _ => rfl)) (nomark _)))) (fun _ _ _ _ _ => (pe_op (show OpR _ _ (rAddX K) from op_addX) (pe_op (show OpR _ _ (rAddX K) from op_addX) (pe_slice (show SlR _ (rSlX K) from sl_X) (pv 1) po_none (po_some (pv 4))) (pe_tup (pa_cons (pv 5) pa_nil))) (pe_slice (show SlR _ (rSlX K) from sl_X) (pv 1) (po_some (pe_op (show OpR _ _ (rAddX K) from op_addX) (pv 4) pe_int)) po_none)))) pa_nil)))) pss_nil)))
      (pss_one (ps_ret (pv 2))))), ?_⟩
  refine body_p (K := K) (N := N__law_next) (P := P__law_next) (fun ds d hp => ?_) vs H Q E h
  obtain ⟨p, r, hp1, hl, h2, rfl, rfl⟩ := hp
  refine ⟨Nat.le_add_left 2 4, q_parX (Ξ := fun s1 s2 M' => s1 = .l 0 ∧ s2 = .d (.int r.length) ∧ M' = [.lst []]) (by decide) (evA_cons (Ψ := fun s M' => s = .l 0 ∧ M' = [.lst []]) (ev_n (evn_lst eva_nil (Nat.zero_le _)) ⟨rfl, rfl⟩) fun s M' ⟨e1, e2⟩ => ?_) fun s1 s2 M' ⟨e1, e2, e3⟩ => ?_⟩
  · subst e1 e2
    exact evA_cons (Ψ := fun s M' => s = .d (.int r.length) ∧ M' = [.lst []]) (ev_p (evp_is (evp_lenT (evp_var rfl)) (by rw [List.length_map])) ⟨rfl, rfl⟩) fun s M' ⟨e1, e2⟩ => evA_nil ⟨_, _, rfl, rfl, e1, e2⟩
  · subst e1 e2 e3
    refine q_for (ds := (List.range r.length).map fun (i : Nat) => PyData.int (i : Int)) (fun i es M => ∃ s s', es = [.d (.int p), .d (rowD r), .l 0, .d (.int r.length), s, s'] ∧ M = [.lst ((lnextTo p r i).map rowD)]) (evw_rn (eva_cons (evp_var rfl) eva_nil) (by omega)) ⟨_, _, rfl, rfl⟩ ?_ ?_
    · rintro g d es1 M1 hi ⟨s, s', rfl, rfl⟩
      have hg := (List.getElem?_eq_some_iff.mp hi).1
      rw [List.length_map, List.length_range] at hg
      have hi : PyData.int (g : Int) = d := by
        rw [List.getElem?_map, List.getElem?_range hg] at hi
        exact Option.some.inj hi
      subst hi
      have hn : 0 < r.length := by omega
      have hs := lnextTo_succ p r g
      refine ⟨_, [4], gt_name (by simp), s_if (b := mayIn r g) (evt_is (evt_test (evp_ne (evp_ixT (evp_var rfl) (evp_I0i (evp_var rfl) evp_int) (by rw [List.length_map]; exact ixN_back hg) (cy_get hn)) (evp_ixT (evp_var rfl) (evp_Ii (evp_intI (evp_add (evp_var rfl) evp_int)) (evp_var rfl) (by omega)) (by rw [List.length_map]; exact ixN_fwd hn) (cy_get hn)) rfl rfl)) (by rw [eqv_int]; rfl)) (fun h => ?_) fun h => s_next ?_⟩
      · have ll : ∀ lo hi, (cutD (r.map PyData.int) lo hi).length ≤ r.length := fun lo hi => Nat.le_trans (cutD_len _ _ _) (by rw [List.length_map]; exact Nat.le_refl _)
        have l1 := ll none (some (g : Int))
        have l2 := ll (some ((g : Int) + 1)) none
        rw [if_pos h] at hs
        refine s_ext (evs_new (evn_lc (List.range p) (fun (i : Nat) => PyData.int (i : Int)) (fun (x : Nat) => (x : Int) != r.getD g 0) (fun (x : Nat) => rowD (r.set g (x : Int))) (evw_rn (eva_cons (evp_var rfl) eva_nil) (by omega)) (by rw [List.length_range]; omega) fun x hx => ⟨_, gt_name (by simp), evt_is (evt_test (evp_ne (evp_var rfl) (evp_ixT (evp_var rfl) (evp_var rfl) (by rw [List.length_map]; exact ixN_nat hg) (getD_get hg)) rfl rfl)) (by rw [eqv_int]; rfl), fun _ => evp_is (evp_addT (evp_addT (evp_slT (evp_var rfl) evo_none (evo_some (evp_var rfl))) (evp_tup (eva_cons (evp_var rfl) eva_nil) (by show 1 ≤ 1000000; omega)) ?_) (evp_slT (evp_var rfl) (evo_some (evp_add (evp_var rfl) evp_int)) evo_none) ?_) ?_⟩)) rfl rfl ?_ ⟨_, Wk.refl _, _, _, rfl, ?_⟩
        · show _ + 1 ≤ 1000000
          omega
        · rw [List.length_append]
          show _ + 1 + _ ≤ 1000000
          omega
        · rw [cut_set2 hg]
          unfold rowD
          rw [List.map_set]
        · rw [List.length_map, List.length_map]
          have a1 := lnextTo_len p r g
          have a2 := List.length_filter_le (fun (x : Nat) => (x : Int) != r.getD g 0) (List.range p)
          rw [List.length_range] at a2
          have : g * p ≤ 100 * 100 := Nat.mul_le_mul (by omega) hp1
          omega
        · rw [hs, List.map_append, List.map_map]
          rfl
      · rw [if_neg (by rw [h]; exact Bool.false_ne_true), List.append_nil] at hs
        exact ⟨_, Wk.refl _, _, _, rfl, by rw [hs]⟩
    · rintro es1 M1 ⟨s, s', rfl, rfl⟩
      rw [List.length_map, List.length_range]
      exact sx_frz (M := []) (Nat.le_refl 0) rfl (s_ret (evp_var rfl) rfl)
end
end Q
end
section
set_option Elab.async false
set_option linter.all false
set_option maxRecDepth 100000
set_option maxHeartbeats 4000000
/-! Pa: equations made least, solved: the plain readings. -/
namespace Q
open PySem
def P3 (p : Nat) : Prop := p = 3 ∨ p = 5 ∨ p = 7
def inR (p : Nat) (r : List Int) : Prop := ∀ x ∈ r, 0 ≤ x ∧ x < (p : Int)
def subRow (p : Nat) (t : Int) (a b : List Int) : List Int := (a.zip b).map fun q => (q.1 - t * q.2) % (p : Int)
def redStep (p : Nat) (left : List Int) (q : Nat × List Int) : List Int := subRow p (left.getD q.1 0) left q.2
def leadsOf (r : List Int) : List Nat := (List.range r.length).filter fun i => r.getD i 0 != 0
def invsOf (p : Nat) (x : Int) : List Nat := (List.range p).filter fun (n : Nat) => ((n : Int) * x) % (p : Int) == 1
def scale (p : Nat) (b : Int) (r : List Int) : List Int := r.map fun x => (b * x) % (p : Int)
def clearIn (p : Nat) (lead : Nat) (new : List Int) (q : Nat × List Int) : Nat × List Int := (q.1, subRow p (q.2.getD lead 0) q.2 new)
def foundD (q : Nat × List Int) : PyData := .tuple [.int q.1, .list (q.2.map .int)]
def srtF (xs : List (Nat × List Int)) : List (Nat × List Int) := xs.mergeSort (PySem.W.dataLe false foundD)
def addRow (p : Nat) (found : List (Nat × List Int)) (left : List Int) : List (Nat × List Int) :=
  match leadsOf left with
  | [] => found
  | lead :: _ =>
    let new := scale p ((invsOf p (left.getD lead 0)).headD 0 : Nat) left
    srtF (found.map (clearIn p lead new) ++ [(lead, new)])
def add1 (p : Nat) (found : List (Nat × List Int)) (row : List Int) : List (Nat × List Int) := addRow p found (found.foldl (redStep p) row)
def leastF (p : Nat) (rows : List (List Int)) : List (Nat × List Int) := rows.foldl (add1 p) []
def least (p : Nat) (rows : List (List Int)) : List (List Int) := (leastF p rows).map Prod.snd
def solvedRow (p m : Nat) (form : List (Nat × List Int)) (place : Nat) : List Int := form.foldl (fun row q => row.set q.1 ((-(q.2.getD place 0)) % (p : Int))) ((List.range m).map fun i => if i = place then 1 else 0)
def leadOf (r : List Int) : Nat := (leadsOf r).headD 0
def solved (p : Nat) (rows : List (List Int)) (m : Nat) : List (List Int) :=
  ((List.range m).filter fun i => !decide (i ∈ (least p rows).map leadOf)).map (solvedRow p m ((least p rows).map fun r => (leadOf r, r)))
/-- entries as they must be -/
def RowOk (p m : Nat) (r : List Int) : Prop := r.length = m ∧ inR p r
/-- reduced equations -/
structure Red (p m : Nat) (found : List (Nat × List Int)) : Prop where
  ok : ∀ q ∈ found, q.1 < m ∧ RowOk p m q.2
  nd : (found.map Prod.fst).Nodup
  one : ∀ q ∈ found, q.2.getD q.1 0 = 1
  zero : ∀ q ∈ found, ∀ q' ∈ found, q.1 ≠ q'.1 → q'.2.getD q.1 0 = 0
  low : ∀ q ∈ found, ∀ i, i < q.1 → q.2.getD i 0 = 0
theorem mod_in {p : Nat} (hp : 0 < p) (x : Int) : 0 ≤ x % (p : Int) ∧ x % (p : Int) < p := ⟨Int.emod_nonneg _ (by omega), Int.emod_lt_of_pos _ (by omega)⟩
theorem P3.pos {p : Nat} (h : P3 p) : 0 < p := by
  rcases h with h | h | h <;> omega
theorem P3.le {p : Nat} (h : P3 p) : p ≤ 7 := by
  rcases h with h | h | h <;> omega
theorem subRow_ok {p m : Nat} (hp : P3 p) {t : Int} {a b : List Int} (ha : a.length = m) (hb : b.length = m) : RowOk p m (subRow p t a b) := by
  refine ⟨by unfold subRow; rw [List.length_map, List.length_zip, ha, hb, Nat.min_self], fun x hx => ?_⟩
  obtain ⟨q, _, rfl⟩ := List.mem_map.mp hx
  exact mod_in hp.pos _
theorem scale_ok {p m : Nat} (hp : P3 p) {b : Int} {r : List Int} (hr : r.length = m) : RowOk p m (scale p b r) := by
  refine ⟨by unfold scale; rw [List.length_map, hr], fun x hx => ?_⟩
  obtain ⟨q, _, rfl⟩ := List.mem_map.mp hx
  exact mod_in hp.pos _
theorem getD_in {p : Nat} (hp : 0 < p) {r : List Int} (h : inR p r) (i : Nat) : 0 ≤ r.getD i 0 ∧ r.getD i 0 < p := by
  rw [List.getD_eq_getElem?_getD]
  cases e : r[i]? with
  | none => exact ⟨Int.le_refl _, by show (0 : Int) < p; omega⟩
  | some x => exact h x (List.mem_of_getElem? e)
theorem red_ok {p m : Nat} (hp : P3 p) : ∀ {found : List (Nat × List Int)} {row : List Int}, (∀ q ∈ found, q.2.length = m) → RowOk p m row → RowOk p m (found.foldl (redStep p) row)
  | [], _, _, h => h
  | q :: found, row, hf, h => red_ok hp (found := found) (row := redStep p row q) (fun y hy => hf y (List.mem_cons_of_mem _ hy)) (subRow_ok hp h.1 (hf q (List.mem_cons_self ..)))
theorem leads_lt {r : List Int} {i : Nat} (h : i ∈ leadsOf r) : i < r.length ∧ r.getD i 0 ≠ 0 := by
  obtain ⟨h1, h2⟩ := List.mem_filter.mp h
  exact ⟨List.mem_range.mp h1, by simpa using h2⟩
/-- a number that is not 0 has its other -/
theorem invs_ne {p : Nat} (hp : P3 p) {x : Int} (h0 : 0 ≤ x) (h1 : x < p) (hx : x ≠ 0) : ∃ n l, invsOf p x = n :: l ∧ n < p ∧ ((n : Int) * x) % (p : Int) = 1 := by
  have key : ∃ n, n ∈ invsOf p x := by
    rcases hp with rfl | rfl | rfl
    · have : x = 1 ∨ x = 2 := by omega
      rcases this with rfl | rfl
      · exact ⟨1, by decide⟩
      · exact ⟨2, by decide⟩
    · have : x = 1 ∨ x = 2 ∨ x = 3 ∨ x = 4 := by omega
      rcases this with rfl | rfl | rfl | rfl
      · exact ⟨1, by decide⟩
      · exact ⟨3, by decide⟩
      · exact ⟨2, by decide⟩
      · exact ⟨4, by decide⟩
    · have : x = 1 ∨ x = 2 ∨ x = 3 ∨ x = 4 ∨ x = 5 ∨ x = 6 := by omega
      rcases this with rfl | rfl | rfl | rfl | rfl | rfl
      · exact ⟨1, by decide⟩
      · exact ⟨4, by decide⟩
      · exact ⟨5, by decide⟩
      · exact ⟨2, by decide⟩
      · exact ⟨3, by decide⟩
      · exact ⟨6, by decide⟩
  cases e : invsOf p x with
  | nil =>
    rw [e] at key
    obtain ⟨n, hn⟩ := key
    cases hn
  | cons n l =>
    have hm : n ∈ invsOf p x := by rw [e]; exact List.mem_cons_self ..
    obtain ⟨h1, h2⟩ := List.mem_filter.mp hm
    exact ⟨n, l, rfl, List.mem_range.mp h1, by simpa using h2⟩
theorem srtF_mem {xs : List (Nat × List Int)} {q : Nat × List Int} : q ∈ srtF xs ↔ q ∈ xs := (List.mergeSort_perm xs _).mem_iff
theorem srtF_len (xs : List (Nat × List Int)) : (srtF xs).length = xs.length := List.length_mergeSort _
theorem srtF_map (xs : List (Nat × List Int)) : (srtF xs).map foundD = Q.srt (xs.map foundD) := by
  unfold srtF Q.srt
  exact List.map_mergeSort (r := PySem.W.dataLe false foundD) (s := PySem.W.dataLe false id) (f := foundD) (l := xs) (fun a _ b _ => rfl)
theorem get_sub {p : Nat} {t : Int} {a b : List Int} (h : a.length = b.length) (i : Nat) : (subRow p t a b).getD i 0 = (a.getD i 0 - t * b.getD i 0) % (p : Int) := by
  unfold subRow
  simp only [List.getD_eq_getElem?_getD, List.getElem?_map]
  by_cases hi : i < a.length
  · have hb : i < b.length := by omega
    have : (a.zip b)[i]? = some (a[i], b[i]) := by
      rw [List.getElem?_eq_getElem (by rw [List.length_zip]; omega), List.getElem_zip]
    rw [this, List.getElem?_eq_getElem hi, List.getElem?_eq_getElem hb]
    rfl
  · have : (a.zip b)[i]? = none := List.getElem?_eq_none (by rw [List.length_zip]; omega)
    rw [this, List.getElem?_eq_none (by omega), List.getElem?_eq_none (by omega)]
    simp
theorem get_scale {p : Nat} {b : Int} {r : List Int} (i : Nat) : (scale p b r).getD i 0 = (b * r.getD i 0) % (p : Int) := by
  unfold scale
  simp only [List.getD_eq_getElem?_getD, List.getElem?_map]
  cases r[i]? with
  | none => simp
  | some x => rfl
theorem mod_self_in {p : Nat} {x : Int} (h : 0 ≤ x ∧ x < p) : x % (p : Int) = x := Int.emod_eq_of_lt h.1 h.2
/-- a row from which the equations are taken: 0 at all leads -/
theorem red_zero {p m : Nat} (hp : P3 p) : ∀ (todo done : List (Nat × List Int)) (row : List Int), Red p m (done ++ todo) → RowOk p m row → (∀ q ∈ done, row.getD q.1 0 = 0) → ∀ q ∈ done ++ todo, (todo.foldl (redStep p) row).getD q.1 0 = 0
  | [], done, row, _, _, h => fun q hq => h q (by simpa using hq)
  | c :: todo, done, row, R, hr, h => fun q hq => by
    have e : done ++ c :: todo = (done ++ [c]) ++ todo := by simp
    rw [e] at R hq
    have hc := R.ok c (by simp)
    refine red_zero hp todo (done ++ [c]) (redStep p row c) R (subRow_ok hp hr.1 hc.2.1) (fun x hx => ?_) q hq
    unfold redStep
    rw [get_sub (by rw [hr.1, hc.2.1])]
    rcases List.mem_append.mp hx with hx | hx
    · have hne : x.1 ≠ c.1 := by
        have nd := R.nd
        rw [List.map_append, List.map_append] at nd
        intro z
        have n1 := (List.nodup_append.mp nd).1
        have n2 := (List.nodup_append.mp n1).2.2
        exact n2 x.1 (List.mem_map_of_mem hx) c.1 (by simp) z
      rw [h x hx, R.zero x (by simp [hx]) c (by simp) hne]
      simp
    · have : x = c := by simpa using hx
      subst this
      rw [R.one x (by simp)]
      simp
theorem leadOf_of {r : List Int} {a : Nat} (ha : a < r.length) (h1 : r.getD a 0 ≠ 0) (h0 : ∀ i, i < a → r.getD i 0 = 0) : ∃ l, leadsOf r = a :: l := by
  unfold leadsOf
  have e : List.range r.length = List.range a ++ a :: (List.range' (a + 1) (r.length - (a + 1))) := by
    rw [List.range_eq_range', List.range_eq_range']
    have : r.length = a + (1 + (r.length - (a + 1))) := by omega
    conv => lhs; rw [this]
    rw [← List.range'_append_1, ← List.range'_append_1]
    simp
  rw [e, List.filter_append]
  have z : (List.range a).filter (fun i => r.getD i 0 != 0) = [] := by
    rw [List.filter_eq_nil_iff]
    intro i hi
    rw [h0 i (List.mem_range.mp hi)]
    simp
  rw [z, List.nil_append, List.filter_cons, if_pos (by simpa using h1)]
  exact ⟨_, rfl⟩
/-- the first lead: what stands ahead of it is 0 -/
theorem leads_low {r : List Int} {a : Nat} {l : List Nat} (h : leadsOf r = a :: l) : ∀ i, i < a → r.getD i 0 = 0 := by
  intro i hi
  by_cases z : r.getD i 0 = 0
  · exact z
  · exfalso
    have ha := leads_lt (r := r) (i := a) (by rw [h]; exact List.mem_cons_self ..)
    have hm : i ∈ leadsOf r := List.mem_filter.mpr ⟨List.mem_range.mpr (by omega), by simpa using z⟩
    have hs : (leadsOf r).Pairwise (· < ·) := List.Pairwise.filter _ List.pairwise_lt_range
    rw [h] at hm hs
    rcases List.mem_cons.mp hm with e | hm
    · omega
    · have := (List.pairwise_cons.mp hs).1 i hm
      omega
theorem Red.perm {p m : Nat} {a b : List (Nat × List Int)} (R : Red p m a) (h : b.Perm a) : Red p m b :=
  ⟨fun q hq => R.ok q (h.mem_iff.mp hq), ((h.map Prod.fst).nodup_iff).mpr R.nd, fun q hq => R.one q (h.mem_iff.mp hq), fun q hq q' hq' => R.zero q (h.mem_iff.mp hq) q' (h.mem_iff.mp hq'), fun q hq => R.low q (h.mem_iff.mp hq)⟩
theorem addRow_red {p m : Nat} (hp : P3 p) {found : List (Nat × List Int)} {left : List Int} (R : Red p m found) (hl : RowOk p m left) (hz : ∀ q ∈ found, left.getD q.1 0 = 0) : Red p m (addRow p found left) := by
  unfold addRow
  cases e : leadsOf left with
  | nil => exact R
  | cons lead l =>
    show Red p m (srtF _)
    refine Red.perm ?_ (List.mergeSort_perm _ _)
    obtain ⟨hlt, hne⟩ := leads_lt (r := left) (i := lead) (by rw [e]; exact List.mem_cons_self ..)
    have hin := getD_in hp.pos hl.2 lead
    obtain ⟨n, l', ei, hn, h1⟩ := invs_ne hp hin.1 hin.2 hne
    rw [ei]
    show Red p m (found.map (clearIn p lead (scale p (n : Int) left)) ++ [(lead, scale p (n : Int) left)])
    have new_lead : (scale p (n : Int) left).getD lead 0 = 1 := by rw [get_scale, h1]
    have new_zero : ∀ i, left.getD i 0 = 0 → (scale p (n : Int) left).getD i 0 = 0 := fun i hi => by
      rw [get_scale, hi]
      simp
    have new_len : (scale p (n : Int) left).length = m := (scale_ok hp hl.1).1
    have cl : ∀ q ∈ found, ∀ i, (clearIn p lead (scale p (n : Int) left) q).2.getD i 0 = (q.2.getD i 0 - q.2.getD lead 0 * (scale p (n : Int) left).getD i 0) % (p : Int) := fun q hq i => get_sub (by rw [(R.ok q hq).2.1, new_len]) i
    have pm1 : (1 : Int) % (p : Int) = 1 := by
      rcases hp with rfl | rfl | rfl <;> rfl
    have lead_new : ∀ q ∈ found, q.1 ≠ lead := fun q hq z => hne (by rw [← z]; exact hz q hq)
    refine ⟨fun q hq => ?_, ?_, fun q hq => ?_, fun q hq q' hq' hne' => ?_, fun q hq i hi => ?_⟩
    · rcases List.mem_append.mp hq with hq | hq
      · obtain ⟨c, hc, rfl⟩ := List.mem_map.mp hq
        exact ⟨(R.ok c hc).1, subRow_ok hp (R.ok c hc).2.1 new_len⟩
      · have : q = (lead, scale p (n : Int) left) := by simpa using hq
        subst this
        exact ⟨by rw [← hl.1]; exact hlt, scale_ok hp hl.1⟩
    · rw [List.map_append, List.map_map]
      have : (found.map (Prod.fst ∘ clearIn p lead (scale p (n : Int) left))) = found.map Prod.fst := List.map_congr_left fun _ _ => rfl
      rw [this]
      refine List.nodup_append.mpr ⟨R.nd, by simp, fun x hx y hy => ?_⟩
      obtain ⟨c, hc, rfl⟩ := List.mem_map.mp hx
      have : y = lead := by simpa using hy
      subst this
      exact lead_new c hc
    · rcases List.mem_append.mp hq with hq | hq
      · obtain ⟨c, hc, rfl⟩ := List.mem_map.mp hq
        show (clearIn p lead _ c).2.getD c.1 0 = 1
        rw [cl c hc, R.one c hc, new_zero _ (hz c hc)]
        simp [pm1]
      · have : q = (lead, scale p (n : Int) left) := by simpa using hq
        subst this
        exact new_lead
    · rcases List.mem_append.mp hq with hq | hq
      · obtain ⟨c, hc, rfl⟩ := List.mem_map.mp hq
        rcases List.mem_append.mp hq' with hq' | hq'
        · obtain ⟨c', hc', rfl⟩ := List.mem_map.mp hq'
          show (clearIn p lead _ c').2.getD c.1 0 = 0
          rw [cl c' hc', R.zero c hc c' hc' hne', new_zero _ (hz c hc)]
          simp
        · have : q' = (lead, scale p (n : Int) left) := by simpa using hq'
          subst this
          exact new_zero _ (hz c hc)
      · have : q = (lead, scale p (n : Int) left) := by simpa using hq
        subst this
        rcases List.mem_append.mp hq' with hq' | hq'
        · obtain ⟨c', hc', rfl⟩ := List.mem_map.mp hq'
          show (clearIn p lead _ c').2.getD lead 0 = 0
          rw [cl c' hc', new_lead]
          simp
        · have : q' = (lead, scale p (n : Int) left) := by simpa using hq'
          subst this
          exact absurd rfl hne'
    · rcases List.mem_append.mp hq with hq | hq
      · obtain ⟨c, hc, rfl⟩ := List.mem_map.mp hq
        show (clearIn p lead _ c).2.getD i 0 = 0
        have hi : i < c.1 := hi
        rw [cl c hc, R.low c hc i hi]
        by_cases hlc : lead < c.1
        · rw [R.low c hc lead hlc]
          simp
        · rw [new_zero i (leads_low e i (by have := lead_new c hc; omega))]
          simp
      · have : q = (lead, scale p (n : Int) left) := by simpa using hq
        subst this
        exact new_zero i (leads_low e i hi)
theorem add1_red {p m : Nat} (hp : P3 p) {found : List (Nat × List Int)} {row : List Int} (R : Red p m found) (hr : RowOk p m row) : Red p m (add1 p found row) :=
  addRow_red hp R (red_ok hp (fun q hq => (R.ok q hq).2.1) hr) (red_zero hp found [] row R hr (fun q hq => by cases hq))
theorem fold_red {p m : Nat} (hp : P3 p) : ∀ {rows : List (List Int)} {found : List (Nat × List Int)}, Red p m found → (∀ r ∈ rows, RowOk p m r) → Red p m (rows.foldl (add1 p) found)
  | [], _, R, _ => R
  | r :: rows, found, R, h => fold_red hp (rows := rows) (found := add1 p found r) (add1_red hp R (h r (List.mem_cons_self ..))) fun x hx => h x (List.mem_cons_of_mem _ hx)
theorem red_nil (p m : Nat) : Red p m [] where
  ok := fun q hq => absurd hq List.not_mem_nil
  nd := List.nodup_nil
  one := fun q hq => absurd hq List.not_mem_nil
  zero := fun q hq => absurd hq List.not_mem_nil
  low := fun q hq => absurd hq List.not_mem_nil
theorem least_red {p m : Nat} (hp : P3 p) {rows : List (List Int)} (h : ∀ r ∈ rows, RowOk p m r) : Red p m (leastF p rows) := fold_red hp (red_nil p m) h
theorem red_lead {p m : Nat} {found : List (Nat × List Int)} (R : Red p m found) {q : Nat × List Int} (hq : q ∈ found) : leadOf q.2 = q.1 := by
  obtain ⟨l, e⟩ := leadOf_of (r := q.2) (a := q.1) (by rw [(R.ok q hq).2.1]; exact (R.ok q hq).1) (by rw [R.one q hq]; decide) (R.low q hq)
  unfold leadOf
  rw [e]
  rfl
theorem addRow_len (p : Nat) (found : List (Nat × List Int)) (left : List Int) : (addRow p found left).length ≤ found.length + 1 := by
  unfold addRow
  cases leadsOf left with
  | nil => exact Nat.le_succ _
  | cons a l =>
    show (srtF _).length ≤ _
    rw [srtF_len, List.length_append, List.length_map]
    exact Nat.le_refl _
theorem fold_len (p : Nat) : ∀ (rows : List (List Int)) (found : List (Nat × List Int)), (rows.foldl (add1 p) found).length ≤ found.length + rows.length
  | [], _ => Nat.le_refl _
  | r :: rows, found => by
    have h := fold_len p rows (add1 p found r)
    have h2 := addRow_len p found (found.foldl (redStep p) r)
    show (rows.foldl (add1 p) (add1 p found r)).length ≤ found.length + (rows.length + 1)
    have : (add1 p found r).length ≤ found.length + 1 := h2
    omega
end Q
end
section
set_option Elab.async false
set_option linter.all false
set_option maxRecDepth 100000
set_option maxHeartbeats 4000000
/-! Pc: chess, near, strange: the program's and the law's. -/
namespace Q
open PySem
theorem filterMap_all {α β : Type} {f : α → Option β} {g : α → β} : ∀ {l : List α}, (∀ x ∈ l, f x = some (g x)) → l.filterMap f = l.map g
  | [], _ => rfl
  | x :: l, h => by rw [List.filterMap_cons_some (h x (List.mem_cons_self ..)), filterMap_all fun y hy => h y (List.mem_cons_of_mem _ hy), List.map_cons]
theorem stp_get {r : List Int} {c m : Nat} : (stp r c)[m]? = if c + 2 * m < r.length then r[c + 2 * m]? else none := by
  unfold stp
  by_cases h0 : c < r.length
  · rw [if_pos h0]
    have e : ((List.range ((r.length - c - 1) / 2 + 1)).filterMap fun m => r[c + m * 2]?) = (List.range ((r.length - c - 1) / 2 + 1)).map fun m => r.getD (c + m * 2) 0 := by
      refine filterMap_all fun x hx => ?_
      have := List.mem_range.mp hx
      have hl : c + x * 2 < r.length := by omega
      show r[c + x * 2]? = some (r.getD (c + x * 2) 0)
      rw [List.getD_eq_getElem?_getD, List.getElem?_eq_getElem hl]
      rfl
    rw [e, List.getElem?_map]
    by_cases h : c + 2 * m < r.length
    · rw [if_pos h, List.getElem?_range (by omega)]
      show some (r.getD (c + m * 2) 0) = _
      rw [show c + m * 2 = c + 2 * m by omega, List.getD_eq_getElem?_getD, List.getElem?_eq_getElem h]
      rfl
    · rw [if_neg h, List.getElem?_eq_none (by rw [List.length_range]; omega)]
      rfl
  · rw [if_neg h0, if_neg (by omega)]
    rfl
theorem stp_length {r : List Int} {c : Nat} (hc : c < 2) (h2 : 2 ≤ r.length) (he : r.length % 2 = 0) : (stp r c).length = r.length / 2 := by
  have h1 : (stp r c)[r.length / 2]? = none := by rw [stp_get, if_neg (by omega)]
  have h3 : (stp r c)[r.length / 2 - 1]? ≠ none := by
    rw [stp_get, if_pos (by omega), List.getElem?_eq_getElem (by omega)]
    exact fun z => nomatch z
  have a1 := List.getElem?_eq_none_iff.mp h1
  have a2 : ¬ (stp r c).length ≤ r.length / 2 - 1 := fun z => h3 (List.getElem?_eq_none_iff.mpr z)
  omega
theorem getD_some {r : List Int} {i : Nat} (h : i < r.length) : r[i]? = some (r.getD i 0) := by
  rw [List.getD_eq_getElem?_getD, List.getElem?_eq_getElem h]
  rfl
theorem stp_at {r : List Int} {c m : Nat} (h : c + 2 * m < r.length) : (stp r c)[m]? = some (r.getD (c + 2 * m) 0) := by rw [stp_get, if_pos h, getD_some h]
/-- all the same -/
theorem alike_iff {ns : List Int} (h : ns ≠ []) : alike ns = true ↔ ∀ x ∈ ns, x = ns.headD 0 := by
  unfold alike
  rw [beq_iff_eq, List.countP_eq_length]
  simp
def allC (r : List Int) (c : Nat) : Prop := ∀ i, i < r.length → i % 2 = c → r.getD i 0 = r.getD c 0
theorem alike_stp {r : List Int} {c : Nat} (hc : c < 2) (h2 : 2 ≤ r.length) : alike (stp r c) = true ↔ allC r c := by
  have h0 : stp r c ≠ [] := stp_ne0 (by omega)
  have hd : (stp r c).headD 0 = r.getD c 0 := by
    have := stp_at (r := r) (c := c) (m := 0) (by omega)
    cases e : stp r c with
    | nil => exact absurd e h0
    | cons a l =>
      rw [e] at this
      exact Option.some.inj this
  rw [alike_iff h0, hd]
  constructor
  · intro h i hi hic
    have e : i = c + 2 * (i / 2) := by omega
    have hm := List.mem_of_getElem? (stp_at (r := r) (c := c) (m := i / 2) (by omega))
    rw [← e] at hm
    exact h _ hm
  · intro h x hx
    obtain ⟨m, hm⟩ := List.mem_iff_getElem?.mp hx
    have hl : c + 2 * m < r.length := by
      rw [stp_get] at hm
      by_cases z : c + 2 * m < r.length
      · exact z
      · rw [if_neg z] at hm
        cases hm
    rw [stp_at hl] at hm
    cases hm
    exact h _ hl (by omega)
where
  stp_ne0 {r : List Int} {c : Nat} (h : c < r.length) : stp r c ≠ [] := fun z => by
    have := stp_at (r := r) (c := c) (m := 0) (by omega)
    rw [z] at this
    cases this
theorem chess_iff {r : List Int} (h2 : 2 ≤ r.length) : lchess r = true ↔ allC r 0 ∧ allC r 1 := by
  unfold lchess
  rw [List.all_eq_true]
  constructor
  · intro h
    refine ⟨fun i hi hc => ?_, fun i hi hc => ?_⟩
    · have := eq_of_beq (h i (List.mem_range.mpr hi))
      rwa [hc] at this
    · have := eq_of_beq (h i (List.mem_range.mpr hi))
      rwa [hc] at this
  · intro ⟨h0, h1⟩ i hi
    rw [beq_iff_eq]
    have hi := List.mem_range.mp hi
    rcases Nat.mod_two_eq_zero_or_one i with e | e
    · rw [e]
      exact h0 i hi e
    · rw [e]
      exact h1 i hi e
theorem chessIn_eq {r : List Int} (h2 : 2 ≤ r.length) : chessIn r = lchess r := by
  rw [Bool.eq_iff_iff, chess_iff h2]
  unfold chessIn wh bk
  rw [Bool.and_eq_true, alike_stp (by omega) h2, alike_stp (by omega) h2]
/-- one strange number among those of a colour -/
theorem count_one {ns : List Int} {x : Int} : ns.countP (· == x) + 1 = ns.length ↔ ∃ j, j < ns.length ∧ ns.getD j 0 ≠ x ∧ ∀ i, i < ns.length → i ≠ j → ns.getD i 0 = x := by
  induction ns with
  | nil => simp
  | cons a ns ih =>
    rw [List.countP_cons, List.length_cons]
    by_cases e : a = x
    · subst e
      simp only [beq_self_eq_true, if_true]
      constructor
      · intro h
        obtain ⟨j, h1, h2, h3⟩ := ih.mp (by omega)
        refine ⟨j + 1, by omega, by simpa using h2, fun i hi hj => ?_⟩
        cases i with
        | zero => rfl
        | succ i => simpa using h3 i (by omega) (by omega)
      · rintro ⟨j, h1, h2, h3⟩
        cases j with
        | zero => exact absurd rfl h2
        | succ j =>
          have := ih.mpr ⟨j, by omega, by simpa using h2, fun i hi hj => by simpa using h3 (i + 1) (by omega) (by omega)⟩
          omega
    · have : (a == x) = false := by simpa using e
      rw [this]
      constructor
      · intro h
        simp at h
        refine ⟨0, by omega, by simpa using e, fun i hi hj => ?_⟩
        cases i with
        | zero => exact absurd rfl hj
        | succ i =>
          have hm : i < ns.length := by omega
          have := h (ns[i]) (List.getElem_mem hm)
          simp [List.getElem?_eq_getElem hm, this]
      · rintro ⟨j, h1, h2, h3⟩
        have hj : j = 0 := by
          cases j with
          | zero => rfl
          | succ j =>
            have := h3 0 (by omega) (by omega)
            exact absurd (by simpa using this) e
        subst hj
        simp only [Bool.false_eq_true, if_false, Nat.add_zero]
        rw [Nat.add_right_cancel_iff, List.countP_eq_length]
        intro y hy
        obtain ⟨i, hi⟩ := List.mem_iff_getElem?.mp hy
        have hl := (List.getElem?_eq_some_iff.mp hi).1
        have := h3 (i + 1) (by omega) (by omega)
        simp [hi] at this
        simp [this]
def oneC (r : List Int) (c : Nat) : Prop := ∃ g x, g < r.length ∧ g % 2 = c ∧ r.getD g 0 ≠ x ∧ ∀ i, i < r.length → i % 2 = c → i ≠ g → r.getD i 0 = x
theorem oneOff_stp {r : List Int} {c : Nat} (hc : c < 2) (h4 : 4 ≤ r.length) (he : r.length % 2 = 0) : oneOff (stp r c) = true ↔ oneC r c := by
  have hl := stp_length hc (by omega) he
  have hat : ∀ m, m < r.length / 2 → (stp r c).getD m 0 = r.getD (c + 2 * m) 0 := fun m hm => by
    rw [List.getD_eq_getElem?_getD, stp_at (by omega)]
    rfl
  unfold oneOff
  rw [Bool.and_eq_true, Bool.not_eq_true', List.any_eq_true]
  constructor
  · rintro ⟨_, x, _, hx⟩
    rw [beq_iff_eq] at hx
    obtain ⟨j, h1, h2, h3⟩ := count_one.mp hx
    rw [hl] at h1
    refine ⟨c + 2 * j, x, by omega, by omega, by rwa [← hat j h1], fun i hi hic hne => ?_⟩
    have := h3 (i / 2) (by omega) (by omega)
    rw [hat _ (by omega)] at this
    rwa [show c + 2 * (i / 2) = i by omega] at this
  · rintro ⟨g, x, hg, hgc, hgx, hall⟩
    have hcnt : (stp r c).countP (· == x) + 1 = (stp r c).length := count_one.mpr ⟨g / 2, by omega, by rw [hat _ (by omega), show c + 2 * (g / 2) = g by omega]; exact hgx, fun i hi hne => by
      rw [hat _ (by omega)]
      exact hall _ (by omega) (by omega) (by omega)⟩
    -- another of the colour
    have hother : ∃ o, o < r.length ∧ o % 2 = c ∧ o ≠ g := by
      by_cases z : g < 2
      · exact ⟨g + 2, by omega, by omega, by omega⟩
      · exact ⟨g - 2, by omega, by omega, by omega⟩
    obtain ⟨o, ho1, ho2, ho3⟩ := hother
    have hox := hall o ho1 ho2 ho3
    refine ⟨?_, x, ?_, by rw [beq_iff_eq]; exact hcnt⟩
    · cases ha : alike (stp r c) with
      | false => rfl
      | true =>
        have := (alike_stp hc (by omega)).mp ha
        have a1 := this g hg hgc
        have a2 := this o ho1 ho2
        exact absurd (by rw [a1, ← a2, hox]) hgx
    · have := List.mem_of_getElem? (stp_at (r := r) (c := c) (m := o / 2) (by omega))
      rw [show c + 2 * (o / 2) = o by omega, hox] at this
      exact this
theorem near_iff {r : List Int} (h4 : 4 ≤ r.length) (he : r.length % 2 = 0) : near r = true ↔ (allC r 0 ∧ oneC r 1) ∨ (allC r 1 ∧ oneC r 0) := by
  unfold near wh bk
  rw [Bool.or_eq_true, Bool.and_eq_true, Bool.and_eq_true, alike_stp (by omega) (by omega), alike_stp (by omega) (by omega), oneOff_stp (by omega) h4 he, oneOff_stp (by omega) h4 he]
theorem set_getD {r : List Int} {g i : Nat} {x : Int} (h : g < r.length) : (r.set g x).getD i 0 = if i = g then x else r.getD i 0 := by
  simp only [List.getD_eq_getElem?_getD, List.getElem?_set]
  by_cases e : i = g
  · subst e
    simp [h]
  · rw [if_neg (Ne.symm e), if_neg e]
theorem cy_two {r : List Int} {g : Nat} (h4 : 4 ≤ r.length) (he : r.length % 2 = 0) (hg : g < r.length) : ∃ o, o < r.length ∧ o % 2 = g % 2 ∧ o ≠ g ∧ cy r (g + r.length - 2) = r.getD o 0 := by
  unfold cy
  by_cases z : g < 2
  · refine ⟨g + r.length - 2, by omega, by omega, by omega, ?_⟩
    rw [Nat.mod_eq_of_lt (by omega)]
  · refine ⟨g - 2, by omega, by omega, by omega, ?_⟩
    rw [show g + r.length - 2 = (g - 2) + r.length by omega, Nat.add_mod_right, Nat.mod_eq_of_lt (by omega)]
/-- where a row is strange -/
theorem strange_mem {r : List Int} (h4 : 4 ≤ r.length) (he : r.length % 2 = 0) {g : Nat} : g ∈ lstrange r ↔ g < r.length ∧ allC r (1 - g % 2) ∧ ∃ x, r.getD g 0 ≠ x ∧ ∀ i, i < r.length → i % 2 = g % 2 → i ≠ g → r.getD i 0 = x := by
  unfold lstrange
  have hcc : allC r 0 ∧ allC r 1 ↔ allC r (1 - g % 2) ∧ allC r (g % 2) := by
    rcases Nat.mod_two_eq_zero_or_one g with e | e
    · rw [e]
      exact ⟨fun h => ⟨h.2, h.1⟩, fun h => ⟨h.2, h.1⟩⟩
    · rw [e]
  by_cases hch : lchess r = true
  · rw [if_pos hch]
    constructor
    · intro h
      cases h
    · rintro ⟨hg, _, x, hx, hall⟩
      obtain ⟨o, h1, h2, h3, _⟩ := cy_two h4 he hg
      have hc := (hcc.mp ((chess_iff (by omega)).mp hch)).2
      have a1 := hc g hg rfl
      have a2 := hc o h1 h2
      exact absurd (by rw [a1, ← a2, hall o h1 h2 h3]) hx
  · rw [if_neg hch, List.mem_filter, List.mem_range]
    refine and_congr_right fun hg => ?_
    obtain ⟨o, h1, h2, h3, h5⟩ := cy_two h4 he hg
    rw [h5, chess_iff (by rw [List.length_set]; omega)]
    have hs : ∀ i, (r.set g (r.getD o 0)).getD i 0 = if i = g then r.getD o 0 else r.getD i 0 := fun i => set_getD hg
    have key : (allC (r.set g (r.getD o 0)) 0 ∧ allC (r.set g (r.getD o 0)) 1) ↔ allC (r.set g (r.getD o 0)) (1 - g % 2) ∧ allC (r.set g (r.getD o 0)) (g % 2) := by
      rcases Nat.mod_two_eq_zero_or_one g with e | e
      · rw [e]
        exact ⟨fun h => ⟨h.2, h.1⟩, fun h => ⟨h.2, h.1⟩⟩
      · rw [e]
    rw [key]
    have k1 : allC (r.set g (r.getD o 0)) (1 - g % 2) ↔ allC r (1 - g % 2) := by
      unfold allC
      rw [List.length_set]
      refine forall_congr' fun i => forall_congr' fun hi => forall_congr' fun hc => ?_
      rw [hs, hs, if_neg (by omega), if_neg (by omega)]
    rw [k1]
    constructor
    · rintro ⟨ha, hb⟩
      refine ⟨ha, r.getD o 0, fun z => hch ?_, fun i hi hic hne => ?_⟩
      · refine (chess_iff (by omega)).mpr (hcc.mpr ⟨ha, fun i hi hic => ?_⟩)
        have b1 := hb i (by rw [List.length_set]; exact hi) hic
        rw [hs, hs] at b1
        have e1 : (if i = g then r.getD o 0 else r.getD i 0) = r.getD i 0 := by
          by_cases e : i = g
          · rw [if_pos e, e, z]
          · rw [if_neg e]
        have e2 : (if g % 2 = g then r.getD o 0 else r.getD (g % 2) 0) = r.getD (g % 2) 0 := by
          by_cases e : g % 2 = g
          · rw [if_pos e, e, z]
          · rw [if_neg e]
        rw [e1, e2] at b1
        exact b1
      · have b1 := hb i (by rw [List.length_set]; exact hi) hic
        have b2 := hb o (by rw [List.length_set]; exact h1) h2
        rw [hs, if_neg hne] at b1
        rw [hs, if_neg h3] at b2
        rw [b1, ← b2]
    · rintro ⟨ha, x, hx, hall⟩
      have hox := hall o h1 h2 h3
      refine ⟨ha, fun i hi hic => ?_⟩
      rw [List.length_set] at hi
      rw [hs, hs]
      have e1 : (if i = g then r.getD o 0 else r.getD i 0) = x := by
        by_cases e : i = g
        · rw [if_pos e, hox]
        · rw [if_neg e]
          exact hall i hi hic e
      have e2 : (if g % 2 = g then r.getD o 0 else r.getD (g % 2) 0) = x := by
        by_cases e : g % 2 = g
        · rw [if_pos e, hox]
        · rw [if_neg e]
          exact hall _ (by omega) (by omega) e
      rw [e1, e2]
theorem near_strange {r : List Int} (h4 : 4 ≤ r.length) (he : r.length % 2 = 0) : near r = true ↔ lstrange r ≠ [] := by
  rw [near_iff h4 he]
  constructor
  · rintro (⟨ha, g, x, hg, hgc, hx, hall⟩ | ⟨ha, g, x, hg, hgc, hx, hall⟩)
    · refine List.ne_nil_of_mem ((strange_mem h4 he (g := g)).mpr ⟨hg, ?_, x, hx, ?_⟩)
      · rw [hgc]
        exact ha
      · rw [hgc]
        exact hall
    · refine List.ne_nil_of_mem ((strange_mem h4 he (g := g)).mpr ⟨hg, ?_, x, hx, ?_⟩)
      · rw [hgc]
        exact ha
      · rw [hgc]
        exact hall
  · intro h
    obtain ⟨g, hg⟩ := List.exists_mem_of_ne_nil _ h
    obtain ⟨hl, ha, x, hx, hall⟩ := (strange_mem h4 he).mp hg
    rcases Nat.mod_two_eq_zero_or_one g with e | e
    · rw [e] at ha hall
      exact .inr ⟨ha, g, x, hl, e, hx, hall⟩
    · rw [e] at ha hall
      exact .inl ⟨ha, g, x, hl, e, hx, hall⟩
end Q
end
section
set_option Elab.async false
set_option linter.all false
set_option maxRecDepth 100000
set_option maxHeartbeats 4000000
/-! Pd: fewest pairs: the queue, the levels. -/
namespace Q
open PySem
theorem lnext_mem {p : Nat} {r y : List Int} : y ∈ lnext p r ↔ ∃ g, g < r.length ∧ mayIn r g = true ∧ ∃ x : Nat, x < p ∧ (x : Int) ≠ r.getD g 0 ∧ y = r.set g (x : Int) := by
  unfold lnext
  rw [List.mem_flatMap]
  constructor
  · rintro ⟨g, hg, hy⟩
    obtain ⟨x, hx, rfl⟩ := List.mem_map.mp hy
    obtain ⟨h1, h2⟩ := List.mem_filter.mp hg
    obtain ⟨h3, h4⟩ := List.mem_filter.mp hx
    exact ⟨g, List.mem_range.mp h1, h2, x, List.mem_range.mp h3, by simpa using h4, rfl⟩
  · rintro ⟨g, h1, h2, x, h3, h4, rfl⟩
    exact ⟨g, List.mem_filter.mpr ⟨List.mem_range.mpr h1, h2⟩, List.mem_map.mpr ⟨x, List.mem_filter.mpr ⟨List.mem_range.mpr h3, by simpa using h4⟩, rfl⟩⟩
theorem rnext_mem {p : Nat} {r y : List Int} : y ∈ rowsNext p r ↔ ∃ g, g < r.length ∧ mayIn r g = true ∧ ∃ x : Nat, x < p ∧ y = r.set g (x : Int) := by
  unfold rowsNext
  rw [List.mem_flatMap]
  constructor
  · rintro ⟨g, hg, hy⟩
    obtain ⟨x, hx, rfl⟩ := List.mem_map.mp hy
    obtain ⟨h1, h2⟩ := List.mem_filter.mp hg
    exact ⟨g, List.mem_range.mp h1, h2, x, List.mem_range.mp hx, rfl⟩
  · rintro ⟨g, h1, h2, x, h3, rfl⟩
    exact ⟨g, List.mem_filter.mpr ⟨List.mem_range.mpr h1, h2⟩, List.mem_map.mpr ⟨x, List.mem_range.mpr h3, rfl⟩⟩
theorem set_self {r : List Int} {g : Nat} (h : g < r.length) : r.set g (r.getD g 0) = r := by
  rw [List.getD_eq_getElem?_getD, List.getElem?_eq_getElem h]
  exact List.set_getElem_self h
theorem rnext_cases {p : Nat} {r y : List Int} (h : y ∈ rowsNext p r) : y ∈ lnext p r ∨ y = r := by
  obtain ⟨g, h1, h2, x, h3, rfl⟩ := rnext_mem.mp h
  by_cases e : (x : Int) = r.getD g 0
  · right
    rw [e, set_self h1]
  · exact .inl (lnext_mem.mpr ⟨g, h1, h2, x, h3, e, rfl⟩)
theorem lnext_sub {p : Nat} {r y : List Int} (h : y ∈ lnext p r) : y ∈ rowsNext p r := by
  obtain ⟨g, h1, h2, x, h3, _, rfl⟩ := lnext_mem.mp h
  exact rnext_mem.mpr ⟨g, h1, h2, x, h3, rfl⟩
theorem set_ok {p n : Nat} {r : List Int} {g x : Nat} (h : RowOk p n r) (hx : x < p) : RowOk p n (r.set g (x : Int)) :=
  ⟨by rw [List.length_set]; exact h.1, fun y hy => by
    rcases List.mem_or_eq_of_mem_set hy with hy | rfl
    · exact h.2 y hy
    · omega⟩
theorem rnext_ok {p n : Nat} {r y : List Int} (h : RowOk p n r) (hy : y ∈ rowsNext p r) : RowOk p n y := by
  obtain ⟨g, _, _, x, hx, rfl⟩ := rnext_mem.mp hy
  exact set_ok h hx
/-- k pairs lead from r to x -/
def Reach (p : Nat) (r : List Int) : Nat → List Int → Prop
  | 0, x => x = r
  | k + 1, x => ∃ m, Reach p r k m ∧ x ∈ lnext p m
def IsDist (p : Nat) (r : List Int) (k : Nat) : Prop := (∃ x, Reach p r k x ∧ lstrange x ≠ []) ∧ ∀ j x, Reach p r j x → lstrange x ≠ [] → k ≤ j
theorem IsDist.uniq {p : Nat} {r : List Int} {k j : Nat} (h : IsDist p r k) (h2 : IsDist p r j) : k = j := by
  obtain ⟨⟨x, hx, sx⟩, mx⟩ := h
  obtain ⟨⟨y, hy, sy⟩, my⟩ := h2
  have := mx j y hy sy
  have := my k x hx sx
  omega
theorem Reach.ok {p n : Nat} {r : List Int} (h : RowOk p n r) : ∀ {k : Nat} {x : List Int}, Reach p r k x → RowOk p n x
  | 0, x, e => by rw [show x = r from e]; exact h
  | k + 1, x, ⟨m, hm, hx⟩ => rnext_ok (Reach.ok h hm) (lnext_sub hx)
/-! how many rows there are -/
theorem bound_by {α : Type} (f : α → Nat) (B : Nat) : ∀ (p : Nat) (l : List α), (∀ x ∈ l, f x < p) → (∀ h, (l.filter fun x => f x == h).length ≤ B) → l.length ≤ p * B
  | 0, l, h, _ => by
    cases l with
    | nil => exact Nat.zero_le _
    | cons x l => exact absurd (h x (List.mem_cons_self ..)) (Nat.not_lt_zero _)
  | p + 1, l, h, hB => by
    have e : l.length = (l.filter fun x => f x == p).length + (l.filter fun x => !(f x == p)).length := by
      rw [← List.countP_eq_length_filter, ← List.countP_eq_length_filter, List.length_eq_countP_add_countP (fun x => f x == p)]
      congr 2
      funext x
      rw [Bool.eq_iff_iff]
      simp
    have ih := bound_by f B p (l.filter fun x => !(f x == p)) (fun x hx => by
      obtain ⟨h1, h2⟩ := List.mem_filter.mp hx
      have := h x h1
      have : f x ≠ p := by simpa using h2
      omega) fun h' => by
      rw [List.filter_filter]
      refine Nat.le_trans ?_ (hB h')
      rw [← List.countP_eq_length_filter, ← List.countP_eq_length_filter]
      refine List.countP_mono_left fun x _ hx => ?_
      rw [Bool.and_eq_true] at hx
      exact hx.1
    have := hB p
    rw [Nat.add_mul, Nat.one_mul]
    omega
theorem rows_bound {p : Nat} : ∀ (n : Nat) (l : List (List Int)), l.Nodup → (∀ r ∈ l, RowOk p n r) → l.length ≤ p ^ n
  | 0, l, nd, h => by
    match l, nd, h with
    | [], _, _ => exact Nat.zero_le _
    | [x], _, _ => exact Nat.le_refl _
    | x :: y :: l, nd, h =>
      have hx : x = [] := List.length_eq_zero_iff.mp (h x (by simp)).1
      have hy : y = [] := List.length_eq_zero_iff.mp (h y (by simp)).1
      have := (List.nodup_cons.mp nd).1
      exact absurd (by rw [hx, hy]; exact List.mem_cons_self ..) this
  | n + 1, l, nd, h => by
    rw [Nat.pow_succ, Nat.mul_comm]
    refine bound_by (fun r => (r.headD 0).toNat) (p ^ n) p l (fun r hr => ?_) fun v => ?_
    · obtain ⟨hl, hin⟩ := h r hr
      cases r with
      | nil => cases hl
      | cons a r =>
        have := hin a (List.mem_cons_self ..)
        show a.toNat < p
        omega
    · have key := rows_bound (p := p) n ((l.filter fun r => (r.headD 0).toNat == v).map List.tail) ?_ ?_
      · rw [List.length_map] at key
        exact key
      · have nd2 : (l.filter fun r => (r.headD 0).toNat == v).Pairwise (· ≠ ·) := List.Pairwise.filter _ nd
        show List.Pairwise (· ≠ ·) _
        rw [List.pairwise_map]
        refine nd2.imp_of_mem fun {a b} ha hb hne z => hne ?_
        obtain ⟨ha1, ha2⟩ := List.mem_filter.mp ha
        obtain ⟨hb1, hb2⟩ := List.mem_filter.mp hb
        obtain ⟨la, ia⟩ := h a ha1
        obtain ⟨lb, ib⟩ := h b hb1
        cases a with
        | nil => cases la
        | cons x a =>
          cases b with
          | nil => cases lb
          | cons y b =>
            have hx := ia x (List.mem_cons_self ..)
            have hy := ib y (List.mem_cons_self ..)
            have e1 : x.toNat = v := by simpa using ha2
            have e2 : y.toNat = v := by simpa using hb2
            have : a = b := z
            rw [this, show x = y by omega]
      · intro r hr
        obtain ⟨r', hr', rfl⟩ := List.mem_map.mp hr
        obtain ⟨h1, h2⟩ := h r' (List.mem_filter.mp hr').1
        cases r' with
        | nil => cases h1
        | cons a r' => exact ⟨by simpa using h1, fun x hx => h2 x (List.mem_cons_of_mem _ hx)⟩
/-! the queue -/
def bfsAdd (k : Nat) (dep : List (List Int × Nat)) (y : List Int) : List (List Int × Nat) := if y ∈ dep.map Prod.fst then dep else dep ++ [(y, k)]
theorem bfsAdd_cases (k : Nat) (dep : List (List Int × Nat)) (y : List Int) : (y ∈ dep.map Prod.fst ∧ bfsAdd k dep y = dep) ∨ (y ∉ dep.map Prod.fst ∧ bfsAdd k dep y = dep ++ [(y, k)]) := by
  unfold bfsAdd
  by_cases h : y ∈ dep.map Prod.fst
  · exact .inl ⟨h, if_pos h⟩
  · exact .inr ⟨h, if_neg h⟩
/-- what a fold of them gives -/
theorem bfs_fold (k : Nat) : ∀ (ys : List (List Int)) (dep : List (List Int × Nat)), (dep.map Prod.fst).Nodup → ∃ new, ys.foldl (bfsAdd k) dep = dep ++ new ∧ ((dep ++ new).map Prod.fst).Nodup ∧ (∀ q ∈ new, q.2 = k ∧ q.1 ∈ ys ∧ q.1 ∉ dep.map Prod.fst) ∧ ∀ y ∈ ys, y ∈ (dep ++ new).map Prod.fst
  | [], dep, nd => ⟨[], by simp, by simpa using nd, fun q hq => (List.not_mem_nil hq).elim, fun y hy => (List.not_mem_nil hy).elim⟩
  | y :: ys, dep, nd => by
    rcases bfsAdd_cases k dep y with ⟨h, e⟩ | ⟨h, e⟩
    · obtain ⟨new, e1, n1, h1, h2⟩ := bfs_fold k ys dep nd
      refine ⟨new, by rw [List.foldl_cons, e]; exact e1, n1, fun q hq => ⟨(h1 q hq).1, List.mem_cons_of_mem _ (h1 q hq).2.1, (h1 q hq).2.2⟩, fun z hz => ?_⟩
      rcases List.mem_cons.mp hz with rfl | hz
      · rw [List.map_append]
        exact List.mem_append_left _ h
      · exact h2 z hz
    · have nd' : ((dep ++ [(y, k)]).map Prod.fst).Nodup := by
        rw [List.map_append]
        refine List.nodup_append.mpr ⟨nd, by simp, fun a ha b hb z => ?_⟩
        have : b = y := by simpa using hb
        rw [z, this] at ha
        exact h ha
      obtain ⟨new, e1, n1, h1, h2⟩ := bfs_fold k ys (dep ++ [(y, k)]) nd'
      refine ⟨(y, k) :: new, by rw [List.foldl_cons, e, e1, List.append_assoc]; rfl, by simpa [List.append_assoc] using n1, fun q hq => ?_, fun z hz => ?_⟩
      · rcases List.mem_cons.mp hq with rfl | hq
        · exact ⟨rfl, List.mem_cons_self .., h⟩
        · obtain ⟨a, b, c⟩ := h1 q hq
          refine ⟨a, List.mem_cons_of_mem _ b, fun z => c ?_⟩
          rw [List.map_append]
          exact List.mem_append_left _ z
      · have e3 : dep ++ (y, k) :: new = dep ++ [(y, k)] ++ new := by simp
        rw [e3]
        rcases List.mem_cons.mp hz with rfl | hz
        · simp
        · exact h2 z hz
structure BQ (p n : Nat) (r : List Int) (dep : List (List Int × Nat)) (at_ : Nat) : Prop where
  nd : (dep.map Prod.fst).Nodup
  reach : ∀ q ∈ dep, Reach p r q.2 q.1
  head : dep[0]? = some (r, 0)
  ok : ∀ q ∈ dep, RowOk p n q.1
  done : ∀ (i : Nat) (q : List Int × Nat), i < at_ → dep[i]? = some q → lstrange q.1 = [] ∧ ∀ y ∈ lnext p q.1, ∃ q' ∈ dep, q'.1 = y ∧ q'.2 ≤ q.2 + 1
  mono : ∀ (i j : Nat) (a b : List Int × Nat), i ≤ j → dep[i]? = some a → dep[j]? = some b → a.2 ≤ b.2
  gap : ∀ q ∈ dep, ∀ a : List Int × Nat, dep[at_]? = some a → q.2 ≤ a.2 + 1
theorem BQ.begin {p n : Nat} {r : List Int} (h : RowOk p n r) : BQ p n r [(r, 0)] 0 where
  nd := by simp
  reach := fun q hq => by
    rw [List.mem_singleton.mp hq]
    rfl
  head := rfl
  ok := fun q hq => by
    rw [List.mem_singleton.mp hq]
    exact h
  done := fun i q hi => (Nat.not_lt_zero _ hi).elim
  mono := fun i j a b hij ha hb => by
    have h1 := (List.getElem?_eq_some_iff.mp hb).1
    have h2 : j = 0 := by simpa using h1
    have h3 : i = 0 := by omega
    subst h2 h3
    rw [ha] at hb
    cases hb
    exact Nat.le_refl _
  gap := fun q hq a ha => by
    rw [List.mem_singleton.mp hq]
    exact Nat.zero_le _
theorem BQ.next {p n : Nat} {r : List Int} {dep : List (List Int × Nat)} {at_ : Nat} {a : List Int × Nat} (B : BQ p n r dep at_) (ha : dep[at_]? = some a) (hn : lstrange a.1 = []) :
    BQ p n r ((rowsNext p a.1).foldl (bfsAdd (a.2 + 1)) dep) (at_ + 1) := by
  obtain ⟨new, e, nd, h1, h2⟩ := bfs_fold (a.2 + 1) (rowsNext p a.1) dep B.nd
  have hm : a ∈ dep := List.mem_of_getElem? ha
  rw [e]
  have hall : ∀ q ∈ dep ++ new, q.2 ≤ a.2 + 1 := fun q hq => by
    rcases List.mem_append.mp hq with hq | hq
    · exact B.gap q hq a ha
    · rw [(h1 q hq).1]
      exact Nat.le_refl _
  have hget : ∀ i q, i < dep.length → (dep ++ new)[i]? = some q → dep[i]? = some q := fun i q hi hq => by rwa [List.getElem?_append_left hi] at hq
  have hat : at_ < dep.length := (List.getElem?_eq_some_iff.mp ha).1
  have mono : ∀ (i j : Nat) (a' b : List Int × Nat), i ≤ j → (dep ++ new)[i]? = some a' → (dep ++ new)[j]? = some b → a'.2 ≤ b.2 := fun i j a' b hij hi hj => by
    by_cases hjl : j < dep.length
    · exact B.mono i j a' b hij (hget i a' (by omega) hi) (hget j b hjl hj)
    · rw [List.getElem?_append_right (by omega)] at hj
      rw [(h1 b (List.mem_of_getElem? hj)).1]
      exact hall a' (List.mem_of_getElem? hi)
  refine ⟨nd, fun q hq => ?_, by rw [List.getElem?_append_left (by omega)]; exact B.head, fun q hq => ?_, fun i q hi hq => ?_, mono, fun q hq b hb => ?_⟩
  · rcases List.mem_append.mp hq with hq | hq
    · exact B.reach q hq
    · obtain ⟨e2, hy, hno⟩ := h1 q hq
      rw [e2]
      refine ⟨a.1, B.reach a hm, ?_⟩
      rcases rnext_cases hy with h | h
      · exact h
      · exact absurd (by rw [h]; exact List.mem_map_of_mem hm) hno
  · rcases List.mem_append.mp hq with hq | hq
    · exact B.ok q hq
    · exact rnext_ok (B.ok a hm) (h1 q hq).2.1
  · have hil : i < dep.length := by omega
    have hq' := hget i q hil hq
    by_cases hia : i < at_
    · obtain ⟨s1, s2⟩ := B.done i q hia hq'
      refine ⟨s1, fun y hy => ?_⟩
      obtain ⟨q', a1, a2, a3⟩ := s2 y hy
      exact ⟨q', List.mem_append_left _ a1, a2, a3⟩
    · have : i = at_ := by omega
      subst this
      rw [ha] at hq'
      cases hq'
      refine ⟨hn, fun y hy => ?_⟩
      obtain ⟨q', a1, a2⟩ := List.mem_map.mp (h2 y (lnext_sub hy))
      exact ⟨q', a1, a2, hall q' a1⟩
  · have h3 := mono at_ (at_ + 1) a b (by omega) (by rw [List.getElem?_append_left hat]; exact ha) hb
    have := hall q hq
    omega
/-- what can be reached stands in the queue, when no row ahead of it is strange -/
theorem BQ.all {p n : Nat} {r : List Int} {dep : List (List Int × Nat)} {at_ : Nat} (B : BQ p n r dep at_) (m : Nat) (hm : ∀ i q, dep[i]? = some q → q.2 < m → i < at_) : ∀ j x, j ≤ m → Reach p r j x → ∃ q ∈ dep, q.1 = x ∧ q.2 ≤ j
  | 0, x, _, e => by
    have e : x = r := e
    subst e
    exact ⟨_, List.mem_of_getElem? B.head, rfl, Nat.le_refl 0⟩
  | j + 1, x, hj, ⟨y, hy, hx⟩ => by
    obtain ⟨q, h1, h2, h3⟩ := BQ.all B m hm j y (by omega) hy
    obtain ⟨i, hi⟩ := List.mem_iff_getElem?.mp h1
    obtain ⟨_, s2⟩ := B.done i q (hm i q hi (by omega)) hi
    rw [h2] at s2
    obtain ⟨q', a1, a2, a3⟩ := s2 x hx
    exact ⟨q', a1, a2, by omega⟩
/-- the first strange row of the queue is as near as any -/
theorem BQ.dist {p n : Nat} {r : List Int} {dep : List (List Int × Nat)} {at_ : Nat} {a : List Int × Nat} (B : BQ p n r dep at_) (ha : dep[at_]? = some a) (hs : lstrange a.1 ≠ []) : IsDist p r a.2 := by
  refine ⟨⟨a.1, B.reach a (List.mem_of_getElem? ha), hs⟩, fun j x hj hx => ?_⟩
  by_cases h : j < a.2
  · exfalso
    have hm : ∀ i q, dep[i]? = some q → q.2 < a.2 → i < at_ := fun i q hi hq => by
      by_cases h2 : i < at_
      · exact h2
      · have := B.mono at_ i a q (by omega) ha hi
        omega
    obtain ⟨q, h1, h2, h3⟩ := B.all a.2 hm j x (by omega) hj
    obtain ⟨i, hi⟩ := List.mem_iff_getElem?.mp h1
    have := (B.done i q (hm i q hi (by omega)) hi).1
    rw [h2] at this
    exact hx this
  · omega
/-- the queue has not ended while a strange row can be reached -/
theorem BQ.lt {p n : Nat} {r : List Int} {dep : List (List Int × Nat)} {at_ : Nat} (B : BQ p n r dep at_) {j : Nat} {x : List Int} (hj : Reach p r j x) (hx : lstrange x ≠ []) : at_ < dep.length := by
  by_cases h : at_ < dep.length
  · exact h
  · exfalso
    have hm : ∀ i q, dep[i]? = some q → q.2 < j → i < at_ := fun i q hi _ => by
      have := (List.getElem?_eq_some_iff.mp hi).1
      omega
    obtain ⟨q, h1, h2, h3⟩ := B.all j hm j x (Nat.le_refl _) hj
    obtain ⟨i, hi⟩ := List.mem_iff_getElem?.mp h1
    have hl := (List.getElem?_eq_some_iff.mp hi).1
    have := (B.done i q (by omega) hi).1
    rw [h2] at this
    exact hx this
theorem BQ.len {p n : Nat} {r : List Int} {dep : List (List Int × Nat)} {at_ : Nat} (B : BQ p n r dep at_) : dep.length ≤ p ^ n := by
  have := rows_bound n (dep.map Prod.fst) B.nd fun x hx => by
    obtain ⟨q, hq, rfl⟩ := List.mem_map.mp hx
    exact B.ok q hq
  rwa [List.length_map] at this
/-! the levels -/
def lvAdd (s : List (List Int) × List (List Int)) (y : List Int) : List (List Int) × List (List Int) := if y ∈ s.2 then s else (s.1 ++ [y], s.2 ++ [y])
def lvRow (p : Nat) (s : List (List Int) × List (List Int)) (x : List Int) : List (List Int) × List (List Int) := (lnext p x).foldl lvAdd s
def lvNext (p : Nat) (rows known : List (List Int)) : List (List Int) × List (List Int) := rows.foldl (lvRow p) ([], known)
structure BL (p n : Nat) (r : List Int) (i : Nat) (rows known : List (List Int)) : Prop where
  nd : known.Nodup
  ok : ∀ x ∈ known, RowOk p n x
  sub : ∀ x ∈ rows, x ∈ known ∧ Reach p r i x ∧ ∀ j, j < i → ¬ Reach p r j x
  done : ∀ x ∈ known, x ∈ rows ∨ (lstrange x = [] ∧ ∀ y ∈ lnext p x, y ∈ known)
  all : ∀ j x, j ≤ i → Reach p r j x → x ∈ known
  rnd : rows.Nodup
/-- while the next level is made: ys looked at -/
structure LS (p n : Nat) (known : List (List Int)) (ys : List (List Int)) (s : List (List Int) × List (List Int)) : Prop where
  eq : s.2 = known ++ s.1
  nd : s.2.Nodup
  new : ∀ y ∈ s.1, y ∈ ys ∧ y ∉ known
  all : ∀ y ∈ ys, y ∈ s.2
  ok : ∀ x ∈ s.2, RowOk p n x
theorem LS.add {p n : Nat} {known ys : List (List Int)} {s : List (List Int) × List (List Int)} (h : LS p n known ys s) {y : List Int} (hy : RowOk p n y) : LS p n known (ys ++ [y]) (lvAdd s y) := by
  unfold lvAdd
  by_cases e : y ∈ s.2
  · rw [if_pos e]
    refine ⟨h.eq, h.nd, fun z hz => ⟨List.mem_append_left _ (h.new z hz).1, (h.new z hz).2⟩, fun z hz => ?_, h.ok⟩
    rcases List.mem_append.mp hz with hz | hz
    · exact h.all z hz
    · rw [List.mem_singleton.mp hz]
      exact e
  · rw [if_neg e]
    refine ⟨by show s.2 ++ [y] = known ++ (s.1 ++ [y]); rw [h.eq, List.append_assoc], ?_, fun z hz => ?_, fun z hz => ?_, fun z hz => ?_⟩
    · refine List.nodup_append.mpr ⟨h.nd, by simp, fun a ha b hb z => ?_⟩
      have : b = y := by simpa using hb
      rw [z, this] at ha
      exact e ha
    · rcases List.mem_append.mp hz with hz | hz
      · exact ⟨List.mem_append_left _ (h.new z hz).1, (h.new z hz).2⟩
      · have : z = y := List.mem_singleton.mp hz
        subst this
        refine ⟨List.mem_append_right _ (List.mem_singleton.mpr rfl), fun hk => e ?_⟩
        rw [h.eq]
        exact List.mem_append_left _ hk
    · rcases List.mem_append.mp hz with hz | hz
      · exact List.mem_append_left _ (h.all z hz)
      · exact List.mem_append_right _ hz
    · rcases List.mem_append.mp hz with hz | hz
      · exact h.ok z hz
      · rw [List.mem_singleton.mp hz]
        exact hy
theorem LS.row {p n : Nat} {known : List (List Int)} : ∀ {zs ys : List (List Int)} {s : List (List Int) × List (List Int)}, LS p n known ys s → (∀ z ∈ zs, RowOk p n z) → LS p n known (ys ++ zs) (zs.foldl lvAdd s)
  | [], ys, s, h, _ => by simpa using h
  | z :: zs, ys, s, h, hz => by
    have := LS.row (zs := zs) (h.add (hz z (List.mem_cons_self ..))) fun y hy => hz y (List.mem_cons_of_mem _ hy)
    simpa using this
theorem LS.len {p n : Nat} {known ys : List (List Int)} {s : List (List Int) × List (List Int)} (h : LS p n known ys s) : s.2.length ≤ p ^ n ∧ s.1.length ≤ p ^ n := by
  have h1 := rows_bound n s.2 h.nd h.ok
  refine ⟨h1, ?_⟩
  rw [h.eq, List.length_append] at h1
  omega
theorem BL.begin {p n : Nat} {r : List Int} (h : RowOk p n r) : BL p n r 0 [r] [r] where
  nd := by simp
  ok := fun x hx => by
    rw [List.mem_singleton.mp hx]
    exact h
  sub := fun x hx => ⟨hx, List.mem_singleton.mp hx, fun j hj => (Nat.not_lt_zero _ hj).elim⟩
  done := fun x hx => .inl hx
  all := fun j x hj hx => by
    have : j = 0 := by omega
    subst this
    exact List.mem_singleton.mpr hx
  rnd := by simp
theorem BL.ls {p n : Nat} {r : List Int} {i : Nat} {rows known : List (List Int)} (B : BL p n r i rows known) : LS p n known [] ([], known) :=
  ⟨(List.append_nil _).symm, B.nd, fun y hy => (List.not_mem_nil hy).elim, fun y hy => (List.not_mem_nil hy).elim, B.ok⟩
theorem BL.mid {p n : Nat} {r : List Int} {i : Nat} {rows known : List (List Int)} (B : BL p n r i rows known) : ∀ j, LS p n known ((rows.take j).flatMap (lnext p)) ((rows.take j).foldl (lvRow p) ([], known))
  | 0 => B.ls
  | j + 1 => by
    have ih := BL.mid B j
    by_cases h : j < rows.length
    · rw [List.take_succ_eq_append_getElem h, List.flatMap_append, List.foldl_append]
      have := ih.row (zs := lnext p rows[j]) fun z hz => rnext_ok (B.ok _ (B.sub _ (List.getElem_mem h)).1) (lnext_sub hz)
      have e : [rows[j]].flatMap (lnext p) = lnext p rows[j] := by simp
      rw [e]
      exact this
    · rw [List.take_of_length_le (by omega)]
      rwa [List.take_of_length_le (by omega)] at ih
theorem BL.next {p n : Nat} {r : List Int} {i : Nat} {rows known : List (List Int)} (B : BL p n r i rows known) (hn : ∀ x ∈ rows, lstrange x = []) : BL p n r (i + 1) (lvNext p rows known).1 (lvNext p rows known).2 := by
  have L := B.mid rows.length
  rw [List.take_length] at L
  have L : LS p n known (rows.flatMap (lnext p)) (lvNext p rows known) := L
  have ksub : ∀ x ∈ known, x ∈ (lvNext p rows known).2 := fun x hx => by
    rw [L.eq]
    exact List.mem_append_left _ hx
  have hdone : ∀ x ∈ known, lstrange x = [] ∧ ∀ y ∈ lnext p x, y ∈ (lvNext p rows known).2 := fun x hx => by
    rcases B.done x hx with h | h
    · exact ⟨hn x h, fun y hy => L.all y (List.mem_flatMap.mpr ⟨x, h, hy⟩)⟩
    · exact ⟨h.1, fun y hy => ksub y (h.2 y hy)⟩
  refine ⟨L.nd, L.ok, fun x hx => ?_, fun x hx => ?_, fun j x hj hx => ?_, ?_⟩
  · obtain ⟨hy, hno⟩ := L.new x hx
    obtain ⟨z, hz, hxz⟩ := List.mem_flatMap.mp hy
    refine ⟨by rw [L.eq]; exact List.mem_append_right _ hx, ⟨z, (B.sub z hz).2.1, hxz⟩, fun j hj hr => hno (B.all j x (by omega) hr)⟩
  · rw [L.eq] at hx
    rcases List.mem_append.mp hx with hx | hx
    · exact .inr (hdone x hx)
    · exact .inl hx
  · cases j with
    | zero => exact ksub x (B.all 0 x (Nat.zero_le _) hx)
    | succ j =>
      obtain ⟨m, hm, hx⟩ := hx
      exact (hdone m (B.all j m (by omega) hm)).2 x hx
  · have := L.nd
    rw [L.eq] at this
    exact (List.nodup_append.mp this).2.1
theorem BL.dist {p n : Nat} {r : List Int} {i : Nat} {rows known : List (List Int)} (B : BL p n r i rows known) {x : List Int} (hx : x ∈ rows) (hs : lstrange x ≠ []) : IsDist p r i := by
  refine ⟨⟨x, (B.sub x hx).2.1, hs⟩, fun j y hj hy => ?_⟩
  by_cases h : j < i
  · exfalso
    have hk := B.all j y (by omega) hj
    rcases B.done y hk with h1 | h1
    · exact (B.sub y h1).2.2 j h hj
    · exact hy h1.1
  · omega
/-- no level ends before the distance -/
theorem BL.le {p n : Nat} {r : List Int} {i : Nat} {rows known : List (List Int)} (B : BL p n r i rows known) (hn : ∀ x ∈ rows, lstrange x = []) {j : Nat} {x : List Int} (hj : Reach p r j x) (hx : lstrange x ≠ []) : i < j := by
  by_cases h : i < j
  · exact h
  · exfalso
    have hk := B.all j x (by omega) hj
    rcases B.done x hk with h1 | h1
    · exact hx (hn x h1)
    · exact hx h1.1
end Q
end
section
set_option Elab.async false
set_option linter.all false
set_option maxRecDepth 100000
set_option maxHeartbeats 4000000
/-! Wl: the program's fewest; the law's. -/
namespace Q
open PySem PySem.Spec PyProof.Rows L2
def depK (dep : List (List Int × Nat)) : List (List Int × PyData) := dep.map fun q => (q.1, .int (q.2 : Nat))
theorem look_none : ∀ {dep : List (List Int × Nat)} {y : List Int}, y ∉ dep.map Prod.fst → lookD (depK dep) y = none
  | [], _, _ => rfl
  | q :: dep, y, h => by
    have h1 : ¬ q.1 = y := fun z => h (by rw [← z]; exact List.mem_cons_self ..)
    have ih := look_none (dep := dep) (y := y) fun z => h (List.mem_cons_of_mem _ z)
    unfold lookD depK at *
    rw [List.map_cons, List.find?_cons_of_neg (by simpa using h1)]
    exact ih
theorem look_some : ∀ {dep : List (List Int × Nat)} {q : List Int × Nat}, (dep.map Prod.fst).Nodup → q ∈ dep → lookD (depK dep) q.1 = some (.int (q.2 : Nat))
  | [], _, _, h => (List.not_mem_nil h).elim
  | a :: dep, q, nd, h => by
    rw [List.map_cons, List.nodup_cons] at nd
    rcases List.mem_cons.mp h with rfl | h
    · unfold lookD depK
      rw [List.map_cons, List.find?_cons_of_pos (by simp)]
      rfl
    · have h1 : ¬ a.1 = q.1 := fun z => nd.1 (by rw [z]; exact List.mem_map_of_mem h)
      have ih := look_some nd.2 h
      unfold lookD depK at *
      rw [List.map_cons, List.find?_cons_of_neg (by simpa using h1)]
      exact ih
theorem look_is {dep : List (List Int × Nat)} {y : List Int} (nd : (dep.map Prod.fst).Nodup) : (lookD (depK dep) y).isSome = decide (y ∈ dep.map Prod.fst) := by
  by_cases h : y ∈ dep.map Prod.fst
  · obtain ⟨q, hq, rfl⟩ := List.mem_map.mp h
    rw [look_some nd hq, decide_eq_true h]
    rfl
  · rw [look_none h, decide_eq_false h]
    rfl
section
variable {P : Program} {w : World} {K : PySem.W.Frag} {mg : Str → Option Value} {base : Heap} {aC : Addr} {t1 t2 t3 t4 : Tok}
/-- rows that are small enough for the games gone through -/
def FewOk (p n : Nat) (r : List Int) : Prop := 1 ≤ p ∧ p ≤ 7 ∧ 4 ≤ n ∧ n ≤ 6 ∧ n % 2 = 0 ∧ p ^ n ≤ 2500 ∧ RowOk p n r
def P_fewest_from : List PyData → PyData → Prop := fun ds d => ∃ (p n k : Nat) (r : List Int), FewOk p n r ∧ IsDist p r k ∧ ds = [.int p, rowD r] ∧ d = .int k
theorem L_fewest_from : ∀ ds d, P_fewest_from ds d → ds.length = 2 := fun ds d ⟨_, _, _, _, _, _, h, _⟩ => by rw [h]; rfl
abbrev s_fewest_from : Stmt := topS 37
def N_fewest_from : List Str := ["clock", "row", "known", "rows", "at", "other"]
theorem sc_fewest_from : FnScope N_fewest_from ["clock", "row"] (defScope s_fewest_from) := ⟨rfl, rfl, rfl, by decide +kernel, rfl, by decide +kernel, by decide +kernel⟩
theorem ok_fewest_from {f : Addr} {fd : FuncData} (F : Fun K "fewest_from" "fewest_from" s_fewest_from f fd) (T : Txt K mg aC t1 t2 t3 t4) (C_is_near : Callee P w K mg base "is_near" 3 ["row"] (spP K P_is_near)) (C_rows_next : Callee P w K mg base "rows_next" 2 ["clock", "row"] (spP K P_rows_next)) : FnOk P w K mg base L2.CX0 4 f fd ["clock", "row"] (spP K P_fewest_from) := by
  refine F.ok sc_fewest_from (spP_len L_fewest_from) (fun cdv A outer s H vs Q E hr h => ?_)
  have hu64 := hr.units
  have hu := L2.hu_of hr
  refine ⟨_, (pss_cons (ps_par3 (i := 2) (j := 3) (l := 4) rfl sc_fewest_from.nd rfl rfl rfl (by decide) (by decide) (by decide) rfl rfl rfl (pa_cons (pe_disp1 hu64 (pv 1) pe_int) (pa_cons (pe_lst (pa_cons (pv 1) pa_nil)) (pa_cons pe_int pa_nil))) rfl)
      (pss_cons (ps_while PassesOwn.never (pt_not (pt_val (pe_callC C_is_near hr (by decide) (by rfl) (pa_cons (pe_ix (show IxR _ (rIx K) from ix_seq) (pv 3) (pv 4) (fun _ _ => rfl)) pa_nil)))) (pss_cons (ps_for PassesOwn.never rfl (show PI _ _ _ (iSeqX K _) from pi_seqX (pe_callC C_rows_next hr (by decide) (by rfl) (pa_cons (pv 0) (pa_cons (pe_ix (show IxR _ (rIx K) from ix_seq) (pv 3) (pv 4) (fun _ _ => rfl)) pa_nil)))) (pg_name (i := 5) sc_fewest_from.nd rfl (Or.inl rfl)) (pss_one (ps_if (pt_cmpR (op_notInT hu64) (pv 5) (pv 2) (by with_unfolding_all rfl)) (pss_cons (ps_dput hu (pv 2) (pv 5) (pe_op (show OpR _ _ (rAddX K) from op_addX) (pe_dget hu (pv 2) (pe_ix (show IxR _ (rIx K) from ix_seq) (pv 3) (pv 4) (fun _ _ => rfl)) (fun _ _ => rfl)) pe_int) rfl)
      (pss_one (ps_expr (pe_bm PySem.F.plainAttrs_list PySem.F.slot_list_append PySem.F.type_list_append mt_append (pv 3) (pa_cons (pv 5) pa_nil))))) pss_nil)))
      (pss_one (ps_set (i := 4) sc_fewest_from.nd rfl (Or.inl rfl) (pe_op (show OpR _ _ (rAddX K) from op_addX) (pv 4) pe_int)))))
      (pss_one (ps_ret (pe_dget hu (pv 2) (pe_ix (show IxR _ (rIx K) from ix_seq) (pv 3) (pv 4) (fun _ _ => rfl)) (fun _ _ => rfl)))))), ?_⟩
  refine body_p (K := K) (N := N_fewest_from) (P := P_fewest_from) (fun ds d hp => ?_) vs H Q E h
  obtain ⟨p, n, k, r, ⟨hp1, hp7, hn4, hn6, hev, hpn, hr⟩, hD, rfl, rfl⟩ := hp
  obtain ⟨⟨xs, hxs, hss⟩, _⟩ := id hD
  refine ⟨Nat.le_add_left 2 4, q_par3X (Ξ := fun s1 s2 s3 M' => s1 = .l 0 ∧ s2 = .l 1 ∧ s3 = .d (.int ((0 : Nat) : Int)) ∧ M' = [.dct (depK [(r, 0)]), .lst [rowD r]]) (evA_cons (Ψ := fun s M' => s = .l 0 ∧ M' = [.dct (depK [(r, 0)])]) (ev_n (evn_disp1 (evp_var rfl) (by rw [hr.1]; omega) evp_int) ⟨rfl, rfl⟩) fun s M' ⟨e1, e2⟩ => ?_) fun s1 s2 s3 M' ⟨e1, e2, e3, e4⟩ => ?_⟩
  · rw [e1, e2]
    refine evA_cons (Ψ := fun s M' => s = .l 1 ∧ M' = [.dct (depK [(r, 0)]), .lst [rowD r]]) (ev_n (evn_lst (eva_cons (evp_var rfl) eva_nil) (by show 1 ≤ 1000000; omega)) ⟨rfl, rfl⟩) fun s M' ⟨e1, e2⟩ => ?_
    rw [e1, e2]
    exact evA_cons (Ψ := fun s M' => s = .d (.int ((0 : Nat) : Int)) ∧ M' = [.dct (depK [(r, 0)]), .lst [rowD r]]) (ev_p evp_int ⟨rfl, rfl⟩) fun s M' ⟨e1, e2⟩ => evA_nil ⟨_, _, _, rfl, rfl, rfl, e1, e2⟩
  rw [e1, e2, e3, e4]
  clear e1 e2 e3 e4
  refine q_while (fun m es M => ∃ dep at_ s5, m = 3000 - at_ ∧ es = [.d (.int p), .d (rowD r), .l 0, .l 1, .d (.int ((at_ : Nat) : Int)), s5] ∧ M = [.dct (depK dep), .lst (dep.map fun q => rowD q.1)] ∧ BQ p n r dep at_) 3000 ⟨[(r, 0)], 0, _, rfl, rfl, rfl, BQ.begin hr⟩ ?_
  rintro m es1 M1 ⟨dep, at_, s5, rfl, rfl, rfl, B⟩
  have hlt := B.lt hxs hss
  have hlen := B.len
  obtain ⟨a, ha⟩ : ∃ a, dep[at_]? = some a := ⟨_, List.getElem?_eq_getElem hlt⟩
  have haok := B.ok a (List.mem_of_getElem? ha)
  have cur : ∀ (dep' : List (List Int × Nat)) (es : List Sl), es[3]? = some (.l 1) → es[4]? = some (.d (.int ((at_ : Nat) : Int))) → dep'[at_]? = some a → EvP K (tOp (rIx K) (tVar 3) (tVar 4)) es [.dct (depK dep'), .lst (dep'.map fun q => rowD q.1)] (rowD a.1) := fun dep' es h3 h4 hd => evp_ixS (evs_var h3 rfl) (evp_var h4) (by rw [List.length_map]; exact ixN_nat (List.getElem?_eq_some_iff.mp hd).1) (by rw [List.getElem?_map, hd]; rfl)
  have hnear : near a.1 = true ↔ lstrange a.1 ≠ [] := near_strange (by rw [haok.1]; exact hn4) (by rw [haok.1]; exact hev)
  refine ⟨!near a.1, evt_not (evt_test (evp_call (eva_cons (cur dep _ rfl rfl ha) eva_nil) ⟨a.1, by rw [haok.1]; omega, by rw [haok.1]; omega, rfl, rfl⟩)), fun hb => ?_, fun hb => ?_⟩
  · have hns : lstrange a.1 = [] := by
      cases e : lstrange a.1 with
      | nil => rfl
      | cons g l =>
        have := hnear.mpr (by rw [e]; exact List.cons_ne_nil _ _)
        rw [this] at hb
        cases hb
    have hys : ∀ y ∈ rowsNext p a.1, RowOk p n y := fun y hy => rnext_ok haok hy
    have B' := B.next ha hns
    obtain ⟨ys, hy0⟩ : ∃ ys, ys = rowsNext p a.1 := ⟨_, rfl⟩
    rw [← hy0] at hys B'
    refine q_for (ds := ys.map rowD) (fun j es M => ∃ s5, es = [.d (.int p), .d (rowD r), .l 0, .l 1, .d (.int ((at_ : Nat) : Int)), s5] ∧ M = [.dct (depK ((ys.take j).foldl (bfsAdd (a.2 + 1)) dep)), .lst (((ys.take j).foldl (bfsAdd (a.2 + 1)) dep).map fun q => rowD q.1)]) (evw_L (evp_call (eva_cons (evp_var rfl) (eva_cons (cur dep _ rfl rfl ha) eva_nil)) ⟨p, a.1, by omega, by rw [haok.1]; omega, rfl, by rw [hy0]⟩)) ⟨_, rfl, rfl⟩ ?_ ?_
    · rintro j d es1 M1 hj ⟨s5, rfl, rfl⟩
      rw [List.getElem?_map] at hj
      cases hq : ys[j]? with
      | none => rw [hq] at hj; cases hj
      | some y =>
        rw [hq] at hj
        have hj : rowD y = d := Option.some.inj hj
        subst hj
        obtain ⟨k1, k2⟩ := List.getElem?_eq_some_iff.mp hq
        have hyok := hys y (List.mem_of_getElem? hq)
        rw [List.take_succ_eq_append_getElem k1, List.foldl_append, k2]
        obtain ⟨new, e, nd, g1, g2⟩ := bfs_fold (a.2 + 1) (ys.take j) dep B.nd
        rw [e]
        have hdl : (dep ++ new).length ≤ 2500 := by
          have := rows_bound (p := p) n ((dep ++ new).map Prod.fst) nd fun x hx => by
            obtain ⟨q, hq, rfl⟩ := List.mem_map.mp hx
            rcases List.mem_append.mp hq with hq | hq
            · exact B.ok q hq
            · exact hys _ (List.mem_of_mem_take (g1 q hq).2.1)
          rw [List.length_map] at this
          omega
        have ha2 : (dep ++ new)[at_]? = some a := by rw [List.getElem?_append_left hlt]; exact ha
        generalize dep ++ new = dep2 at nd hdl ha2
        show ∃ es2 vs, GT K _ _ _ es2 vs ∧ _
        refine ⟨_, [5], gt_name (by simp), s_if (b := !decide (y ∈ dep2.map Prod.fst)) (evt_is (evt_test (evp_notInDct (evp_var rfl) (by rw [hyok.1]; omega) rfl rfl)) (by rw [look_is nd])) (fun hb2 => ?_) fun hb2 => s_next ?_⟩
        · have hno : y ∉ dep2.map Prod.fst := by simpa using hb2
          have hadd : bfsAdd (a.2 + 1) dep2 y = dep2 ++ [(y, a.2 + 1)] := if_neg hno
          refine q_dput (evp_add (evp_dget rfl rfl (cur dep2 _ rfl rfl ha2) (by rw [haok.1]; omega) (look_some nd (List.mem_of_getElem? ha2))) evp_int) rfl rfl (evp_var rfl) (by rw [hyok.1]; omega) (look_none hno) (by unfold depK; rw [List.length_map]; omega) (s_app (evp_var rfl) rfl rfl (by rw [List.length_map]; omega) ⟨_, Wk.refl _, _, rfl, ?_⟩)
          show [MO.dct (depK dep2 ++ [(y, .int ((a.2 : Int) + 1))]), MO.lst ((dep2.map fun q => rowD q.1) ++ [rowD y])] = [MO.dct (depK (bfsAdd (a.2 + 1) dep2 y)), MO.lst ((bfsAdd (a.2 + 1) dep2 y).map fun q => rowD q.1)]
          rw [hadd]
          unfold depK
          rw [List.map_append, List.map_append]
          rfl
        · have hyes : y ∈ dep2.map Prod.fst := by simpa using hb2
          have hadd : bfsAdd (a.2 + 1) dep2 y = dep2 := if_pos hyes
          exact ⟨_, Wk.refl _, _, rfl, by show _ = [MO.dct (depK (bfsAdd (a.2 + 1) dep2 y)), MO.lst ((bfsAdd (a.2 + 1) dep2 y).map fun q => rowD q.1)]; rw [hadd]⟩
    · rintro es1 M1 ⟨s5, rfl, rfl⟩
      rw [List.length_map, List.take_length]
      exact s_asg (evp_add (evp_var rfl) evp_int) ⟨_, 3000 - (at_ + 1), by omega, Wk.refl _, _, at_ + 1, _, rfl, rfl, rfl, B'⟩
  · have hs : lstrange a.1 ≠ [] := hnear.mp (by simpa using hb)
    have hk : a.2 = k := (B.dist ha hs).uniq hD
    rw [← hk]
    exact s_ret (evp_dget rfl rfl (cur dep _ rfl rfl ha) (by rw [haok.1]; omega) (look_some B.nd (List.mem_of_getElem? ha))) rfl
end
end Q
end
section
set_option Elab.async false
set_option linter.all false
set_option maxRecDepth 100000
set_option maxHeartbeats 4000000
/-! Ws: judged_ring, fewest_sets, shows_ring. -/
namespace Q
open PySem PySem.Spec PyProof.Rows L2
section
variable {K : PySem.W.Frag} {es : List Sl} {M : List MO} {tt : TT} {ta tb : TE} {Φ : Sl → List MO → Prop} {i k : Nat} {C D : Addr} {fs : List (Str × Sl)}
theorem ev_ifB {b : Bool} (h : EvTP K tt es M b) (h1 : b = true → Ev K ta es M Φ) (h2 : b = false → Ev K tb es M Φ) : Ev K (tIf tt ta tb) es M Φ := fun G H as σ R S Q q => h G H as σ R S _ fun G1 H1 s1 => by
  cases b with
  | true => exact iteT (h1 rfl G1 H1 as σ (R.stepP s1) (S.up0 s1.g) Q fun s M' v G' H' as' p st => q s M' v G' H' as' p (s1.step.trans st))
  | false => exact iteF (h2 rfl G1 H1 as σ (R.stepP s1) (S.up0 s1.g) Q fun s M' v G' H' as' p st => q s M' v G' H' as' p (s1.step.trans st))
/-- what the text must have that isinstance may be asked of an instance of C -/
structure InsK (K : PySem.W.Frag) (C : Addr) : Prop where
  cl : Cls K C
  ha : PySem.W.findIn K (.ref C) "__class__" = some (some (.builtin "object.__class__"))
  hn : PySem.W.specialIn K (.builtin "object.__class__") "__get__" = some (some (.builtin "getset_descriptor.__get__"))
  tk : PySem.W.takesIn K (.builtin "object.__class__") = some true
  hm : PySem.W.mroIn K C (.type "object") = some true
/-- isinstance(x, D), x an own instance -/
theorem evp_isiI {b : Bool} (hx : es[i]? = some (.l k)) (hm : M[k]? = some (.ins C fs)) (I : InsK K C) (hk : PySem.W.kitOne K (.ref C) (.ref D) = some b) : EvP K (tCB (rIsi K) (tCons (tVar i) (tCons (tC (.ref D)) tNil))) es M (.bool b) := fun G H as σ R S Q q => by
  obtain ⟨a, dx, vs, ha, eo, ga, h1, h2⟩ := ins_at R S hx hm
  exact ⟨.ref a, eo, .ref a, .ref D, .ref C, .ref D, b, rfl, .own D, .base (.ins h1 I.cl I.ha I.hn I.tk I.hm), hk, q _ G H (.refl R.ex) (.bl b)⟩
end
theorem fix_gp {t : Bool} {xs : List (Nat × Int)} (h : xs.length ≤ 1000) : P_fixed 3 [seqD t (xs.map gpD)] (.tuple (xs.map gpD)) := by
  refine .inr ⟨t, xs.map gpD, id, by rw [List.length_map]; exact h, rfl, by rw [List.map_id], fun x hx => ?_⟩
  obtain ⟨q, _, rfl⟩ := List.mem_map.mp hx
  refine .inr ⟨true, [.int q.1, .int q.2], id, by show 2 ≤ 1000; omega, rfl, by rw [List.map_id]; rfl, fun x hx => ?_⟩
  rcases List.mem_cons.mp hx with rfl | hx
  · exact .inl ⟨_, rfl, rfl⟩
  · rw [List.mem_singleton.mp hx]
    exact .inl ⟨_, rfl, rfl⟩
section
variable {P : Program} {w : World} {K : PySem.W.Frag} {mg : Str → Option Value} {base : Heap} {aC aL aX : Addr} {t1 t2 t3 t4 : Tok}
def P_fewest_sets : List PyData → PyData → Prop := fun ds d => ∃ (p n : Nat) (r : List Int), okRow p r ∧ 1 ≤ p ∧ p ≤ 1000 ∧ r.length = n ∧ p ^ n ≤ 2500 ∧ ds = [.int p, rowD r] ∧ ((chessIn r = true ∧ d = .none) ∨ (chessIn r = false ∧ FewOk p n r ∧ ∃ k, IsDist p r k ∧ d = .int (k : Nat)))
theorem L_fewest_sets : ∀ ds d, P_fewest_sets ds d → ds.length = 2 := fun ds d ⟨_, _, _, _, _, _, _, _, h, _⟩ => by rw [h]; rfl
abbrev s_fewest_sets : Stmt := topS 38
def N_fewest_sets : List Str := ["clock", "row", "told"]
theorem sc_fewest_sets : FnScope N_fewest_sets ["clock", "row"] (defScope s_fewest_sets) := ⟨rfl, rfl, rfl, by decide +kernel, rfl, by decide +kernel, by decide +kernel⟩
theorem ok_fewest_sets {f : Addr} {fd : FuncData} (F : Fun K "fewest_sets" "fewest_sets" s_fewest_sets f fd) (T : Txt K mg aC t1 t2 t3 t4) (C_need_ring : Callee P w K mg base "need_ring" 6 ["clock", "row"] (spP K P_need_ring)) (C_need_few : Callee P w K mg base "need_few" 1 ["clock", "size"] (spP K P_need_few)) (C_is_chess_in : Callee P w K mg base "is_chess_in" 2 ["row"] (spP K P_is_chess_in)) (C_fewest_from : Callee P w K mg base "fewest_from" 4 ["clock", "row"] (spP K P_fewest_from)) : FnOk P w K mg base L2.CX0 7 f fd ["clock", "row"] (spP K P_fewest_sets) := by
  refine F.ok sc_fewest_sets (spP_len L_fewest_sets) (fun cdv A outer s H vs Q E hr h => ?_)
  have hu64 := hr.units
  refine ⟨_, (pss_cons (ps_set (i := 2) sc_fewest_sets.nd rfl (Or.inl rfl) (pe_callC C_need_ring hr (by decide) (by rfl) (pa_cons (pv 0) (pa_cons (pv 1) pa_nil))))
      (pss_cons (ps_expr (pe_callC C_need_few hr (by decide) (by rfl) (pa_cons (pv 0) (pa_cons (pe_callB (show CallR _ _ (rLenX K) from call_len) (by rfl) T.len (by decide +kernel) (pa_cons (pv 2) pa_nil)) pa_nil))))
      (pss_one (ps_ret (pe_ifExp (pt_val (pe_callC C_is_chess_in hr (by decide) (by rfl) (pa_cons (pv 2) pa_nil))) pe_non (pe_callC C_fewest_from hr (by decide) (by rfl) (pa_cons (pv 0) (pa_cons (pv 2) pa_nil)))))))), ?_⟩
  refine body_p (K := K) (N := N_fewest_sets) (P := P_fewest_sets) (fun ds d hp => ?_) vs H Q E h
  obtain ⟨p, n, r, hok, h1, h2, hn, hpn, rfl, hd⟩ := hp
  have h16 := hok.1
  have h02 := hok.2.1
  refine ⟨Nat.le_succ 2, q_asg (evp_call (eva_cons (evp_var rfl) (eva_cons (evp_var rfl) eva_nil)) ⟨p, r, hok, rfl, rfl⟩) (q_expr (evp_call (eva_cons (evp_var rfl) (eva_cons (evp_lenT (evp_var rfl)) eva_nil)) ⟨p, n, h1, h2, by omega, hpn, by rw [List.length_map, hn], rfl⟩) (s_ret (evp_if (b := chessIn r) (evt_test (evp_call (eva_cons (evp_var rfl) eva_nil) ⟨r, h02, rfl, rfl⟩)) (fun hc => ?_) fun hc => ?_) rfl))⟩
  · rcases hd with ⟨_, rfl⟩ | ⟨z, _⟩
    · exact evp_non
    · rw [hc] at z
      cases z
  · rcases hd with ⟨z, _⟩ | ⟨_, hf, k, hk, rfl⟩
    · rw [hc] at z
      cases z
    · exact evp_call (eva_cons (evp_var rfl) (eva_cons (evp_var rfl) eva_nil)) ⟨p, n, k, r, hf, hk, rfl, rfl⟩
/-- the paper of a row -/
def paperOf (aL aX : Addr) (p : Nat) (r : List Int) : MO := if chessIn r then .ins aX cf else .ins aL (lf (.tuple ((gameIn p r).sets.map gpD)))
def Pre_judged_ring : List Sl → List MO → Prop := fun ss M => ∃ (p n : Nat) (r : List Int), okRow p r ∧ (chessIn r = false → GameOk p n r ∧ (gameIn p r).sets.length ≤ 1000) ∧ ss = [.d (.int p), .d (rowD r)]
def Post_judged_ring (aL aX : Addr) : List Sl → List MO → Sl → List MO → Prop := fun ss M s M' => ∃ (p : Nat) (r : List Int), ss = [.d (.int p), .d (rowD r)] ∧ s = .l M.length ∧ M' = M ++ [paperOf aL aX p r]
theorem L_judged_ring : ∀ ss M, Pre_judged_ring ss M → ss.length = 2 := fun ss M ⟨_, _, _, _, _, h⟩ => by rw [h]; rfl
abbrev s_judged_ring : Stmt := topS 32
def N_judged_ring : List Str := ["clock", "row", "told"]
theorem sc_judged_ring : FnScope N_judged_ring ["clock", "row"] (defScope s_judged_ring) := ⟨rfl, rfl, rfl, by decide +kernel, rfl, by decide +kernel, by decide +kernel⟩
theorem ok_judged_ring {f : Addr} {fd : FuncData} (F : Fun K "judged_ring" "judged_ring" s_judged_ring f fd) (T : Txt K mg aC t1 t2 t3 t4) (C_need_ring : Callee P w K mg base "need_ring" 6 ["clock", "row"] (spP K P_need_ring)) (C_is_chess_in : Callee P w K mg base "is_chess_in" 2 ["row"] (spP K P_is_chess_in)) (C_game_in : Callee P w K mg base "game_in" 5 ["clock", "row"] (spP K P_game_in)) (K_Led : MakeC P w K mg base "Led" aL 7 ["self", "sets"] (spM K (Pre_Led aL) (Post_Led aL))) (K_Chess : MakeC P w K mg base "Chess" aX 7 ["self"] (spM K (Pre_Chess aX) (Post_Chess aX))) : FnOk P w K mg base L2.CX0 9 f fd ["clock", "row"] (spM K Pre_judged_ring (Post_judged_ring aL aX)) := by
  refine F.ok sc_judged_ring (spM_len L_judged_ring) (fun cdv A outer s H vs Q E hr h => ?_)
  have hu64 := hr.units
  refine ⟨_, (pss_cons (ps_set (i := 2) sc_judged_ring.nd rfl (Or.inl rfl) (pe_callC C_need_ring hr (by decide) (by rfl) (pa_cons (pv 0) (pa_cons (pv 1) pa_nil))))
      (pss_one (ps_ret (pe_ifExp (pt_val (pe_callC C_is_chess_in hr (by decide) (by rfl) (pa_cons (pv 2) pa_nil))) (pe_makeC0 K_Chess hr (by decide) (by rfl)) (pe_makeC K_Led hr (by decide) (by rfl) (pa_cons (pe_callC C_game_in hr (by decide) (by rfl) (pa_cons (pv 0) (pa_cons (pv 2) pa_nil))) pa_nil)))))), ?_⟩
  refine body_m (K := K) (N := N_judged_ring) (Pre := Pre_judged_ring) (Post := Post_judged_ring aL aX) (fun ss M hp => ?_) vs H Q E h
  obtain ⟨p, n, r, hok, hg, rfl⟩ := hp
  refine ⟨Nat.le_succ 2, q_asg (evp_call (eva_cons (evp_var rfl) (eva_cons (evp_var rfl) eva_nil)) ⟨p, r, hok, rfl, rfl⟩) (s_retX (ev_ifB (b := chessIn r) (evt_test (evp_call (eva_cons (evp_var rfl) eva_nil) ⟨r, hok.2.1, rfl, rfl⟩)) (fun hc => ?_) fun hc => ?_))⟩
  · refine ev_make (evA_nil ⟨⟨M.length, rfl, by simp⟩, fun s M'' ⟨h1, k, h2, h3⟩ => ⟨h1, p, r, rfl, rfl, ?_⟩⟩)
    simp only [List.cons.injEq, Sl.l.injEq, and_true] at h2
    subst h2
    rw [h3, List.set_append_right _ _ (Nat.le_refl _), Nat.sub_self]
    unfold paperOf
    rw [if_pos hc]
    rfl
  · obtain ⟨hG, hl⟩ := hg hc
    refine ev_make (evA_cons (Ψ := fun s M' => s = .d (.tuple ((gameIn p r).sets.map gpD)) ∧ M' = M) (ev_p (evp_call (eva_cons (evp_var rfl) (eva_cons (evp_var rfl) eva_nil)) ⟨p, n, r, hG, rfl, rfl⟩) ⟨rfl, rfl⟩) fun s M' ⟨e1, e2⟩ => ?_)
    subst e1 e2
    refine evA_nil ⟨⟨M'.length, _, _, rfl, by simp, fix_gp (t := true) hl⟩, fun s M'' ⟨h1, k, d, e, h2, h3, h4⟩ => ⟨h1, p, r, rfl, rfl, ?_⟩⟩
    simp only [List.cons.injEq, Sl.l.injEq, Sl.d.injEq, and_true] at h2
    obtain ⟨h2, h5⟩ := h2
    subst h2 h5
    rw [h4, List.set_append_right _ _ (Nat.le_refl _), Nat.sub_self, fix_uniq 3 _ _ _ h3 (fix_gp (t := true) hl)]
    unfold paperOf
    rw [if_neg (by rw [hc]; decide)]
    rfl
def showsB (p : Nat) (r : List Int) (ps : List (Int × Int)) : Bool := match behind p r ps with
  | none => false
  | some r' => near r'
def Pre_shows_ring (aL : Addr) : List Sl → List MO → Prop := fun ss M => ∃ (p k : Nat) (r : List Int) (ps : List (Int × Int)), okRow p r ∧ ps.length ≤ 1000 ∧ ss = [.d (.int p), .d (rowD r), .l k] ∧ M[k]? = some (.ins aL (lf (.tuple (ps.map pairD))))
def Post_shows_ring (aL : Addr) : List Sl → List MO → Sl → List MO → Prop := fun ss M s M' => M' = M ∧ ∃ (p k : Nat) (r : List Int) (ps : List (Int × Int)), ss = [.d (.int p), .d (rowD r), .l k] ∧ M[k]? = some (.ins aL (lf (.tuple (ps.map pairD)))) ∧ s = .d (.bool (showsB p r ps))
theorem L_shows_ring : ∀ ss M, Pre_shows_ring aL ss M → ss.length = 3 := fun ss M ⟨_, _, _, _, _, _, h, _⟩ => by rw [h]; rfl
theorem lf_sets {e : PyData} : (lf e).lookup ("sets" : Str) = some (.d e) := by
  unfold lf
  rw [List.lookup_cons, show (("sets" : Str) == "word") = false by decide +kernel, List.lookup_cons, show (("sets" : Str) == "parts") = false by decide +kernel, List.lookup_cons, beq_self_eq_true]
theorem behind_len {p : Nat} : ∀ {ps : List (Int × Int)} {r r' : List Int}, behind p r ps = some r' → r'.length = r.length
  | [], r, r', h => by
    unfold behind at h
    cases h
    rfl
  | q :: ps, r, r', h => by
    unfold behind at h
    split at h
    · rw [behind_len h, List.length_set]
    · cases h
abbrev s_shows_ring : Stmt := topS 43
def N_shows_ring : List Str := ["clock", "row", "value", "told", "found"]
theorem sc_shows_ring : FnScope N_shows_ring ["clock", "row", "value"] (defScope s_shows_ring) := ⟨rfl, rfl, rfl, by decide +kernel, rfl, by decide +kernel, by decide +kernel⟩
theorem ok_shows_ring {f : Addr} {fd : FuncData} (F : Fun K "shows_ring" "shows_ring" s_shows_ring f fd) (T : Txt K mg aC t1 t2 t3 t4) (C_need_ring : Callee P w K mg base "need_ring" 6 ["clock", "row"] (spP K P_need_ring)) (C_is_chess_in : Callee P w K mg base "is_chess_in" 2 ["row"] (spP K P_is_chess_in)) (C_is_near : Callee P w K mg base "is_near" 3 ["row"] (spP K P_is_near)) (C_row_behind : Callee P w K mg base "row_behind" 4 ["clock", "row", "sets"] (spP K P_row_behind)) (mX : mg "Chess" = some (.ref aX)) (mL : mg "Led" = some (.ref aL)) (IL : InsK K aL) (naS : NoAttr K aL "sets") (kLX : PySem.W.kitOne K (.ref aL) (.ref aX) = some false) (kLL : PySem.W.kitOne K (.ref aL) (.ref aL) = some true) : FnOk P w K mg base L2.CX0 7 f fd ["clock", "row", "value"] (spM K (Pre_shows_ring aL) (Post_shows_ring aL)) := by
  refine F.ok sc_shows_ring (spM_len L_shows_ring) (fun cdv A outer s H vs Q E hr h => ?_)
  have hu64 := hr.units
  refine ⟨_, (pss_cons (ps_set (i := 3) sc_shows_ring.nd rfl (Or.inl rfl) (pe_callC C_need_ring hr (by decide) (by rfl) (pa_cons (pv 0) (pa_cons (pv 1) pa_nil))))
      (pss_cons (ps_if (pt_val (pe_callB call_isi (by rfl) T.isinstance (by decide +kernel) (pa_cons (pv 2) (pa_cons (pe_glob (v := .ref aX) (by rfl) mX rfl) pa_nil)))) (pss_one (ps_ret (pe_callC C_is_chess_in hr (by decide) (by rfl) (pa_cons (pv 3) pa_nil)))) pss_nil)
      (pss_cons (ps_if (pt_not (pt_val (pe_callB call_isi (by rfl) T.isinstance (by decide +kernel) (pa_cons (pv 2) (pa_cons (pe_glob (v := .ref aL) (by rfl) mL rfl) pa_nil))))) (pss_one (ps_ret pe_bl)) pss_nil)
      (pss_cons (ps_set (i := 4) sc_shows_ring.nd rfl (Or.inl rfl) (pe_callC C_row_behind hr (by decide) (by rfl) (pa_cons (pv 0) (pa_cons (pv 3) (pa_cons (show PE _ _ (tFld K _ _) from pe_fld (pv 2) rfl) pa_nil)))))
      (pss_one (ps_ret (pe_and (pe_cmpR op_notN (pv 4) pe_non (nomark _)) (pe_one (pe_callC C_is_near hr (by decide) (by rfl) (pa_cons (pv 4) pa_nil)))))))))), ?_⟩
  refine body_m (K := K) (N := N_shows_ring) (Pre := Pre_shows_ring aL) (Post := Post_shows_ring aL) (fun ss M hp => ?_) vs H Q E h
  obtain ⟨p, k, r, ps, hok, hl, rfl, hM⟩ := hp
  refine ⟨Nat.le_add_right 3 2, q_asg (evp_call (eva_cons (evp_var rfl) (eva_cons (evp_var rfl) eva_nil)) ⟨p, r, hok, rfl, rfl⟩) (q_if (evt_test (evp_isiI rfl hM IL kLX)) (fun z => by cases z) fun _ => q_next (q_if (evt_not (evt_test (evp_isiI rfl hM IL kLL))) (fun z => by cases z) fun _ => q_next (q_asg (evp_call (eva_cons (evp_var rfl) (eva_cons (evp_var rfl) (eva_cons (evp_fld rfl hM IL.cl naS lf_sets) eva_nil))) ⟨p, r, ps, by have := hok.1; omega, hl, rfl, rfl⟩) (s_ret (d := .bool (showsB p r ps)) ?_ ⟨rfl, p, k, r, ps, rfl, hM, rfl⟩))))⟩
  have hsh : ∀ x, showsB p r ps = x → x = showsB p r ps := fun x h => h.symm
  cases hb : behind p r ps with
  | none =>
    refine evp_is (evp_andV (b := false) (evp_notN (evp_var rfl)) fun z => by cases z) ?_
    unfold showsB
    rw [hb]
    rfl
  | some r' =>
    refine evp_is (evp_andV (b := near r') (evp_notN (evp_var rfl)) fun z => evp_call (eva_cons (evp_var rfl) eva_nil) ⟨r', by rw [behind_len hb]; exact hok.2.1, by rw [behind_len hb]; have := hok.1; omega, rfl, rfl⟩) ?_
    unfold showsB
    rw [hb]
    rfl
end
end Q
end
section
set_option Elab.async false
set_option linter.all false
set_option maxRecDepth 100000
set_option maxHeartbeats 4000000
/-! Wt: the truth of a paper; comprehensions that draw. -/
namespace Q
open PySem PySem.Spec PyProof.Rows L2
/-- a method that tells a truth, whatever self is -/
def spTru (b : Bool) : Sp := fun vs H Q _ => vs.length = 1 ∧ Q (.bl b) H
/-- the truth of C's instances -/
def BoolC (P : Program) (w : World) (K : PySem.W.Frag) (mg : Str → Option Value) (base : Heap) (C : Addr) (k : Nat) (b : Bool) : Prop :=
  ∃ f fd, PySem.W.findIn K (.ref C) "__bool__" = some (some (.ref f)) ∧ PySem.W.typeIn K (.ref f) = some (.type "function") ∧ FnOk P w K mg base L2.CX0 k f fd ["self"] (spTru b) ∧ Binds K fd ["self"] []
def tPaper (K : PySem.W.Frag) (B : Addr → Bool → Prop) (ta : TE) : TT := fun σ H Q => ta σ H fun x H1 => ∃ a C dx fs b, x = .ref a ∧ H1 a = some (.ins C dx fs) ∧ B C b ∧ Q b H1
theorem pt_paper {X : Cx} {e : Expr} {ta : TE} {j k : Nat} (hr : Room k X.A) (hk : j ≤ k) (ha : PE X e ta) (he : ∀ whole, isTrue e X.env whole = (do let v ← whole; standAt e.pos; holding [v] (truthy v)) := by intro _; rfl) :
    PT X e (tPaper X.K (fun C b => BoolC X.prog X.w X.K X.mg X.base C j b) ta) := by
  refine ⟨fun pins s σ H Q I h => ?_⟩
  refine isTrue_plain (thn (ha.run pins s σ H _ I h) fun v s1 ⟨x, H1, I1, r1, q1⟩ => ?_) (he _)
  obtain ⟨a, C, dx, fs, b, rfl, hins, ⟨f, fd, hf, ht, F, hb⟩, q⟩ := q1
  obtain rfl : v = Value.ref a := r1
  obtain ⟨mA, O, _⟩ := ins_get I1.hok hins
  obtain ⟨od, J, _⟩ := O.look
  unfold truthy
  refine wpAny_bind (m := callSpecial? (.ref a) (Str.ofString "__bool__")) (PySem.W.special_fn I1.kIn J hf ht (wpAny_mono (run_fn (us := [.ref a]) (vs := [.ref a]) F (hr.mono hk) hb .nil L2.pass0 (E := L2.E0) I1 (.cons rfl .nil) (Q := fun w H2 => w = .bl b ∧ Q b H2) ⟨rfl, rfl, q⟩) (fun r s' hr => ?_) fun _ _ y => y))
  obtain ⟨w, H2, I2, rw', rfl, q2⟩ := hr
  obtain rfl : r = Value.bool b := rw'
  exact wpAny_pure ⟨H2, I2, q2⟩
section
variable {K : PySem.W.Frag} {es : List Sl} {M : List MO} {i k : Nat} {C : Addr} {fs : List (Str × Sl)} {B : Addr → Bool → Prop}
theorem evt_paper {b : Bool} (hx : es[i]? = some (.l k)) (hm : M[k]? = some (.ins C fs)) (hb : B C b) : EvTP K (tPaper K B (tVar i)) es M b := fun G H as σ R S Q q => by
  obtain ⟨a, dx, vs, ha, eo, ga, h1, h2⟩ := ins_at R S hx hm
  exact ⟨.ref a, eo, a, C, dx, vs, b, rfl, h1, hb, q G H (.refl R.ex)⟩
end
section
variable {P : Program} {w : World} {K : PySem.W.Frag} {mg : Str → Option Value} {base : Heap} {aC aL aX : Addr} {t1 t2 t3 t4 : Tok}
abbrev s_Paper___bool__ : Stmt := inClass (topS 16) 1
abbrev s_Denial___bool__ : Stmt := inClass (topS 17) 0
theorem sc_Paper___bool__ : FnScope ["self"] ["self"] (defScope s_Paper___bool__) := ⟨rfl, rfl, rfl, by decide +kernel, rfl, by decide +kernel, by decide +kernel⟩
theorem sc_Denial___bool__ : FnScope ["self"] ["self"] (defScope s_Denial___bool__) := ⟨rfl, rfl, rfl, by decide +kernel, rfl, by decide +kernel, by decide +kernel⟩
theorem ok_Paper_bool {f : Addr} {fd : FuncData} (F : Fun K "__bool__" "Paper.__bool__" s_Paper___bool__ f fd) : FnOk P w K mg base L2.CX0 1 f fd ["self"] (spTru true) := by
  refine F.ok sc_Paper___bool__ (fun vs H Q E h => h.1) (fun cdv A outer s H vs Q E hr h => ?_)
  exact ⟨_, pss_one (ps_ret pe_bl), h.2⟩
theorem ok_Denial_bool {f : Addr} {fd : FuncData} (F : Fun K "__bool__" "Denial.__bool__" s_Denial___bool__ f fd) : FnOk P w K mg base L2.CX0 1 f fd ["self"] (spTru false) := by
  refine F.ok sc_Denial___bool__ (fun vs H Q E h => h.1) (fun cdv A outer s H vs Q E hr h => ?_)
  exact ⟨_, pss_one (ps_ret pe_bl), h.2⟩
end
end Q
end
section
set_option Elab.async false
set_option linter.all false
set_option maxRecDepth 100000
set_option maxHeartbeats 4000000
/-! Qm: comprehensions whose items change own objects. -/
namespace Q
open PySem PySem.Spec PyProof.Rows L2
def EvWX (K : PySem.W.Frag) (wi : TI) (es : List Sl) (M : List MO) (Ψ : List PyData → List MO → Prop) : Prop :=
  ∀ G H as σ, Rep K G H as M → SlotsAt K G as es σ → ∀ R : It → Hp → Prop, (∀ ds M' J G' H' as', Ψ ds M' → Step as G H as' G' H' → Rep K G' H' as' M' → WalkD K J ds G' → R J H') → wi σ H R
section
variable {K : PySem.W.Frag} {wi : TI} {g : TG} {te : TE} {ta : TA} {vs : List Nat} {es : List Sl} {M : List MO} {Φ : Sl → List MO → Prop} {Ψ : List PyData → List MO → Prop}
theorem evwx_of {ds : List PyData} (h : EvW K wi es M ds) (p : Ψ ds M) : EvWX K wi es M Ψ := fun G H as σ R S Q q => h G H as σ R S _ fun J G' H' st W => q ds M J G' H' as p st.step (R.stepP st) W
theorem evwx_r1 (h : EvA K ta es M fun ss M' => ∃ n : Nat, ss = [.d (.int n)] ∧ n ≤ 1000000 ∧ Ψ ((rgD 0 1 n).map PyData.int) M') : EvWX K (iRng1 ta) es M Ψ := fun G H as σ R S Q q => h G H as σ R S _ fun ss M' ws G1 H1 as1 ⟨n, e, hn, p⟩ st R1 a1 => by
  subst e
  cases a1 with
  | cons x1 x2 =>
    cases x2
    obtain ⟨w, ew, aw⟩ := x1
    cases ew
    cases aw
    exact ⟨(n : Int), rfl, by omega, by omega, q _ M' _ G1 H1 as1 p st R1 (by rw [Int.toNat_natCast]; exact walkD_rg)⟩
theorem ev_lcX (J : List PyData → Nat → List PyData → List MO → Prop) (hw : EvWX K wi es M fun ds M0 => ds.length ≤ 1000000 ∧ J ds 0 [] M0)
    (ht : ∀ ds i acc M0, J ds i acc M0 → ∀ d, ds[i]? = some d → ∃ es2, GT K g d (wipeE es vs) es2 vs ∧ Ev K te es2 (M0 ++ [.lst acc]) fun s M'' => ∃ y M1, s = .d y ∧ M'' = M1 ++ [.lst acc] ∧ M1.length = M0.length ∧ J ds (i + 1) (acc ++ [y]) M1)
    (hl : ∀ ds i acc M0, J ds i acc M0 → acc.length = i) (hf : ∀ ds acc M0, J ds ds.length acc M0 → Φ (.l M0.length) (M0 ++ [.lst acc])) : Ev K (tLc wi g tYes te vs) es M Φ := fun G H as σ R S Q q => by
  refine hw G H as σ R S _ fun ds M0 Jt G1 H1 as1 ⟨hlen, hJ0⟩ s1 R1 W D hD => ?_
  obtain ⟨R1', s1'⟩ := R1.push (m := .lst []) (o := .lst []) hD ⟨[], upd_same, .nil⟩
  let Nv : Nat → Hp → Prop := fun i H' => ∃ G' acc M2 as2, Step as G H as2 G' H' ∧ Rep K G' H' as2 (M2 ++ [.lst acc]) ∧ as2[M2.length]? = some D ∧ J ds i acc M2 ∧ Ex G1 G'
  refine ⟨fun i m H' => m = ds.length - i ∧ i ≤ ds.length ∧ Nv i H', ⟨ds.length, rfl, Nat.zero_le _, G1, [], M0, as1 ++ [D], s1.trans s1', R1', by rw [← R1.len]; simp, hJ0, .refl _⟩, ?_⟩
  rintro i m H' ⟨rfl, hi, G', acc, M2, as2, st, R2, hD2, hJ, e1⟩
  by_cases hlt : i < ds.length
  · right
    refine ⟨W.go i H' (e1.trans R2.ex) hlt, Nv (i + 1), fun H'' z => ⟨ds.length - (i + 1), by omega, rfl, hlt, z⟩, fun x H'' y => ?_⟩
    obtain ⟨d, G3, hd, s3, a3⟩ := W.yld i G' H' x H'' e1 R2.ex hlt y
    obtain ⟨es2, hg, hte⟩ := ht ds i acc M2 hJ d hd
    have R3 := R2.stepP s3
    have S3 := (S.step (st.trans s3.step)).wipe vs
    refine hg G3 H'' as2 _ x s3.gh S3 a3 _ fun σ2 S2 l2' k2 => ⟨wipe_eq (by rw [l2', wipe_length]) k2, ?_⟩
    unfold tYes
    dsimp only
    rw [if_pos rfl]
    refine (hte G3 H'' as2 σ2 R3 S2 _ fun s M'' v G5 H5 as5 ⟨yd, M5, es5, eM, hl5, hJ5⟩ st5 R5 a5 => ?_)
    subst es5 eM
    obtain ⟨w, ew, aw⟩ := a5
    cases ew
    obtain ⟨new, en, _⟩ := st5.more
    have hD5 : as5[M5.length]? = some D := by
      rw [hl5, en, List.getElem?_append_left (List.getElem?_eq_some_iff.mp hD2).1]
      exact hD2
    obtain ⟨gD, vs', h1, l1⟩ := R5.at_ M5.length D (.lst acc) hD5 (by simp)
    obtain ⟨R6, s6⟩ := R5.put (m := .lst (acc ++ [yd])) (o := .lst (vs' ++ [v])) hD5 ⟨_, upd_same, l1.snoc aw⟩
    rw [List.set_append_right _ _ (Nat.le_refl _), Nat.sub_self] at R6
    refine ⟨vs', h1, sz6' ?_, G5, acc ++ [yd], M5, as5, ((st.trans s3.step).trans st5).trans s6, R6, hD5, hJ5, (e1.trans s3.g).trans st5.g⟩
    rw [← l1.length, hl ds i acc M2 hJ]
    omega
  · left
    have e : i = ds.length := by omega
    subst e
    exact ⟨W.stop H' (e1.trans R2.ex), q _ _ _ G' H' as2 (hf ds acc M2 hJ) st R2 ⟨D, hD2, rfl⟩⟩
/-- tuple(x), x an own list made on the way -/
theorem ev_tupL (h : Ev K te es M fun s M' => ∃ k ds, s = .l k ∧ M'[k]? = some (.lst ds) ∧ Φ (.d (.tuple ds)) M') : Ev K (tCB (rTupX K) (tCons te tNil)) es M Φ := fun G H as σ R S Q q =>
  h G H as σ R S _ fun s M' v G1 H1 as1 ⟨k, ds, e, hm, p⟩ st R1 a1 => by
    subst e
    obtain ⟨a, ha, ea⟩ := a1
    cases ea
    obtain ⟨ga, xs, h1, l1⟩ := R1.at_ k a _ ha hm
    exact ⟨a, xs, rfl, .inl ⟨.inl (.inl h1), fin_tup R1.ex l1 fun w G' H' s b => q _ M' w G' H' as1 p (st.trans s.step) (R1.stepP s) ⟨w, rfl, b⟩⟩⟩
end
end Q
end
section
set_option Elab.async false
set_option linter.all false
set_option maxRecDepth 100000
set_option maxHeartbeats 4000000
/-! Qn: tests and comparisons that change own objects on the way. -/
namespace Q
open PySem PySem.Spec PyProof.Rows L2
section
variable {K : PySem.W.Frag} {es : List Sl} {M : List MO} {tt tu : TT} {ta tb te : TE} {Φ : Sl → List MO → Prop} {Θ : Bool → List MO → Prop} {f : Str}
theorem evtx_or {a : Bool} (h1 : EvTP K tt es M a) (h2 : a = false → EvT K tu es M Θ) (h3 : a = true → Θ true M) : EvT K (tOr tt tu) es M Θ := fun G H as σ R S Q q => h1 G H as σ R S _ fun G1 H1 s1 => by
  cases a with
  | true => exact iteT (q true M G1 H1 as (h3 rfl) s1.step (R.stepP s1))
  | false => exact iteF (h2 rfl G1 H1 as σ (R.stepP s1) (S.up0 s1.g) Q fun b M' G' H' as' p st => q b M' G' H' as' p (s1.step.trans st))
theorem evtx_orX (h1 : EvT K tt es M fun b M' => if b then Θ true M' else EvT K tu es M' Θ) : EvT K (tOr tt tu) es M Θ := fun G H as σ R S Q q => h1 G H as σ R S _ fun b M1 G1 H1 as1 p s1 R1 => by
  cases b with
  | true => exact iteT (q true M1 G1 H1 as1 p s1 R1)
  | false => exact iteF (p G1 H1 as1 σ R1 (S.step s1) Q fun b M' G' H' as' p st => q b M' G' H' as' p (s1.trans st))
theorem evtx_test (h : Ev K te es M fun s M' => ∃ b, s = .d (.bool b) ∧ Θ b M') : EvT K (tTest te) es M Θ := fun G H as σ R S Q q => h G H as σ R S _ fun s M1 v G1 H1 as1 ⟨b, e, p⟩ s1 R1 a1 => by
  subst e
  obtain ⟨w, ew, aw⟩ := a1
  cases ew
  cases aw
  exact ⟨b, rfl, q b M1 G1 H1 as1 p s1 R1⟩
theorem ev_ne (ha : Ev K ta es M fun s M' => ∃ x y, s = .d x ∧ EvP K tb es M' y ∧ SeqAt.shaped x = true ∧ SeqAt.shaped y = true ∧ Φ (.d (.bool (!PyData.eqv x y))) M') : Ev K (tOp (rNeD K) ta tb) es M Φ := fun G H as σ R S Q q => ha G H as σ R S _ fun s M1 v G1 H1 as1 ⟨x, y, e, hb, h1, h2, p⟩ s1 R1 a1 => by
  subst e
  obtain ⟨w, ew, aw⟩ := a1
  cases ew
  exact hb G1 H1 as1 σ R1 (S.step s1) _ fun u G2 H2 s2 a2 => ⟨x, y, At.dp s2.gh x v (aw.up s2.g), At.dp s2.gh y u a2, h1, h2, q _ M1 _ G2 H2 as1 p (s1.trans s2.step) (R1.stepP s2) ⟨_, rfl, .bl _⟩⟩
theorem ev_eq (ha : Ev K ta es M fun s M' => ∃ x y, s = .d x ∧ EvP K tb es M' y ∧ SeqAt.shaped x = true ∧ SeqAt.shaped y = true ∧ Φ (.d (.bool (PyData.eqv x y))) M') : Ev K (tOp (rEqD K) ta tb) es M Φ := fun G H as σ R S Q q => ha G H as σ R S _ fun s M1 v G1 H1 as1 ⟨x, y, e, hb, h1, h2, p⟩ s1 R1 a1 => by
  subst e
  obtain ⟨w, ew, aw⟩ := a1
  cases ew
  exact hb G1 H1 as1 σ R1 (S.step s1) _ fun u G2 H2 s2 a2 => ⟨x, y, At.dp s2.gh x v (aw.up s2.g), At.dp s2.gh y u a2, h1, h2, q _ M1 _ G2 H2 as1 p (s1.trans s2.step) (R1.stepP s2) ⟨_, rfl, .bl _⟩⟩
/-- f(..).x, the receiver made on the way -/
theorem ev_fldE (ha : Ev K ta es M fun s M' => ∃ k C fs d, s = .l k ∧ M'[k]? = some (.ins C fs) ∧ Cls K C ∧ NoAttr K C f ∧ fs.lookup f = some (.d d) ∧ Φ (.d d) M') : Ev K (tFld K ta f) es M Φ := fun G H as σ R S Q q => ha G H as σ R S _ fun s M1 v G1 H1 as1 ⟨k, C, fs, d, e, hm, cl, na, hf, p⟩ s1 R1 a1 => by
  subst e
  obtain ⟨a, ha', ea⟩ := a1
  cases ea
  obtain ⟨ga, dx, vs, h1, h2⟩ := R1.at_ k a _ ha' hm
  rcases FsAt.get (f := f) h2 with ⟨z, _⟩ | ⟨sl, u, z, zv, hs⟩
  · rw [hf] at z
    cases z
  · rw [hf] at z
    cases z
    exact ⟨a, C, dx, vs, u, rfl, h1, cl, na, zv, q _ M1 u G1 H1 as1 p s1 R1 hs⟩
end
end Q
end
section
set_option Elab.async false
set_option linter.all false
set_option maxRecDepth 100000
set_option maxHeartbeats 4000000
/-! Wi: what the law draws. -/
namespace Q
open PySem PySem.Spec PyProof.Rows L2
/-- the draughts stand at k, at most t turns taken -/
def Dr (M : List MO) (k t : Nat) : Prop := ∃ (cells : List Int) (turn left : Int), M[k]? = some (.lst [.list (cells.map .int), .int turn, .int left]) ∧ 0 ≤ turn ∧ turn ≤ t ∧ cells.length ≤ 60
theorem Dr.mono {M : List MO} {k t u : Nat} (h : Dr M k t) (hu : t ≤ u) : Dr M k u := by
  obtain ⟨c, a, b, h1, h2, h3, h4⟩ := h
  exact ⟨c, a, b, h1, h2, by omega, h4⟩
/-- M' is M but for the draughts at k -/
def Dw (M M' : List MO) (k j : Nat) : Prop := (∃ m, M' = M.set k (.lst m)) ∧ ∀ t, t + j ≤ 60000 → Dr M k t → Dr M' k (t + j)
theorem set_at {M : List MO} {k : Nat} {m m' : MO} (h : M[k]? = some m) : (M.set k m')[k]? = some m' := by
  rw [List.getElem?_set_self (List.getElem?_eq_some_iff.mp h).1]
section
variable {P : Program} {w : World} {K : PySem.W.Frag} {mg : Str → Option Value} {base : Heap} {aC : Addr} {t1 t2 t3 t4 : Tok}
def Pre__law_draughts : List Sl → List MO → Prop := fun ss M => ∃ ns : List Int, ss = [.s ns] ∧ ns.length ≤ 1000
def Post__law_draughts : List Sl → List MO → Sl → List MO → Prop := fun ss M s M' => s = .l M.length ∧ ∃ m, M' = M ++ [m] ∧ Dr M' M.length 0
theorem L__law_draughts : ∀ ss M, Pre__law_draughts ss M → ss.length = 1 := fun ss M ⟨_, h, _⟩ => by rw [h]; rfl
abbrev s__law_draughts : Stmt := topS 45
def N__law_draughts : List Str := ["_law_script", "_law_cell"]
theorem sc__law_draughts : FnScope N__law_draughts ["_law_script"] (defScope s__law_draughts) := ⟨rfl, rfl, rfl, by decide +kernel, rfl, by decide +kernel, by decide +kernel⟩
theorem ok__law_draughts {f : Addr} {fd : FuncData} (F : Fun K "_law_draughts" "_law_draughts" s__law_draughts f fd) (T : Txt K mg aC t1 t2 t3 t4) : FnOk P w K mg base L2.CX0 1 f fd ["_law_script"] (spM K Pre__law_draughts Post__law_draughts) := by
  refine F.ok sc__law_draughts (spM_len L__law_draughts) (fun cdv A outer s H vs Q E hr h => ?_)
  have hu64 := hr.units
  refine ⟨_, (pss_one (ps_ret (pe_lst (pa_cons (pe_lc (own := [("_law_cell", 1)]) rfl sc__law_draughts.nd (show PI _ _ _ (iSeqX K _) from pi_seqX (pe_slice (show SlR _ (rSlX K) from sl_X) (pv 0) po_none (po_some pe_int))) (blkOk_by (own := [("_law_cell", 1)]) (N := N__law_draughts) (sc := defScope s__law_draughts) (by decide +kernel)) (fun _ _ _ _ _ => (pg_name (i := 1) sc__law_draughts.nd rfl (Or.inl rfl))) (fun _ _ _ _ _ => pts_nil) (fun _ _ _ _ _ => (pe_callTy call_int1 (by rfl) T.int (by decide +kernel) (pa_cons (pv 1) pa_nil)))) (pa_cons pe_int (pa_cons pe_int pa_nil)))))), ?_⟩
  refine body_m (K := K) (N := N__law_draughts) (Pre := Pre__law_draughts) (Post := Post__law_draughts) (fun ss M hp => ?_) vs H Q E h
  obtain ⟨ns, rfl, hl⟩ := hp
  have hc : cutD ns none (some 60) = ns.take 60 := by
    have := HT.sIx_nat ns.length ns.length 60
    unfold cutD
    rw [show (some (60 : Int)) = some ((60 : Nat) : Int) from rfl, HT.sIx_nat]
    show List.take (min 60 ns.length - 0) (List.drop 0 ns) = _
    rw [List.drop_zero, Nat.sub_zero]
    by_cases h : 60 ≤ ns.length
    · rw [Nat.min_eq_left h]
    · rw [Nat.min_eq_right (by omega), List.take_length, List.take_of_length_le (by omega)]
  refine ⟨Nat.le_succ 1, s_retX (ev_n (m := .lst [.list ((ns.take 60).map .int), .int 0, .int 0]) (evn_lst (eva_cons (evp_of_new (evn_is (evn_lcy (ns.take 60) PyData.int PyData.int (evw_L (evp_of_new (evn_is (evn_slSc rfl evo_none (evo_some evp_int)) (by rw [hc])))) (by rw [List.length_take]; omega) fun x hx => ⟨_, gt_name (by simp), evp_intI (evp_var rfl)⟩) rfl)) (eva_cons evp_int (eva_cons evp_int eva_nil))) (by show 3 ≤ 1000000; omega)) ?_)⟩
  exact ⟨rfl, _, rfl, ns.take 60, 0, 0, by rw [List.getElem?_append_right (Nat.le_refl _), Nat.sub_self]; rfl, Int.le_refl _, Int.le_refl _, by rw [List.length_take]; omega⟩
def Pre__law_man : List Sl → List MO → Prop := fun ss M => ∃ (k many t : Nat), ss = [.l k, .d (.int many)] ∧ 1 ≤ many ∧ many ≤ 1000 ∧ Dr M k t ∧ t ≤ 50000
def Post__law_man : List Sl → List MO → Sl → List MO → Prop := fun ss M s M' => ∃ (k many v : Nat), ss = [.l k, .d (.int many)] ∧ v < many ∧ s = .d (.int v) ∧ Dw M M' k 1
theorem L__law_man : ∀ ss M, Pre__law_man ss M → ss.length = 2 := fun ss M ⟨_, _, _, h, _⟩ => by rw [h]; rfl
theorem mod_nat {x : Int} {n : Nat} (h : 1 ≤ n) : ∃ v : Nat, v < n ∧ x % (n : Int) = v := by
  have h1 := Int.emod_nonneg x (show (n : Int) ≠ 0 by omega)
  have h2 := Int.emod_lt_of_pos x (show (0 : Int) < n by omega)
  exact ⟨(x % (n : Int)).toNat, by omega, by omega⟩
abbrev s__law_man : Stmt := topS 46
def N__law_man : List Str := ["_law_draughts_here", "_law_many", "_law_left", "_law_turn", "_law_cell", "_law_mixed"]
theorem sc__law_man : FnScope N__law_man ["_law_draughts_here", "_law_many"] (defScope s__law_man) := ⟨rfl, rfl, rfl, by decide +kernel, rfl, by decide +kernel, by decide +kernel⟩
theorem ok__law_man {f : Addr} {fd : FuncData} (F : Fun K "_law_man" "_law_man" s__law_man f fd) (T : Txt K mg aC t1 t2 t3 t4) : FnOk P w K mg base L2.CX0 1 f fd ["_law_draughts_here", "_law_many"] (spM K Pre__law_man Post__law_man) := by
  refine F.ok sc__law_man (spM_len L__law_man) (fun cdv A outer s H vs Q E hr h => ?_)
  have hu64 := hr.units
  refine ⟨_, (pss_cons (ps_if (pt_cmpR op_gt (pe_ix (show IxR _ (rIx K) from ix_seq) (pv 0) pe_int (fun _ _ => rfl)) pe_int (nomark _)) (pss_cons (ps_set (i := 2) sc__law_man.nd rfl (Or.inl rfl) (pe_callTy call_int1 (by rfl) T.int (by decide +kernel) (pa_cons (pe_ix (show IxR _ (rIx K) from ix_seq) (pv 0) pe_int (fun _ _ => rfl)) pa_nil)))
      (pss_cons (ps_asg (pe_op op_fdiv (pv 2) (pv 1)) (pg_sub (pv 0) pe_int set_list))
      (pss_one (ps_ret (pe_op op_mod (pe_callTy call_int1 (by rfl) T.int (by decide +kernel) (pa_cons (pv 2) pa_nil)) (pv 1)))))) pss_nil)
      (pss_cons (ps_set (i := 3) sc__law_man.nd rfl (Or.inl rfl) (pe_ix (show IxR _ (rIx K) from ix_seq) (pv 0) pe_int (fun _ _ => rfl)))
      (pss_cons (ps_asg (pe_op (show OpR _ _ (rAddX K) from op_addX) (pv 3) pe_int) (pg_sub (pv 0) pe_int set_list))
      (pss_cons (ps_set (i := 4) sc__law_man.nd rfl (Or.inl rfl) (pe_op (show OpR _ _ (rAddX K) from op_addX) (pe_op op_mulX pe_int (pv 3)) pe_int))
      (pss_cons (ps_if (pt_cmpR (show OpR _ _ (rNeD K) from op_neD hu64) (pe_ix (show IxR _ (rIx K) from ix_seq) (pv 0) pe_int (fun _ _ => rfl)) (pe_lst pa_nil) (nomark _)) (pss_one (ps_set (i := 4) sc__law_man.nd rfl (Or.inl rfl) (pe_ix (show IxR _ (rIx K) from ix_seq) (pe_ix (show IxR _ (rIx K) from ix_seq) (pv 0) pe_int (fun _ _ => rfl)) (pe_op op_mod (pe_callTy call_int1 (by rfl) T.int (by decide +kernel) (pa_cons (pv 3) pa_nil)) (pe_callB (show CallR _ _ (rLenX K) from call_len) (by rfl) T.len (by decide +kernel) (pa_cons (pe_ix (show IxR _ (rIx K) from ix_seq) (pv 0) pe_int (fun _ _ => rfl)) pa_nil))) (fun _ _ => rfl)))) pss_nil)
      (pss_cons (ps_if (PW.pt (pw_and (pt_cmpR op_lt (pv 3) (pe_callB (show CallR _ _ (rLenX K) from call_len) (by rfl) T.len (by decide +kernel) (pa_cons (pe_ix (show IxR _ (rIx K) from ix_seq) (pv 0) pe_int (fun _ _ => rfl)) pa_nil)) (nomark _)) (pw_and1 (pt_cmpR op_ge (pe_callB call_abs (by rfl) T.abs (by decide +kernel) (pa_cons (pv 4) pa_nil)) (pe_op op_pow pe_int pe_int) (nomark _))))) (pss_cons (ps_set (i := 2) sc__law_man.nd rfl (Or.inl rfl) (pe_op (show OpR _ _ (rAddX K) from op_addX) (pe_op op_mulX pe_int (pe_op op_sub (pe_callB call_abs (by rfl) T.abs (by decide +kernel) (pa_cons (pe_callTy call_int1 (by rfl) T.int (by decide +kernel) (pa_cons (pv 4) pa_nil)) pa_nil)) (pe_op op_pow pe_int pe_int))) (pe_callTy call_int1 (by rfl) T.int (by decide +kernel) (pa_cons (pe_cmpR op_lt (pv 4) pe_int (nomark _)) pa_nil))))
      (pss_cons (ps_asg (pe_op op_fdiv (pv 2) (pv 1)) (pg_sub (pv 0) pe_int set_list))
      (pss_one (ps_ret (pe_op op_mod (pe_callTy call_int1 (by rfl) T.int (by decide +kernel) (pa_cons (pv 2) pa_nil)) (pv 1)))))) pss_nil)
      (pss_cons (ps_set (i := 5) sc__law_man.nd rfl (Or.inl rfl) (pe_op op_mod (pe_callTy call_int1 (by rfl) T.int (by decide +kernel) (pa_cons (pe_op op_pow (pe_op (show OpR _ _ (rAddX K) from op_addX) (pe_op (show OpR _ _ (rAddX K) from op_addX) (pe_op op_mod (pe_callTy call_int1 (by rfl) T.int (by decide +kernel) (pa_cons (pv 4) pa_nil)) pe_int) (pe_op op_mulX pe_int (pv 3))) pe_int) pe_int) pa_nil)) pe_int))
      (pss_cons (ps_set (i := 5) sc__law_man.nd rfl (Or.inl rfl) (pe_op op_mod (pe_callTy call_int1 (by rfl) T.int (by decide +kernel) (pa_cons (pe_op op_pow (pe_op (show OpR _ _ (rAddX K) from op_addX) (pe_op (show OpR _ _ (rAddX K) from op_addX) (pe_op op_mulX (pv 5) (pe_op (show OpR _ _ (rAddX K) from op_addX) (pe_op op_mulX pe_int (pv 3)) pe_int)) (pe_op op_mulX (pe_op op_mulX pe_int (pv 3)) (pv 3))) pe_int) pe_int) pa_nil)) pe_int))
      (pss_one (ps_ret (pe_op op_mod (pe_callTy call_int1 (by rfl) T.int (by decide +kernel) (pa_cons (pe_op op_fdiv (pv 5) pe_int) pa_nil)) (pv 1)))))))))))), ?_⟩
  refine body_m (K := K) (N := N__law_man) (Pre := Pre__law_man) (Post := Post__law_man) (fun ss M hp => ?_) vs H Q E h
  obtain ⟨k, many, t, rfl, hm1, hm2, ⟨cells, turn, left, hM, ht0, ht1, hcl⟩, ht⟩ := hp
  have hm0 : (0 : Int) < many := by omega
  have fin : ∀ (x turn' left' : Int) (M' : List MO), M' = M.set k (.lst [.list (cells.map .int), .int turn', .int left']) → turn ≤ turn' → turn' ≤ turn + 1 → Post__law_man [.l k, .d (.int many)] M (.d (.int (x % (many : Int)))) M' := fun x turn' left' M' e h1 h2 => by
    obtain ⟨v, hv, ev⟩ := mod_nat (x := x) hm1
    subst e
    refine ⟨k, many, v, rfl, hv, by rw [ev], ⟨_, rfl⟩, fun u hu hd => ?_⟩
    obtain ⟨c2, tu2, l2, e2, h3, h4, h5⟩ := hd
    rw [hM] at e2
    have e3 : turn = tu2 := by
      injection e2 with e2
      injection e2 with e2
      injection e2 with _ e2
      injection e2 with e2 _
      injection e2
    exact ⟨cells, turn', left', set_at hM, by omega, by omega, hcl⟩
  refine ⟨Nat.le_add_left 2 4, q_if (evt_test (evp_I0b (evp_ixS (d := .int left) (evs_var rfl hM) evp_int rfl rfl) evp_int)) (fun h => ?_) fun h => q_next ?_⟩
  · refine q_asg (evp_intI (evp_ixS (d := .int left) (evs_var rfl hM) evp_int rfl rfl)) (q_sub (j := 2) (evp_Ii (evp_var rfl) (evp_var rfl) ⟨hm0, by omega⟩) rfl hM evp_int rfl (s_ret (evp_Ii (evp_intI (evp_var rfl)) (evp_var rfl) hm0) ?_))
    exact fin _ turn _ _ rfl (Int.le_refl _) (by omega)
  refine q_asg (evp_ixS (d := .int turn) (evs_var rfl hM) evp_int rfl rfl) (q_sub (j := 1) (evp_add (evp_var rfl) evp_int) rfl hM evp_int rfl ?_)
  have hM2 : (M.set k (.lst ([PyData.list (cells.map .int), .int turn, .int left].set 1 (.int (turn + 1)))))[k]? = some (.lst [.list (cells.map .int), .int (turn + 1), .int left]) := set_at hM
  have hset : ∀ m : List PyData, (M.set k (.lst ([PyData.list (cells.map .int), .int turn, .int left].set 1 (.int (turn + 1))))).set k (.lst m) = M.set k (.lst m) := fun m => by rw [List.set_set]
  have hMe : M.set k (.lst ([PyData.list (cells.map .int), .int turn, .int left].set 1 (.int (turn + 1)))) = M.set k (.lst [.list (cells.map .int), .int (turn + 1), .int left]) := rfl
  rw [hMe] at hM2 hset ⊢
  generalize hMM : M.set k (.lst [.list (cells.map .int), .int (turn + 1), .int left]) = M2 at hM2 hset
  refine q_asgE (Pz := fun _ => True) ⟨_, evp_add (evp_mul evp_int (evp_var rfl) (Or.inl ⟨by decide, by decide⟩)) evp_int, trivial⟩ fun c0 _ => ?_
  refine sx_seq (Ψ := fun o => ∃ c : Int, o = .nx [.l k, .d (.int many), .un, .d (.int turn), .d (.int c), .un] M2) (s_if (b := !(cells.map PyData.int).isEmpty) (evt_is (evt_test (evp_ne (evp_ixS (d := .list (cells.map .int)) (evs_var rfl hM2) evp_int rfl rfl) (evp_of_new (evn_lst eva_nil (Nat.zero_le _))) (shaped_ints _) rfl)) (by rw [eqv_nil])) (fun h => ?_) fun h => s_next ⟨c0, rfl⟩) fun o ⟨c, e⟩ => ?_
  · have hne : 0 < cells.length := by
      cases cells with
      | nil => cases h
      | cons a l => exact Nat.succ_pos _
    have hmod := mod_nat (x := turn) (n := cells.length) hne
    obtain ⟨j, hj, ej⟩ := hmod
    refine s_asg (d := .int (cells.getD j 0)) (evp_ixS (evs_of (evp_ixS (d := .list (cells.map .int)) (evs_var rfl hM2) evp_int rfl rfl)) (evp_Ii (i := turn) (j := ((cells.map PyData.int).length : Nat)) (g := fun i j => i % j) (evp_intI (evp_var rfl)) (evp_lenS (evs_of (evp_ixS (d := .list (cells.map .int)) (evs_var rfl hM2) evp_int rfl rfl))) (by rw [List.length_map]; omega)) ?_ (getD_get hj)) ⟨_, rfl⟩
    rw [List.length_map, ej]
    exact ixN_nat hj
  subst e
  refine q_if (b := decide (turn < cells.length) && decide ((if c < 0 then -c else c) ≥ 10 ^ (18 : Int).toNat)) (evt_and (evt_test (evp_I0b (evp_var rfl) (evp_is (evp_lenS (evs_of (evp_ixS (d := .list (cells.map .int)) (evs_var rfl hM2) evp_int rfl rfl))) (by rw [List.length_map])))) fun _ => evt_test (evp_I0b (evp_abs (evp_var rfl)) (evp_Ii evp_int evp_int ⟨by decide, by decide, by decide⟩))) (fun h => ?_) fun h => q_next ?_
  · refine q_asgE (Pz := fun _ => True) ⟨_, evp_add (evp_mul evp_int (evp_I0i (evp_abs (evp_intI (evp_var rfl))) (evp_Ii evp_int evp_int ⟨by decide, by decide, by decide⟩)) (Or.inl ⟨by decide, by decide⟩)) (evp_intB (evp_I0b (evp_var rfl) evp_int)), trivial⟩ fun l2 _ => ?_
    refine q_sub (j := 2) (evp_Ii (evp_var rfl) (evp_var rfl) ⟨hm0, by omega⟩) rfl hM2 evp_int rfl (s_ret (evp_Ii (evp_intI (evp_var rfl)) (evp_var rfl) hm0) ?_)
    exact fin _ (turn + 1) _ _ (hset _) (by omega) (by omega)
  have b1 : ∀ x : Int, 0 ≤ x % 2147483629 ∧ x % 2147483629 < 2147483629 := fun x => ⟨Int.emod_nonneg _ (by decide), Int.emod_lt_of_pos _ (by decide)⟩
  refine q_asgE (Pz := fun x => 0 ≤ x ∧ x < 2147483587) ⟨_, evp_Ii (evp_intI (evp_Ii (evp_add (evp_add (evp_Ii (evp_intI (evp_var rfl)) evp_int (by decide)) (evp_mul evp_int (evp_var rfl) (Or.inl ⟨by decide, by decide⟩))) evp_int) evp_int ⟨by decide, by decide, ?_⟩)) evp_int (by decide), Int.emod_nonneg _ (by decide), Int.emod_lt_of_pos _ (by decide)⟩ fun x1 hx1 => ?_
  · have := b1 c
    omega
  have hx2 : 0 ≤ x1 * (2 * turn + 5639) ∧ x1 * (2 * turn + 5639) ≤ 2147483587 * 105639 := ⟨Int.mul_nonneg hx1.1 (by omega), Int.mul_le_mul (by omega) (by omega) (by omega) (by decide)⟩
  have hx3 : 0 ≤ 21787 * turn * turn ∧ 21787 * turn * turn ≤ 21787 * 50000 * 50000 := ⟨Int.mul_nonneg (by omega) (by omega), Int.mul_le_mul (by omega) (by omega) (by omega) (by decide)⟩
  refine q_asgE (Pz := fun x => 0 ≤ x) ⟨_, evp_Ii (evp_intI (evp_Ii (evp_add (evp_add (evp_mul (evp_var rfl) (evp_add (evp_mul evp_int (evp_var rfl) (Or.inl ⟨by decide, by decide⟩)) evp_int) (Or.inl ⟨by omega, by omega⟩)) (evp_mul (evp_mul evp_int (evp_var rfl) (Or.inl ⟨by decide, by decide⟩)) (evp_var rfl) (Or.inr ⟨by omega, by omega⟩))) evp_int) evp_int ⟨by decide, by decide, ?_⟩)) evp_int (by decide), Int.emod_nonneg _ (by decide)⟩ fun x2 hx2 => ?_
  · omega
  refine s_ret (evp_Ii (evp_intI (evp_Ii (evp_var rfl) evp_int ⟨by decide, by decide⟩)) (evp_var rfl) hm0) (fin _ (turn + 1) left _ hMM.symm (by omega) (by omega))
def Pre__law_pick : List Sl → List MO → Prop := fun ss M => ∃ (k t : Nat) (ds : List PyData), ss = [.l k, .d (.list ds)] ∧ 1 ≤ ds.length ∧ ds.length ≤ 1000 ∧ Dr M k t ∧ t ≤ 50000
def Post__law_pick : List Sl → List MO → Sl → List MO → Prop := fun ss M s M' => ∃ (k : Nat) (ds : List PyData) (d : PyData), ss = [.l k, .d (.list ds)] ∧ d ∈ ds ∧ s = .d d ∧ Dw M M' k 1
theorem L__law_pick : ∀ ss M, Pre__law_pick ss M → ss.length = 2 := fun ss M ⟨_, _, _, h, _⟩ => by rw [h]; rfl
abbrev s__law_pick : Stmt := topS 47
def N__law_pick : List Str := ["_law_draughts_here", "_law_some"]
theorem sc__law_pick : FnScope N__law_pick ["_law_draughts_here", "_law_some"] (defScope s__law_pick) := ⟨rfl, rfl, rfl, by decide +kernel, rfl, by decide +kernel, by decide +kernel⟩
theorem ok__law_pick {f : Addr} {fd : FuncData} (F : Fun K "_law_pick" "_law_pick" s__law_pick f fd) (T : Txt K mg aC t1 t2 t3 t4) (C__law_man : Callee P w K mg base "_law_man" 1 ["_law_draughts_here", "_law_many"] (spM K Pre__law_man Post__law_man)) : FnOk P w K mg base L2.CX0 2 f fd ["_law_draughts_here", "_law_some"] (spM K Pre__law_pick Post__law_pick) := by
  refine F.ok sc__law_pick (spM_len L__law_pick) (fun cdv A outer s H vs Q E hr h => ?_)
  have hu64 := hr.units
  refine ⟨_, (pss_one (ps_ret (pe_ix (show IxR _ (rIx K) from ix_seq) (pv 1) (pe_callC C__law_man hr (by decide) (by rfl) (pa_cons (pv 0) (pa_cons (pe_callB (show CallR _ _ (rLenX K) from call_len) (by rfl) T.len (by decide +kernel) (pa_cons (pv 1) pa_nil)) pa_nil))) (fun _ _ => rfl)))), ?_⟩
  refine body_m (K := K) (N := N__law_pick) (Pre := Pre__law_pick) (Post := Post__law_pick) (fun ss M hp => ?_) vs H Q E h
  obtain ⟨k, t, ds, rfl, h1, h2, hD, ht⟩ := hp
  refine ⟨Nat.le_refl 2, s_retX (ev_ixE (evp_var rfl) (ev_callAll (evA_cons (Ψ := fun s M' => s = .l k ∧ M' = M) (ev_var rfl (by simp) ⟨rfl, rfl⟩) fun s M' ⟨e1, e2⟩ => ?_)))⟩
  subst e1 e2
  refine evA_cons (Ψ := fun s M1 => s = .d (.int ds.length) ∧ M1 = M') (ev_p (evp_lenS (evs_of (evp_var rfl))) ⟨rfl, rfl⟩) fun s M1 ⟨e1, e2⟩ => evA_nil ?_
  subst e1 e2
  refine ⟨⟨k, ds.length, t, rfl, h1, h2, hD, ht⟩, fun s M' ⟨k', many, v, e1, hv, e2, hw⟩ => ?_⟩
  simp only [List.cons.injEq, Sl.l.injEq, Sl.d.injEq, PyData.int.injEq, and_true] at e1
  obtain ⟨e1, e3⟩ := e1
  have e3 : ds.length = many := by omega
  subst e1 e3
  exact ⟨v, ds[v], e2, List.getElem?_eq_getElem hv, k, ds, ds[v], rfl, List.getElem_mem hv, rfl, hw⟩
end
end Q
end
section
set_option Elab.async false
set_option linter.all false
set_option maxRecDepth 100000
set_option maxHeartbeats 4000000
/-! Wf: the law's least, solved. -/
namespace Q
open PySem PySem.Spec PyProof.Rows L2
def rowL (r : List Int) : PyData := .list (r.map .int)
theorem zipD_ints (a b : List Int) : zipD (a.map PyData.int) (b.map PyData.int) = (a.zip b).map pairD := by
  unfold zipD
  rw [List.zipWith_map, List.zip_eq_zipWith, List.map_zipWith]
  rfl
theorem enumD_ints (r : List Int) : enumD (r.map PyData.int) = (List.range r.length).map fun (i : Nat) => pairD ((i : Int), r.getD i 0) := by
  unfold enumD
  refine List.ext_getElem? fun i => ?_
  rw [List.getElem?_mapIdx, List.getElem?_map, List.getElem?_map]
  by_cases h : i < r.length
  · rw [List.getElem?_eq_getElem h, List.getElem?_range h]
    show some (PyData.tuple [.int i, .int r[i]]) = some (PyData.tuple [.int i, .int (r.getD i 0)])
    rw [List.getD_eq_getElem?_getD, List.getElem?_eq_getElem h]
    rfl
  · rw [List.getElem?_eq_none (by omega), List.getElem?_eq_none (by rw [List.length_range]; omega)]
    rfl
theorem found_alike {p m : Nat} {xs : List (Nat × List Int)} : PySem.W.AllAlike (xs.map foundD) := by
  have ai : ∀ a b : List Int, PySem.W.alikeAll (a.map PyData.int) (b.map PyData.int) = true := by
    intro a
    induction a with
    | nil => intro b; rfl
    | cons x a ih =>
      intro b
      cases b with
      | nil => rfl
      | cons y b =>
        show (PySem.W.alike (.int x) (.int y) && PySem.W.alikeAll (a.map PyData.int) (b.map PyData.int)) = true
        rw [ih]
        rfl
  intro d hd d' hd'
  obtain ⟨q, _, rfl⟩ := List.mem_map.mp hd
  obtain ⟨q', _, rfl⟩ := List.mem_map.mp hd'
  show (PySem.W.alike (.int q.1) (.int q'.1) && (PySem.W.alikeAll (q.2.map PyData.int) (q'.2.map PyData.int) && PySem.W.alikeAll [] [])) = true
  rw [ai]
  rfl
theorem found_sortable {xs : List (Nat × List Int)} : PySem.W.Sortable (xs.map foundD) := .inl fun d hd => by
  obtain ⟨q, _, rfl⟩ := List.mem_map.mp hd
  exact ⟨_, _, rfl⟩
theorem lay_found (q : Nat × List Int) : lay (foundD q) 2 := lay_tup fun d hd => by
  have : d = .int q.1 ∨ d = .list (q.2.map .int) := by simpa using hd
  rcases this with rfl | rfl
  · exact ⟨rfl, Nat.zero_le _⟩
  · exact lay_list (lay_ints _)
section
variable {P : Program} {w : World} {K : PySem.W.Frag} {mg : Str → Option Value} {base : Heap} {aC : Addr} {t1 t2 t3 t4 : Tok}
def P__law_least : List PyData → PyData → Prop := fun ds d => ∃ (p m : Nat) (rows : List (List Int)), P3 p ∧ m ≤ 100 ∧ rows.length ≤ 100 ∧ (∀ r ∈ rows, RowOk p m r) ∧ ds = [.int p, .list (rows.map rowD)] ∧ d = .tuple ((least p rows).map rowD)
theorem L__law_least : ∀ ds d, P__law_least ds d → ds.length = 2 := fun ds d ⟨_, _, _, _, _, _, _, h, _⟩ => by rw [h]; rfl
abbrev s__law_least : Stmt := topS 48
def N__law_least : List Str := ["_law_clock", "_law_rows", "_law_found", "_law_row", "_law_left", "_law_lead", "_law_each", "_law_times", "_law_leads", "_law_by", "_law_new", "_law_cleared", "_law_at", "_law_one", "_law_other", "_law_number"]
theorem sc__law_least : FnScope N__law_least ["_law_clock", "_law_rows"] (defScope s__law_least) := ⟨rfl, rfl, rfl, by decide +kernel, rfl, by decide +kernel, by decide +kernel⟩
theorem ok__law_least {f : Addr} {fd : FuncData} (F : Fun K "_law_least" "_law_least" s__law_least f fd) (T : Txt K mg aC t1 t2 t3 t4) : FnOk P w K mg base L2.CX0 1 f fd ["_law_clock", "_law_rows"] (spP K P__law_least) := by
  refine F.ok sc__law_least (spP_len L__law_least) (fun cdv A outer s H vs Q E hr h => ?_)
  have hu64 := hr.units
  refine ⟨_, (pss_cons (ps_set (i := 2) sc__law_least.nd rfl (Or.inl rfl) (pe_lst pa_nil))
      (pss_cons (ps_for PassesOwn.never rfl (show PI _ _ _ (iSeqX K _) from pi_seqX (pv 1)) (pg_name (i := 3) sc__law_least.nd rfl (Or.inl rfl)) (pss_cons (ps_set (i := 4) sc__law_least.nd rfl (Or.inr rfl) (pe_callTy (show CallR _ _ (rListX K) from call_list_of) (by rfl) T.list (by decide +kernel) (pa_cons (pv 3) pa_nil)))
      (pss_cons (ps_for PassesOwn.never rfl (show PI _ _ _ (iSeqX K _) from pi_seqX (pv 2)) (show PG _ _ (gTup K 2 _) from pg_tup rfl (pgs_cons (pg_name (i := 5) sc__law_least.nd rfl (Or.inr rfl)) (pgs_cons (pg_name (i := 6) sc__law_least.nd rfl (Or.inr rfl)) pgs_nil))) (pss_cons (ps_set (i := 7) sc__law_least.nd rfl (Or.inr rfl) (pe_ix (show IxR _ (rIx K) from ix_seq) (pv 4) (pv 5) (fun _ _ => rfl)))
      (pss_one (ps_set (i := 4) sc__law_least.nd rfl (Or.inr rfl) (pe_lc (own := [("_law_one", 13), ("_law_other", 14)]) rfl sc__law_least.nd (show PI _ _ _ (iZip2 K _) from pi_zip2 (by rfl) T.zip (pa_cons (pv 4) (pa_cons (pv 6) pa_nil))) (blkOk_by (own := [("_law_one", 13), ("_law_other", 14)]) (N := N__law_least) (sc := defScope s__law_least) (by decide +kernel)) (fun _ _ _ _ _ => (show PG _ _ (gTup K 2 _) from pg_tup rfl (pgs_cons (pg_name (i := 13) sc__law_least.nd rfl (Or.inl rfl)) (pgs_cons (pg_name (i := 14) sc__law_least.nd rfl (Or.inl rfl)) pgs_nil)))) (fun _ _ _ _ _ => pts_nil) (fun _ _ _ _ _ => (pe_op op_mod (pe_callTy call_int1 (by rfl) T.int (by decide +kernel) (pa_cons (pe_op op_sub (pv 13) (pe_op op_mulX (pv 7) (pv 14))) pa_nil)) (pv 0))))))))
      (pss_cons (ps_setLc (i := 8) (own := [("_law_at", 12), ("_law_number", 15)]) rfl sc__law_least.nd rfl rfl (sw_true rfl rfl rfl (by decide +kernel)) (show PI _ _ _ (iEnX K _) from pi_enumX (by rfl) T.enumerate (pa_cons (pv 4) pa_nil)) (blkOk_by (own := [("_law_at", 12), ("_law_number", 15)]) (N := N__law_least) (sc := defScope s__law_least) (by decide +kernel)) (fun _ _ _ _ _ => (show PG _ _ (gTup K 2 _) from pg_tup rfl (pgs_cons (pg_name (i := 12) sc__law_least.nd rfl (Or.inl rfl)) (pgs_cons (pg_name (i := 15) sc__law_least.nd rfl (Or.inl rfl)) pgs_nil)))) (fun _ _ _ _ _ => (pts_one (pt_cmpR (show OpR _ _ (rNeD K) from op_neD hu64) (pv 15) pe_int (nomark _)))) (fun _ _ _ _ _ => (pv 12)))
      (pss_cons (ps_if (pt_cmpR (show OpR _ _ (rEqD K) from op_eqD hu64) (pv 8) (pe_lst pa_nil) (nomark _)) (pss_one ps_continue) pss_nil)
      (pss_cons (ps_set (i := 5) sc__law_least.nd rfl (Or.inr rfl) (pe_ix (show IxR _ (rIx K) from ix_seq) (pv 8) pe_int (fun _ _ => rfl)))
      (pss_cons (ps_set (i := 9) sc__law_least.nd rfl (Or.inr rfl) (pe_ix (show IxR _ (rIx K) from ix_seq) (pe_lc (own := [("_law_number", 15)]) rfl sc__law_least.nd (pi_range1 (by rfl) T.range (pa_cons (pv 0) pa_nil)) (blkOk_by (own := [("_law_number", 15)]) (N := N__law_least) (sc := defScope s__law_least) (by decide +kernel)) (fun _ _ _ _ _ => (pg_name (i := 15) sc__law_least.nd rfl (Or.inl rfl))) (fun _ _ _ _ _ => (pts_one (pt_cmpR (show OpR _ _ (rEqD K) from op_eqD hu64) (pe_op op_mod (pe_callTy call_int1 (by rfl) T.int (by decide +kernel) (pa_cons (pe_op op_mulX (pv 15) (pe_ix (show IxR _ (rIx K) from ix_seq) (pv 4) (pv 5) (fun _ _ => rfl))) pa_nil)) (pv 0)) pe_int (nomark _)))) (fun _ _ _ _ _ => (pv 15))) pe_int (fun _ _ => rfl)))
      (pss_cons (ps_setLc (i := 10) (own := [("_law_number", 15)]) rfl sc__law_least.nd rfl rfl (sw_true rfl rfl rfl (by decide +kernel)) (show PI _ _ _ (iSeqX K _) from pi_seqX (pv 4)) (blkOk_by (own := [("_law_number", 15)]) (N := N__law_least) (sc := defScope s__law_least) (by decide +kernel)) (fun _ _ _ _ _ => (pg_name (i := 15) sc__law_least.nd rfl (Or.inl rfl))) (fun _ _ _ _ _ => pts_nil) (fun _ _ _ _ _ => (pe_op op_mod (pe_callTy call_int1 (by rfl) T.int (by decide +kernel) (pa_cons (pe_op op_mulX (pv 9) (pv 15)) pa_nil)) (pv 0))))
      (pss_cons (ps_set (i := 11) sc__law_least.nd rfl (Or.inl rfl) (pe_lst pa_nil))
      (pss_cons (ps_for PassesOwn.never rfl (show PI _ _ _ (iSeqX K _) from pi_seqX (pv 2)) (show PG _ _ (gTup K 2 _) from pg_tup rfl (pgs_cons (pg_name (i := 12) sc__law_least.nd rfl (Or.inl rfl)) (pgs_cons (pg_name (i := 6) sc__law_least.nd rfl (Or.inr rfl)) pgs_nil))) (pss_one (ps_expr (pe_bm PySem.F.plainAttrs_list PySem.F.slot_list_append PySem.F.type_list_append mt_append (pv 11) (pa_cons (pe_tup (pa_cons (pv 12) (pa_cons (pe_lc (own := [("_law_one", 13), ("_law_other", 14)]) rfl sc__law_least.nd (show PI _ _ _ (iZip2 K _) from pi_zip2 (by rfl) T.zip (pa_cons (pv 6) (pa_cons (pv 10) pa_nil))) (blkOk_by (own := [("_law_one", 13), ("_law_other", 14)]) (N := N__law_least) (sc := defScope s__law_least) (by decide +kernel)) (fun _ _ _ _ _ => (show PG _ _ (gTup K 2 _) from pg_tup rfl (pgs_cons (pg_name (i := 13) sc__law_least.nd rfl (Or.inl rfl)) (pgs_cons (pg_name (i := 14) sc__law_least.nd rfl (Or.inl rfl)) pgs_nil)))) (fun _ _ _ _ _ => pts_nil) (fun _ _ _ _ _ => (pe_op op_mod (pe_callTy call_int1 (by rfl) T.int (by decide +kernel) (pa_cons (pe_op op_sub (pv 13) (pe_op op_mulX (pe_ix (show IxR _ (rIx K) from ix_seq) (pv 6) (pv 5) (fun _ _ => rfl)) (pv 14))) pa_nil)) (pv 0)))) pa_nil))) pa_nil)))))
      (pss_one (ps_set (i := 2) sc__law_least.nd rfl (Or.inl rfl) (pe_callB (show CallR _ _ (rSorted K) from cr_sortedX hu64) (by rfl) T.sorted (by decide +kernel) (pa_cons (pe_op (show OpR _ _ (rAddX K) from op_addX) (pv 11) (pe_lst (pa_cons (pe_tup (pa_cons (pv 5) (pa_cons (pv 10) pa_nil))) pa_nil))) pa_nil))))))))))))))
      (pss_one (ps_ret (pe_callTy (show CallR _ _ (rTupX K) from call_tuple_of) (by rfl) T.tuple (by decide +kernel) (pa_cons (pe_lc (own := [("_law_lead", 5), ("_law_each", 6)]) rfl sc__law_least.nd (show PI _ _ _ (iSeqX K _) from pi_seqX (pv 2)) (blkOk_by (own := [("_law_lead", 5), ("_law_each", 6)]) (N := N__law_least) (sc := defScope s__law_least) (by decide +kernel)) (fun _ _ _ _ _ => (show PG _ _ (gTup K 2 _) from pg_tup rfl (pgs_cons (pg_name (i := 5) sc__law_least.nd rfl (Or.inl rfl)) (pgs_cons (pg_name (i := 6) sc__law_least.nd rfl (Or.inl rfl)) pgs_nil)))) (fun _ _ _ _ _ => pts_nil) (fun _ _ _ _ _ => (pe_callTy (show CallR _ _ (rTupX K) from call_tuple_of) (by rfl) T.tuple (by decide +kernel) (pa_cons (pv 6) pa_nil)))) pa_nil)))))), ?_⟩
  refine body_p (K := K) (N := N__law_least) (P := P__law_least) (fun ds d hp => ?_) vs H Q E h
  obtain ⟨p, m, rows, hp, hm, hrl, hrows, rfl, rfl⟩ := hp
  have ppos := hp.pos
  have ple := hp.le
  refine ⟨Nat.le_add_left 2 14, q_asg (evp_of_new (evn_lst eva_nil (Nat.zero_le _))) ?_⟩
  refine q_for (ds := rows.map rowD) (fun i es M => ∃ s3 s4 s5 s6 s7 s8 s9 s10 s11 s12 s13 s14 s15, es = [.d (.int p), .d (.list (rows.map rowD)), .d (.list (((rows.take i).foldl (add1 p) []).map foundD)), s3, s4, s5, s6, s7, s8, s9, s10, s11, s12, s13, s14, s15] ∧ M = []) (evw_L (evp_var rfl)) ⟨_, _, _, _, _, _, _, _, _, _, _, _, _, rfl, rfl⟩ ?_ ?_
  · rintro i d es1 M1 hi ⟨s3, s4, s5, s6, s7, s8, s9, s10, s11, s12, s13, s14, s15, rfl, rfl⟩
    rw [List.getElem?_map] at hi
    cases hq : rows[i]? with
    | none => rw [hq] at hi; cases hi
    | some row =>
      rw [hq] at hi
      have hi : rowD row = d := Option.some.inj hi
      subst hi
      obtain ⟨h1, h2⟩ := List.getElem?_eq_some_iff.mp hq
      have hrow : RowOk p m row := hrows _ (List.mem_of_getElem? hq)
      have hts : (rows.take (i + 1)).foldl (add1 p) [] = add1 p ((rows.take i).foldl (add1 p) []) row := by
        rw [List.take_succ_eq_append_getElem h1, List.foldl_append, h2]
        rfl
      have R : Red p m ((rows.take i).foldl (add1 p) []) := fold_red hp (red_nil p m) fun r hr => hrows r (List.mem_of_mem_take hr)
      have hfl : ((rows.take i).foldl (add1 p) []).length ≤ 100 := by
        have := fold_len p (rows.take i) []
        rw [List.length_take] at this
        simp at this
        omega
      rw [hts]
      generalize (rows.take i).foldl (add1 p) [] = found at R hfl
      have hfm : ∀ q ∈ found, q.2.length = m := fun q hq => (R.ok q hq).2.1
      refine ⟨_, [3], gt_name (by simp), q_asg (d := rowL row) (evp_of_new (evn_listX (t := true) (evp_var rfl))) ?_⟩
      refine q_for (ds := found.map foundD) (fun j es M => ∃ s5 s6 s7 s13 s14, es = [.d (.int p), .d (.list (rows.map rowD)), .d (.list (found.map foundD)), .d (rowD row), .d (rowL ((found.take j).foldl (redStep p) row)), s5, s6, s7, s8, s9, s10, s11, s12, s13, s14, s15] ∧ M = []) (evw_L (evp_var rfl)) ⟨_, _, _, _, _, rfl, rfl⟩ ?_ ?_
      · rintro j d es1 M1 hj ⟨s5, s6, s7, s13, s14, rfl, rfl⟩
        rw [List.getElem?_map] at hj
        cases hq2 : found[j]? with
        | none => rw [hq2] at hj; cases hj
        | some q =>
          rw [hq2] at hj
          have hj : foundD q = d := Option.some.inj hj
          subst hj
          obtain ⟨k1, k2⟩ := List.getElem?_eq_some_iff.mp hq2
          have hqm : q ∈ found := List.mem_of_getElem? hq2
          have hts2 : (found.take (j + 1)).foldl (redStep p) row = redStep p ((found.take j).foldl (redStep p) row) q := by
            rw [List.take_succ_eq_append_getElem k1, List.foldl_append, k2]
            rfl
          have hleft : RowOk p m ((found.take j).foldl (redStep p) row) := red_ok hp (fun x hx => hfm x (List.mem_of_mem_take hx)) hrow
          rw [hts2]
          generalize (found.take j).foldl (redStep p) row = left at hleft
          obtain ⟨l, e⟩ := q
          have hl : l < left.length := by rw [hleft.1]; exact (R.ok _ hqm).1
          have hel : e.length = m := hfm _ hqm
          have hin := getD_in ppos hleft.2 l
          refine ⟨_, [5, 6], gt_tup (gts_cons (gt_name (by simp)) (gts_cons (gt_name (by simp)) gts_nil)), q_asg (d := .int (left.getD l 0)) (evp_ixS (evs_of (evp_var rfl)) (evp_var rfl) (by rw [List.length_map]; exact ixN_nat hl) (getD_get hl)) ?_⟩
          refine s_asg (d := rowL (redStep p left (l, e))) (evp_of_new (evn_is (evn_lcy (left.zip e) pairD (fun q => .int ((q.1 - left.getD l 0 * q.2) % (p : Int))) (evw_is (evw_zip2 false false (eva_cons (evp_var rfl) (eva_cons (evp_var rfl) eva_nil))) (zipD_ints _ _)) (by rw [List.length_zip]; omega) fun q hq => ⟨_, gt_tup (gts_cons (gt_name (by simp)) (gts_cons (gt_name (by simp)) gts_nil)), evp_Ii (evp_intI (evp_I0i (evp_var rfl) (evp_mul (evp_var rfl) (evp_var rfl) (Or.inl ⟨by omega, by omega⟩)))) (evp_var rfl) (by omega)⟩) ?_)) ⟨_, Wk.refl _, _, _, _, _, _, rfl, rfl⟩
          unfold redStep subRow
          rw [List.map_map]
          rfl
      · rintro es1 M1 ⟨s5, s6, s7, s13, s14, rfl, rfl⟩
        rw [List.length_map, List.take_length]
        have hleft : RowOk p m (found.foldl (redStep p) row) := red_ok hp hfm hrow
        have hadd : add1 p found row = addRow p found (found.foldl (redStep p) row) := rfl
        rw [hadd]
        generalize found.foldl (redStep p) row = left at hleft
        have hlm : left.length = m := hleft.1
        refine q_asg (d := .list ((leadsOf left).map fun (i : Nat) => PyData.int (i : Int))) (evp_of_new (evn_lc (List.range left.length) (fun (i : Nat) => pairD ((i : Int), left.getD i 0)) (fun i => left.getD i 0 != 0) (fun (i : Nat) => PyData.int (i : Int)) (evw_is (evw_enX (t := false) (eva_cons (evp_var rfl) eva_nil)) (enumD_ints _)) (by rw [List.length_range]; omega) fun x hx => ⟨_, gt_tup (gts_cons (gt_name (by simp)) (gts_cons (gt_name (by simp)) gts_nil)), evt_is (evt_test (evp_ne (evp_var rfl) evp_int rfl rfl)) (by rw [eqv_int]; rfl), fun _ => evp_var rfl⟩)) ?_
        refine q_if (evt_is (evt_test (evp_eq (evp_var rfl) (evp_of_new (evn_lst eva_nil (Nat.zero_le _))) shaped_nats rfl)) (eqv_nil _)) (fun h => q_cont ?_) fun h => q_next ?_
        · have : leadsOf left = [] := by simpa using h
          unfold addRow
          rw [this]
          exact ⟨_, Wk.refl _, _, _, _, _, _, _, _, _, _, _, _, _, _, rfl, rfl⟩
        cases hL : leadsOf left with
        | nil =>
          rw [hL] at h
          cases h
        | cons lead l =>
          obtain ⟨hlt, hne⟩ := leads_lt (r := left) (i := lead) (by rw [hL]; exact List.mem_cons_self ..)
          have hin := getD_in ppos hleft.2 lead
          obtain ⟨n, l', ei, hn, hn1⟩ := invs_ne hp hin.1 hin.2 hne
          have hres : addRow p found left = srtF (found.map (clearIn p lead (scale p (n : Int) left)) ++ [(lead, scale p (n : Int) left)]) := by
            unfold addRow
            rw [hL]
            show srtF (found.map (clearIn p lead (scale p ((invsOf p (left.getD lead 0)).headD 0 : Nat) left)) ++ [(lead, scale p ((invsOf p (left.getD lead 0)).headD 0 : Nat) left)]) = _
            rw [ei]
            rfl
          rw [hres]
          have hnew : RowOk p m (scale p (n : Int) left) := scale_ok hp hlm
          refine q_asg (d := .int lead) (evp_ixS (evs_of (evp_var rfl)) evp_int (j := 0) (ixN_pos (by decide) (by show (0 : Int) < ((List.map _ (lead :: l)).length : Int); simp)) rfl) ?_
          refine q_asg (d := .int n) (evp_ixS (ds := (invsOf p (left.getD lead 0)).map fun (i : Nat) => PyData.int (i : Int)) (evs_new (evn_lc (List.range p) (fun (i : Nat) => PyData.int (i : Int)) (fun (n : Nat) => ((n : Int) * left.getD lead 0) % (p : Int) == 1) (fun (i : Nat) => PyData.int (i : Int)) (evw_rn (eva_cons (evp_var rfl) eva_nil) (by omega)) (by rw [List.length_range]; omega) fun x hx => ⟨_, gt_name (by simp), evt_is (evt_test (evp_eq (evp_Ii (evp_intI (evp_mul (evp_var rfl) (evp_ixS (d := .int (left.getD lead 0)) (evs_of (evp_var rfl)) (evp_var rfl) (by rw [List.length_map]; exact ixN_nat hlt) (getD_get hlt)) (Or.inr ⟨by omega, by omega⟩))) (evp_var rfl) (by omega)) evp_int rfl rfl)) (eqv_int _ _), fun _ => evp_var rfl⟩)) evp_int (j := 0) (ixN_pos (by decide) (by rw [ei]; simp)) (by rw [ei]; rfl)) ?_
          refine q_asg (d := rowL (scale p (n : Int) left)) (evp_of_new (evn_is (evn_lcy left PyData.int (fun x => .int (((n : Int) * x) % (p : Int))) (evw_L (evp_var rfl)) (by omega) fun x hx => ⟨_, gt_name (by simp), evp_Ii (evp_intI (evp_mul (evp_var rfl) (evp_var rfl) (Or.inl ⟨by omega, by omega⟩))) (evp_var rfl) (by omega)⟩) (by unfold scale; rw [List.map_map]; rfl))) ?_
          generalize scale p (n : Int) left = new at hnew
          refine q_asgN (evn_lst eva_nil (Nat.zero_le _)) ?_
          refine q_for (ds := found.map foundD) (fun j es M => ∃ s6 s12 s13 s14, es = [.d (.int p), .d (.list (rows.map rowD)), .d (.list (found.map foundD)), .d (rowD row), .d (rowL left), .d (.int lead), s6, s7, .d (.list ((lead :: l).map fun (i : Nat) => PyData.int (i : Int))), .d (.int n), .d (rowL new), .l 0, s12, s13, s14, s15] ∧ M = [.lst (((found.take j).map (clearIn p lead new)).map foundD)]) (evw_L (evp_var rfl)) ⟨_, _, _, _, rfl, rfl⟩ ?_ ?_
          · rintro j d es1 M1 hj ⟨s6, s12, s13, s14, rfl, rfl⟩
            rw [List.getElem?_map] at hj
            cases hq2 : found[j]? with
            | none => rw [hq2] at hj; cases hj
            | some q =>
              rw [hq2] at hj
              have hj : foundD q = d := Option.some.inj hj
              subst hj
              obtain ⟨k1, k2⟩ := List.getElem?_eq_some_iff.mp hq2
              have hqm : q ∈ found := List.mem_of_getElem? hq2
              have hts2 : (found.take (j + 1)).map (clearIn p lead new) = (found.take j).map (clearIn p lead new) ++ [clearIn p lead new q] := by
                rw [List.take_succ_eq_append_getElem k1, List.map_append, k2]
                rfl
              rw [hts2]
              obtain ⟨a, e⟩ := q
              have hel : e.length = m := hfm _ hqm
              have hle : lead < e.length := by omega
              have hin2 : 0 ≤ e.getD lead 0 ∧ e.getD lead 0 < p := getD_in ppos (R.ok _ hqm).2.2 lead
              refine ⟨_, [12, 6], gt_tup (gts_cons (gt_name (by simp)) (gts_cons (gt_name (by simp)) gts_nil)), ?_⟩
              refine s_app (d := foundD (clearIn p lead new (a, e))) (evp_tup (eva_cons (evp_var rfl) (eva_cons (evp_of_new (evn_is (evn_lcy (e.zip new) pairD (fun q => .int ((q.1 - e.getD lead 0 * q.2) % (p : Int))) (evw_is (evw_zip2 false false (eva_cons (evp_var rfl) (eva_cons (evp_var rfl) eva_nil))) (zipD_ints _ _)) (by rw [List.length_zip]; omega) fun q hq => ⟨_, gt_tup (gts_cons (gt_name (by simp)) (gts_cons (gt_name (by simp)) gts_nil)), evp_Ii (evp_intI (evp_I0i (evp_var rfl) (evp_mul (evp_ixS (d := .int (e.getD lead 0)) (evs_of (evp_var rfl)) (evp_var rfl) (by rw [List.length_map]; exact ixN_nat hle) (getD_get hle)) (evp_var rfl) (Or.inl ⟨by have := hin2.1; show -(2 ^ 64) < e.getD lead 0; omega, by have := hin2.2; show e.getD lead 0 < 2 ^ 64; omega⟩)))) (evp_var rfl) (by omega)⟩) ?_)) eva_nil)) (by show 2 ≤ 1000000; omega)) rfl rfl ?_ ⟨_, Wk.refl _, _, _, _, _, rfl, ?_⟩
              · unfold clearIn subRow
                rw [List.map_map]
                rfl
              · rw [List.length_map, List.length_map, List.length_take]
                omega
              · rw [List.map_append]
                rfl
          · rintro es1 M1 ⟨s6, s12, s13, s14, rfl, rfl⟩
            rw [List.length_map, List.take_length]
            refine sx_frz (M := []) (Nat.le_refl 0) rfl (s_asg (d := .list ((srtF (found.map (clearIn p lead new) ++ [(lead, new)])).map foundD)) ?_ ⟨_, Wk.refl _, _, _, _, _, _, _, _, _, _, _, _, _, _, rfl, rfl⟩)
            rw [srtF_map]
            refine evp_of_new (evn_sorted (evs_is (evs_new (evn_cat (evs_of (evp_var rfl)) (evs_new (evn_lst (eva_cons (evp_tup (eva_cons (evp_var rfl) (eva_cons (evp_var rfl) eva_nil)) (by show 2 ≤ 1000000; omega)) eva_nil) (by show 1 ≤ 1000000; omega))) ?_)) ?_) (found_alike (p := p) (m := m)) found_sortable ?_ ?_)
            · rw [List.length_map, List.length_map]
              show found.length + 1 ≤ 1000000
              omega
            · rw [List.map_append]
              rfl
            · intro d hd
              obtain ⟨q, _, rfl⟩ := List.mem_map.mp hd
              exact Nat.le_trans (lay_found q).2 (by omega)
            · rw [List.length_map, List.length_append, List.length_map]
              show found.length + 1 ≤ 1000000
              omega
  · rintro es1 M1 ⟨s3, s4, s5, s6, s7, s8, s9, s10, s11, s12, s13, s14, s15, rfl, rfl⟩
    rw [List.length_map, List.take_length]
    have hfl : (leastF p rows).length ≤ 100 := by
      have := fold_len p rows []
      simp at this
      exact Nat.le_trans this hrl
    refine s_ret (evp_tupS (evs_is (evs_new (evn_lcy (leastF p rows) foundD (fun q => rowD q.2) (evw_L (evp_var rfl)) (by omega) fun q hq => ⟨_, gt_tup (gts_cons (gt_name (by simp)) (gts_cons (gt_name (by simp)) gts_nil)), evp_tupS (evs_of (evp_var rfl))⟩)) ?_)) rfl
    unfold least
    rw [List.map_map]
    rfl
def P__law_solved : List PyData → PyData → Prop := fun ds d => ∃ (p m : Nat) (rows : List (List Int)), P3 p ∧ m ≤ 100 ∧ rows.length ≤ 100 ∧ (∀ r ∈ rows, RowOk p m r) ∧ ds = [.int p, .list (rows.map rowD), .int m] ∧ d = .list ((solved p rows m).map rowD)
theorem L__law_solved : ∀ ds d, P__law_solved ds d → ds.length = 3 := fun ds d ⟨_, _, _, _, _, _, _, h, _⟩ => by rw [h]; rfl
theorem zipD_leads (form : List (List Int)) (g : List Int → Nat) : zipD ((form.map g).map fun (i : Nat) => PyData.int (i : Int)) (form.map rowD) = (form.map fun r => (g r, r)).map fun q => PyData.tuple [.int ((q.1 : Nat) : Int), rowD q.2] := by
  unfold zipD
  rw [List.map_map, List.map_map, List.zipWith_map]
  induction form with
  | nil => rfl
  | cons r form ih => rw [List.zipWith_cons_cons, List.map_cons, ih]; rfl
theorem mem_natInts {x : Nat} {l : List Nat} : ((x : Int) ∈ l.map fun (i : Nat) => (i : Int)) ↔ x ∈ l := by
  rw [List.mem_map]
  constructor
  · rintro ⟨y, hy, e⟩
    have : y = x := by omega
    rw [← this]
    exact hy
  · exact fun h => ⟨x, h, rfl⟩
abbrev s__law_solved : Stmt := topS 49
def N__law_solved : List Str := ["_law_clock", "_law_rows", "_law_many", "_law_form", "_law_found", "_law_leads", "_law_place", "_law_row", "_law_lead", "_law_each", "_law_at", "_law_number"]
theorem sc__law_solved : FnScope N__law_solved ["_law_clock", "_law_rows", "_law_many"] (defScope s__law_solved) := ⟨rfl, rfl, rfl, by decide +kernel, rfl, by decide +kernel, by decide +kernel⟩
theorem ok__law_solved {f : Addr} {fd : FuncData} (F : Fun K "_law_solved" "_law_solved" s__law_solved f fd) (T : Txt K mg aC t1 t2 t3 t4) (C__law_least : Callee P w K mg base "_law_least" 1 ["_law_clock", "_law_rows"] (spP K P__law_least)) : FnOk P w K mg base L2.CX0 2 f fd ["_law_clock", "_law_rows", "_law_many"] (spP K P__law_solved) := by
  refine F.ok sc__law_solved (spP_len L__law_solved) (fun cdv A outer s H vs Q E hr h => ?_)
  have hu64 := hr.units
  refine ⟨_, (pss_cons (ps_par (i := 3) (j := 4) rfl sc__law_solved.nd rfl rfl (by decide) rfl rfl (pa_cons (pe_callC C__law_least hr (by decide) (by rfl) (pa_cons (pv 0) (pa_cons (pv 1) pa_nil))) (pa_cons (pe_lst pa_nil) pa_nil)) rfl)
      (pss_cons (ps_set (i := 5) sc__law_solved.nd rfl (Or.inr rfl) (pe_lc (own := [("_law_row", 7)]) rfl sc__law_solved.nd (show PI _ _ _ (iSeqX K _) from pi_seqX (pv 3)) (blkOk_by (own := [("_law_row", 7)]) (N := N__law_solved) (sc := defScope s__law_solved) (by decide +kernel)) (fun _ _ _ _ _ => (pg_name (i := 7) sc__law_solved.nd rfl (Or.inl rfl))) (fun _ _ _ _ _ => pts_nil) (fun _ _ _ _ _ => (pe_ix (show IxR _ (rIx K) from ix_seq) (pe_lc (own := [("_law_at", 10), ("_law_number", 11)]) rfl sc__law_solved.nd (show PI _ _ _ (iEnX K _) from pi_enumX (by rfl) T.enumerate (pa_cons (pv 7) pa_nil)) (blkOk_by (own := [("_law_at", 10), ("_law_number", 11)]) (N := N__law_solved) (sc := relS _ (defScope s__law_solved)) (by decide +kernel)) (fun _ _ _ _ _ => (show PG _ _ (gTup K 2 _) from pg_tup rfl (pgs_cons (pg_name (i := 10) sc__law_solved.nd rfl (Or.inl rfl)) (pgs_cons (pg_name (i := 11) sc__law_solved.nd rfl (Or.inl rfl)) pgs_nil)))) (fun _ _ _ _ _ => (pts_one (pt_cmpR (show OpR _ _ (rNeD K) from op_neD hu64) (pv 11) pe_int (nomark _)))) (fun _ _ _ _ _ => (pv 10))) pe_int (fun _ _ => rfl)))))
      (pss_cons (ps_for PassesOwn.never rfl (show PI _ _ _ (iSeqX K _) from pi_seqX (pe_lc (own := [("_law_place", 6)]) rfl sc__law_solved.nd (pi_range1 (by rfl) T.range (pa_cons (pv 2) pa_nil)) (blkOk_by (own := [("_law_place", 6)]) (N := N__law_solved) (sc := defScope s__law_solved) (by decide +kernel)) (fun _ _ _ _ _ => (pg_name (i := 6) sc__law_solved.nd rfl (Or.inl rfl))) (fun _ _ _ _ _ => (pts_one (pt_cmpR (show OpR _ _ (rIn K true) from op_notIn_seq) (pv 6) (pv 5) (by with_unfolding_all rfl)))) (fun _ _ _ _ _ => (pv 6)))) (pg_name (i := 6) sc__law_solved.nd rfl (Or.inr rfl)) (pss_cons (ps_setLc (i := 7) (own := [("_law_at", 10)]) rfl sc__law_solved.nd rfl rfl (sw_true rfl rfl rfl (by decide +kernel)) (pi_range1 (by rfl) T.range (pa_cons (pv 2) pa_nil)) (blkOk_by (own := [("_law_at", 10)]) (N := N__law_solved) (sc := defScope s__law_solved) (by decide +kernel)) (fun _ _ _ _ _ => (pg_name (i := 10) sc__law_solved.nd rfl (Or.inl rfl))) (fun _ _ _ _ _ => pts_nil) (fun _ _ _ _ _ => (pe_callTy call_int1 (by rfl) T.int (by decide +kernel) (pa_cons (pe_cmpR (show OpR _ _ (rEqD K) from op_eqD hu64) (pv 10) (pv 6) (nomark _)) pa_nil))))
      (pss_cons (ps_for PassesOwn.never rfl (show PI _ _ _ (iZip2 K _) from pi_zip2 (by rfl) T.zip (pa_cons (pv 5) (pa_cons (pv 3) pa_nil))) (show PG _ _ (gTup K 2 _) from pg_tup rfl (pgs_cons (pg_name (i := 8) sc__law_solved.nd rfl (Or.inl rfl)) (pgs_cons (pg_name (i := 9) sc__law_solved.nd rfl (Or.inl rfl)) pgs_nil))) (pss_one (ps_asg (pe_op op_mod (pe_callTy call_int1 (by rfl) T.int (by decide +kernel) (pa_cons (pe_un un_neg (pe_ix (show IxR _ (rIx K) from ix_seq) (pv 9) (pv 6) (fun _ _ => rfl))) pa_nil)) (pv 0)) (pg_sub (pv 7) (pv 8) set_list))))
      (pss_one (ps_expr (pe_bm PySem.F.plainAttrs_list PySem.F.slot_list_append PySem.F.type_list_append mt_append (pv 4) (pa_cons (pe_callTy (show CallR _ _ (rTupX K) from call_tuple_of) (by rfl) T.tuple (by decide +kernel) (pa_cons (pv 7) pa_nil)) pa_nil)))))))
      (pss_one (ps_ret (pv 4)))))), ?_⟩
  refine body_p (K := K) (N := N__law_solved) (P := P__law_solved) (fun ds d hp => ?_) vs H Q E h
  obtain ⟨p, m, rows, hp, hm, hrl, hrows, rfl, rfl⟩ := hp
  have ppos := hp.pos
  have ple := hp.le
  have R := least_red hp hrows
  have hfl : (least p rows).length ≤ 100 := by
    unfold least
    rw [List.length_map]
    have := fold_len p rows []
    simp at this
    exact Nat.le_trans this hrl
  have hform : ∀ r ∈ least p rows, RowOk p m r ∧ leadsOf r ≠ [] ∧ leadOf r < m := fun r hr => by
    obtain ⟨q, hq, rfl⟩ := List.mem_map.mp hr
    refine ⟨(R.ok q hq).2, ?_, by rw [red_lead R hq]; exact (R.ok q hq).1⟩
    obtain ⟨l, e⟩ := leadOf_of (r := q.2) (a := q.1) (by rw [(R.ok q hq).2.1]; exact (R.ok q hq).1) (by rw [R.one q hq]; decide) (R.low q hq)
    rw [e]
    exact List.cons_ne_nil _ _
  unfold solved
  obtain ⟨form, hf⟩ : ∃ form, form = least p rows := ⟨_, rfl⟩
  rw [← hf] at hfl hform ⊢
  refine ⟨Nat.le_add_left 3 9, q_parX (Ξ := fun s1 s2 M' => s1 = .d (.tuple (form.map rowD)) ∧ s2 = .l 0 ∧ M' = [.lst []]) (by decide) (evA_cons (Ψ := fun s M' => s = .d (.tuple (form.map rowD)) ∧ M' = []) (ev_p (evp_call (eva_cons (evp_var rfl) (eva_cons (evp_var rfl) eva_nil)) ⟨p, m, rows, hp, hm, hrl, hrows, rfl, by rw [hf]⟩) ⟨rfl, rfl⟩) fun s M' ⟨e1, e2⟩ => ?_) fun s1 s2 M' ⟨e1, e2, e3⟩ => ?_⟩
  · subst e1 e2
    exact evA_cons (Ψ := fun s M' => s = .l 0 ∧ M' = [.lst []]) (ev_n (evn_lst eva_nil (Nat.zero_le _)) ⟨rfl, rfl⟩) fun s M' ⟨e1, e2⟩ => evA_nil ⟨_, _, rfl, rfl, e1, e2⟩
  subst e1 e2 e3
  clear hf
  refine q_asg (d := .list ((form.map leadOf).map fun (i : Nat) => PyData.int (i : Int))) (evp_of_new (evn_is (evn_lcy form rowD (fun r => .int (leadOf r : Nat)) (evw_T (evp_var rfl)) (by omega) fun r hr => ⟨_, gt_name (by simp), ?_⟩) (by rw [List.map_map]; rfl))) ?_
  · obtain ⟨hr1, hr2, hr3⟩ := hform r hr
    refine evp_ixS (ds := (leadsOf r).map fun (i : Nat) => PyData.int (i : Int)) (evs_new (evn_lc (List.range r.length) (fun (i : Nat) => pairD ((i : Int), r.getD i 0)) (fun i => r.getD i 0 != 0) (fun (i : Nat) => PyData.int (i : Int)) (evw_is (evw_enX (t := true) (eva_cons (evp_var rfl) eva_nil)) (enumD_ints _)) (by rw [List.length_range, hr1.1]; omega) fun x hx => ⟨_, gt_tup (gts_cons (gt_name (by simp)) (gts_cons (gt_name (by simp)) gts_nil)), evt_is (evt_test (evp_ne (evp_var rfl) evp_int rfl rfl)) (by rw [eqv_int]; rfl), fun _ => evp_var rfl⟩)) evp_int (j := 0) (ixN_pos (by decide) ?_) ?_
    · rw [List.length_map]
      have := List.length_pos_iff.mpr hr2
      omega
    · unfold leadOf
      cases e : leadsOf r with
      | nil => exact absurd e hr2
      | cons a l => rfl
  refine q_for (ds := ((List.range m).filter fun i => !decide (i ∈ form.map leadOf)).map fun (i : Nat) => PyData.int (i : Int)) (fun j es M => ∃ s6 s7 s8 s9 s10 s11, es = [.d (.int p), .d (.list (rows.map rowD)), .d (.int m), .d (.tuple (form.map rowD)), .l 0, .d (.list ((form.map leadOf).map fun (i : Nat) => PyData.int (i : Int))), s6, s7, s8, s9, s10, s11] ∧ M = [.lst (((((List.range m).filter fun i => !decide (i ∈ form.map leadOf)).take j).map (solvedRow p m (form.map fun r => (leadOf r, r)))).map rowD)]) ?_ ⟨_, _, _, _, _, _, rfl, rfl⟩ ?_ ?_
  · refine evw_L (evp_of_new (evn_lc (List.range m) (fun (i : Nat) => PyData.int (i : Int)) (fun i => !decide (i ∈ form.map leadOf)) (fun (i : Nat) => PyData.int (i : Int)) (evw_rn (eva_cons (evp_var rfl) eva_nil) (by omega)) (by rw [List.length_range]; omega) fun x hx => ⟨_, gt_name (by simp), evt_is (evt_test (evp_niS (ns := (form.map leadOf).map fun (i : Nat) => (i : Int)) (evp_var rfl) (evs_is (evs_of (evp_var rfl)) (by simp only [List.map_map]; rfl)))) ?_, fun _ => evp_var rfl⟩))
    congr 1
    rw [decide_eq_decide]
    exact mem_natInts
  · rintro j d es1 M1 hj ⟨s6, s7, s8, s9, s10, s11, rfl, rfl⟩
    rw [List.getElem?_map] at hj
    cases hq : ((List.range m).filter fun i => !decide (i ∈ form.map leadOf))[j]? with
    | none => rw [hq] at hj; cases hj
    | some place =>
      rw [hq] at hj
      have hj : PyData.int (place : Int) = d := Option.some.inj hj
      subst hj
      obtain ⟨k1, k2⟩ := List.getElem?_eq_some_iff.mp hq
      have hpl : place < m := List.mem_range.mp (List.mem_filter.mp (List.mem_of_getElem? hq)).1
      have hlen : ((List.range m).filter fun i => !decide (i ∈ form.map leadOf)).length ≤ m := Nat.le_trans (List.length_filter_le _ _) (by rw [List.length_range]; exact Nat.le_refl _)
      refine ⟨_, [6], gt_name (by simp), q_asgN (evn_is (evn_lcy (List.range m) (fun (i : Nat) => PyData.int (i : Int)) (fun i => .int (if i = place then 1 else 0)) (evw_rn (eva_cons (evp_var rfl) eva_nil) (by omega)) (by rw [List.length_range]; omega) fun x hx => ⟨_, gt_name (by simp), evp_is (evp_intB (evp_eq (evp_var rfl) (evp_var rfl) rfl rfl)) ?_⟩) (m' := .lst (((List.range m).map fun i => if i = place then (1 : Int) else 0).map PyData.int)) (by rw [List.map_map]; rfl)) ?_⟩
      · rw [eqv_int]
        congr 1
        by_cases e : x = place
        · simp [e]
        · have : ¬ (x : Int) = (place : Int) := by omega
          simp [e, this]
      refine q_for (ds := (form.map fun r => (leadOf r, r)).map fun q => PyData.tuple [.int ((q.1 : Nat) : Int), rowD q.2]) (fun k es M => ∃ s8 s9 s10 s11, es = [.d (.int p), .d (.list (rows.map rowD)), .d (.int m), .d (.tuple (form.map rowD)), .l 0, .d (.list ((form.map leadOf).map fun (i : Nat) => PyData.int (i : Int))), .d (.int place), .l 1, s8, s9, s10, s11] ∧ M = [.lst (((((List.range m).filter fun i => !decide (i ∈ form.map leadOf)).take j).map (solvedRow p m (form.map fun r => (leadOf r, r)))).map rowD), .lst ((((form.map fun r => (leadOf r, r)).take k).foldl (fun row q => row.set q.1 ((-(q.2.getD place 0)) % (p : Int))) ((List.range m).map fun i => if i = place then 1 else 0)).map PyData.int)] ∧ (((form.map fun r => (leadOf r, r)).take k).foldl (fun row q => row.set q.1 ((-(q.2.getD place 0)) % (p : Int))) ((List.range m).map fun i => if i = place then (1 : Int) else 0)).length = m)
        (evw_is (evw_zip2 false true (eva_cons (evp_var rfl) (eva_cons (evp_var rfl) eva_nil))) (zipD_leads _ _)) ⟨_, _, _, _, rfl, rfl, by simp⟩ ?_ ?_
      · rintro k d es1 M1 hk ⟨s8, s9, s10, s11, rfl, rfl, hm2⟩
        rw [List.getElem?_map] at hk
        cases hq2 : (form.map fun r => (leadOf r, r))[k]? with
        | none => rw [hq2] at hk; cases hk
        | some q =>
          rw [hq2] at hk
          have hk : PyData.tuple [.int ((q.1 : Nat) : Int), rowD q.2] = d := Option.some.inj hk
          subst hk
          obtain ⟨i1, i2⟩ := List.getElem?_eq_some_iff.mp hq2
          obtain ⟨r, hr, rfl⟩ := List.mem_map.mp (List.mem_of_getElem? hq2)
          obtain ⟨hr1, hr2, hr3⟩ := hform r hr
          rw [List.take_succ_eq_append_getElem i1, List.foldl_append, i2]
          generalize ((form.map fun r => (leadOf r, r)).take k).foldl (fun row q => row.set q.1 ((-(q.2.getD place 0)) % (p : Int))) ((List.range m).map fun i => if i = place then (1 : Int) else 0) = row at hm2
          refine ⟨_, [8, 9], gt_tup (gts_cons (gt_name (by simp)) (gts_cons (gt_name (by simp)) gts_nil)), s_sub (d := .int ((-(r.getD place 0)) % (p : Int))) (evp_Ii (evp_intI (evp_neg (evp_ixT (evp_var rfl) (evp_var rfl) (by rw [List.length_map]; exact ixN_nat (by rw [hr1.1]; exact hpl)) (getD_get (by rw [hr1.1]; exact hpl))))) (evp_var rfl) (by omega)) rfl rfl (evp_var rfl) (by rw [List.length_map]; exact ixN_nat (by rw [hm2]; exact hr3)) ⟨_, Wk.refl _, _, _, _, _, rfl, ?_, ?_⟩⟩
          · show [_, MO.lst ((row.map PyData.int).set (leadOf r) _)] = [_, MO.lst ((row.set (leadOf r) _).map PyData.int)]
            rw [List.map_set]
          · show (row.set (leadOf r) _).length = m
            rw [List.length_set, hm2]
      · rintro es1 M1 ⟨s8, s9, s10, s11, rfl, rfl, hm2⟩
        rw [List.length_map, List.take_length]
        refine sx_frz (M := [_]) (Nat.zero_le _) rfl (s_app (d := rowD (solvedRow p m (form.map fun r => (leadOf r, r)) place)) (evp_tupS (evs_of (evp_var rfl))) rfl rfl ?_ ⟨_, Wk.refl _, _, _, _, _, _, _, rfl, ?_⟩)
        · rw [List.length_map, List.length_map, List.length_take]
          omega
        · rw [List.take_succ_eq_append_getElem k1, List.map_append, List.map_append, k2]
          rfl
  · rintro es1 M1 ⟨s6, s7, s8, s9, s10, s11, rfl, rfl⟩
    rw [List.length_map, List.take_length]
    exact sx_frz (M := []) (Nat.le_refl 0) rfl (s_ret (evp_var rfl) rfl)
end
end Q
end
section
set_option Elab.async false
set_option linter.all false
set_option maxRecDepth 100000
set_option maxHeartbeats 4000000
/-! Pb: tangles by deeds: the plain readings. -/
namespace Q
open PySem
inductive Deed where
  | cross (b : Bool) (g : Nat) | join (g : Nat) | opn (g : Nat) | turn (g : Nat)
def Deed.word : Deed → Str
  | .cross true _ => "over" | .cross false _ => "under" | .join _ => "join" | .opn _ => "open" | .turn _ => "turn"
def Deed.gap : Deed → Nat
  | .cross _ g => g | .join g => g | .opn g => g | .turn g => g
def deedD (x : Deed) : PyData := .tuple [.str x.word, .int x.gap]
def Deed.isOpn : Deed → Bool
  | .opn _ => true | _ => false
def unitRow (m i : Nat) : List Int := (List.range m).map fun j => if j = i then 1 else 0
def crossRow (p : Nat) (a u d : List Int) : List Int := (a.zip (u.zip d)).map fun q => (q.1 + q.2.1 - q.2.2) % (p : Int)
def subR (p : Nat) (a b : List Int) : List Int := (a.zip b).map fun q => (q.1 - q.2) % (p : Int)
structure Form where
  ring : List (List Int)
  fresh : Nat
  zero : List (List Int)
def cyR (r : List (List Int)) (i : Nat) : List Int := r.getD (i % r.length) []
def form1 (p m : Nat) (f : Form) : Deed → Form
  | .cross b g =>
    let more := cyR f.ring (g + f.ring.length - 1)
    let less := cyR f.ring (g + 1)
    { f with ring := f.ring.set g (crossRow p (f.ring.getD g []) (if b then more else less) (if b then less else more)) }
  | .join g => if 2 < f.ring.length then { f with ring := f.ring.take g ++ f.ring.drop (g + 2), zero := f.zero ++ [subR p (cyR f.ring (g + f.ring.length - 1)) (f.ring.getD (g + 1) [])] } else { f with ring := f.ring.take 1 }
  | .opn g => { f with ring := f.ring.take (g + 1) ++ [unitRow m f.fresh] ++ (if 1 < f.ring.length then f.ring.drop g else []), fresh := f.fresh + 1 }
  | .turn g => { f with ring := f.ring.drop g ++ f.ring.take g }
/-- deeds that may be done on a ring of n ends, the first fresh unit there -/
def Vd (m : Nat) : Nat → Nat → List Deed → Prop
  | _, _, [] => True
  | n, fr, .cross _ g :: ds => 2 ≤ n ∧ g < n ∧ Vd m n fr ds
  | n, fr, .join g :: ds => 2 ≤ n ∧ (2 < n → 1 ≤ g ∧ g + 1 < n) ∧ Vd m (if 2 < n then n - 2 else 1) fr ds
  | n, fr, .opn g :: ds => 2 ≤ n ∧ g < n ∧ fr < m ∧ Vd m (n + 2) (fr + 1) ds
  | n, fr, .turn g :: ds => 2 ≤ n ∧ g ≤ n ∧ Vd m n fr ds
def opens (ds : List Deed) : Nat := (ds.filter Deed.isOpn).length
def manyOf (n : Nat) (ds : List Deed) : Nat := n + opens ds
def formsOf (p n : Nat) (ds : List Deed) : Form := ds.foldl (form1 p (manyOf n ds)) { ring := (List.range n).map (unitRow (manyOf n ds)), fresh := n, zero := [] }
/-- what the forms are at every turn -/
structure FOk (p m n fr : Nat) (f : Form) : Prop where
  len : f.ring.length = n
  fr : f.fresh = fr
  ring : ∀ r ∈ f.ring, RowOk p m r
  zero : ∀ r ∈ f.zero, RowOk p m r
theorem unitRow_ok {p m i : Nat} (hp : 1 < p) : RowOk p m (unitRow m i) := by
  refine ⟨by simp [unitRow], fun x hx => ?_⟩
  obtain ⟨j, _, rfl⟩ := List.mem_map.mp hx
  split <;> omega
theorem crossRow_ok {p m : Nat} (hp : 0 < p) {a u d : List Int} (ha : a.length = m) (hu : u.length = m) (hd : d.length = m) : RowOk p m (crossRow p a u d) := by
  refine ⟨by simp [crossRow, ha, hu, hd], fun x hx => ?_⟩
  obtain ⟨q, _, rfl⟩ := List.mem_map.mp hx
  exact mod_in hp _
theorem subR_ok {p m : Nat} (hp : 0 < p) {a b : List Int} (ha : a.length = m) (hb : b.length = m) : RowOk p m (subR p a b) := by
  refine ⟨by simp [subR, ha, hb], fun x hx => ?_⟩
  obtain ⟨q, _, rfl⟩ := List.mem_map.mp hx
  exact mod_in hp _
theorem cyR_mem {r : List (List Int)} {i : Nat} (h : 0 < r.length) : cyR r i ∈ r := by
  unfold cyR
  have := Nat.mod_lt i h
  rw [List.getD_eq_getElem?_getD, List.getElem?_eq_getElem this]
  exact List.getElem_mem _
theorem getD_mem {r : List (List Int)} {i : Nat} (h : i < r.length) : r.getD i [] ∈ r := by
  rw [List.getD_eq_getElem?_getD, List.getElem?_eq_getElem h]
  exact List.getElem_mem _
/-- where the ends and the fresh unit stand behind a deed -/
def nx (n : Nat) : Deed → Nat
  | .cross _ _ => n | .join _ => if 2 < n then n - 2 else 1 | .opn _ => n + 2 | .turn _ => n
def nf (fr : Nat) : Deed → Nat
  | .opn _ => fr + 1 | _ => fr
theorem Vd.tl {m n fr : Nat} {x : Deed} {ds : List Deed} (h : Vd m n fr (x :: ds)) : Vd m (nx n x) (nf fr x) ds := by
  cases x with
  | cross b g => exact h.2.2
  | join g => exact h.2.2
  | opn g => exact h.2.2.2
  | turn g => exact h.2.2
theorem Vd.two {m n fr : Nat} {x : Deed} {ds : List Deed} (h : Vd m n fr (x :: ds)) : 2 ≤ n := by
  cases x <;> exact h.1
theorem form1_ok {p m n fr : Nat} (hp : 1 < p) {f : Form} {x : Deed} {ds : List Deed} (F : FOk p m n fr f) (h : Vd m n fr (x :: ds)) : FOk p m (nx n x) (nf fr x) (form1 p m f x) := by
  have h2 := h.two
  have hlen := F.len
  have hpos : 0 < f.ring.length := by omega
  cases x with
  | cross b g =>
    have hg : g < n := h.2.1
    have r1 := F.ring _ (cyR_mem (i := g + f.ring.length - 1) hpos)
    have r2 := F.ring _ (cyR_mem (i := g + 1) hpos)
    have r3 := F.ring _ (getD_mem (i := g) (by omega : g < f.ring.length))
    refine ⟨by show (f.ring.set g _).length = n; rw [List.length_set]; exact hlen, F.fr, fun r hr => ?_, F.zero⟩
    rcases List.mem_or_eq_of_mem_set hr with hr | rfl
    · exact F.ring r hr
    · exact crossRow_ok (by omega) r3.1 (by cases b; exact r2.1; exact r1.1) (by cases b; exact r1.1; exact r2.1)
  | join g =>
    by_cases hn : 2 < n
    · have hg := h.2.1 hn
      have r1 := F.ring _ (cyR_mem (i := g + f.ring.length - 1) hpos)
      have r2 := F.ring _ (getD_mem (i := g + 1) (by omega : g + 1 < f.ring.length))
      show FOk p m (if 2 < n then n - 2 else 1) fr (if 2 < f.ring.length then _ else _)
      rw [if_pos hn, if_pos (by omega)]
      refine ⟨by show (f.ring.take g ++ f.ring.drop (g + 2)).length = n - 2; rw [List.length_append, List.length_take, List.length_drop]; omega, F.fr, fun r hr => ?_, fun r hr => ?_⟩
      · rcases List.mem_append.mp hr with hr | hr
        · exact F.ring r (List.mem_of_mem_take hr)
        · exact F.ring r (List.mem_of_mem_drop hr)
      · rcases List.mem_append.mp hr with hr | hr
        · exact F.zero r hr
        · rw [List.mem_singleton.mp hr]
          exact subR_ok (by omega) r1.1 r2.1
    · show FOk p m (if 2 < n then n - 2 else 1) fr (if 2 < f.ring.length then _ else _)
      rw [if_neg hn, if_neg (by omega)]
      exact ⟨by show (f.ring.take 1).length = 1; rw [List.length_take]; omega, F.fr, fun r hr => F.ring r (List.mem_of_mem_take hr), F.zero⟩
  | opn g =>
    have hg : g < n := h.2.1
    show FOk p m (n + 2) (fr + 1) { f with ring := f.ring.take (g + 1) ++ [unitRow m f.fresh] ++ (if 1 < f.ring.length then f.ring.drop g else []), fresh := f.fresh + 1 }
    rw [if_pos (by omega : 1 < f.ring.length)]
    refine ⟨by show (f.ring.take (g + 1) ++ [unitRow m f.fresh] ++ f.ring.drop g).length = n + 2; rw [List.length_append, List.length_append, List.length_take, List.length_drop, List.length_singleton]; omega, by show f.fresh + 1 = fr + 1; rw [F.fr], fun r hr => ?_, F.zero⟩
    rcases List.mem_append.mp hr with hr | hr
    · rcases List.mem_append.mp hr with hr | hr
      · exact F.ring r (List.mem_of_mem_take hr)
      · rw [List.mem_singleton.mp hr]
        exact unitRow_ok hp
    · exact F.ring r (List.mem_of_mem_drop hr)
  | turn g =>
    have hg : g ≤ n := h.2.1
    refine ⟨by show (f.ring.drop g ++ f.ring.take g).length = n; rw [List.length_append, List.length_take, List.length_drop]; omega, F.fr, fun r hr => ?_, F.zero⟩
    rcases List.mem_append.mp hr with hr | hr
    · exact F.ring r (List.mem_of_mem_drop hr)
    · exact F.ring r (List.mem_of_mem_take hr)
theorem zero_len (p m : Nat) (f : Form) (x : Deed) : (form1 p m f x).zero.length ≤ f.zero.length + 1 := by
  cases x with
  | cross b g => exact Nat.le_succ _
  | join g =>
    by_cases h : 2 < f.ring.length
    · have e : form1 p m f (.join g) = { f with ring := f.ring.take g ++ f.ring.drop (g + 2), zero := f.zero ++ [subR p (cyR f.ring (g + f.ring.length - 1)) (f.ring.getD (g + 1) [])] } := if_pos h
      rw [e]
      show (f.zero ++ [_]).length ≤ _
      rw [List.length_append]
      exact Nat.le_refl _
    · have e : form1 p m f (.join g) = { f with ring := f.ring.take 1 } := if_neg h
      rw [e]
      exact Nat.le_succ _
  | opn g => exact Nat.le_succ _
  | turn g => exact Nat.le_succ _
/-- through -/
def throughOf (p n : Nat) (ds : List Deed) : List (List Int) := least p ((solved p (formsOf p n ds).zero (manyOf n ds)).map fun r => r.take n)
end Q
end
section
set_option Elab.async false
set_option linter.all false
set_option maxRecDepth 100000
set_option maxHeartbeats 4000000
/-! Wg: the law's forms, through. -/
namespace Q
open PySem PySem.Spec PyProof.Rows L2
theorem eqv_str (a b : Str) : PyData.eqv (.str a) (.str b) = (a == b) := by simp [PyData.eqv]
def Deed.isOver : Deed → Bool
  | .cross true _ => true | _ => false
def Deed.isUnder : Deed → Bool
  | .cross false _ => true | _ => false
def Deed.isJoin : Deed → Bool
  | .join _ => true | _ => false
theorem shaped_w0 : SeqAt.shaped (.str "over") = true := by decide +kernel
theorem shaped_w1 : SeqAt.shaped (.str "under") = true := by decide +kernel
theorem shaped_w2 : SeqAt.shaped (.str "join") = true := by decide +kernel
theorem shaped_w3 : SeqAt.shaped (.str "open") = true := by decide +kernel
theorem shaped_w4 : SeqAt.shaped (.str "turn") = true := by decide +kernel
theorem shaped_word : ∀ x : Deed, SeqAt.shaped (.str x.word) = true
  | .cross true _ => shaped_w0
  | .cross false _ => shaped_w1
  | .join _ => shaped_w2
  | .opn _ => shaped_w3
  | .turn _ => shaped_w4
theorem word_over : ∀ x : Deed, PyData.eqv (.str x.word) (.str "over") = x.isOver
  | .cross true _ => (eqv_str _ _).trans (show (("over" : Str) == "over") = true by decide +kernel)
  | .cross false _ => (eqv_str _ _).trans (show (("under" : Str) == "over") = false by decide +kernel)
  | .join _ => (eqv_str _ _).trans (show (("join" : Str) == "over") = false by decide +kernel)
  | .opn _ => (eqv_str _ _).trans (show (("open" : Str) == "over") = false by decide +kernel)
  | .turn _ => (eqv_str _ _).trans (show (("turn" : Str) == "over") = false by decide +kernel)
theorem word_under : ∀ x : Deed, PyData.eqv (.str x.word) (.str "under") = x.isUnder
  | .cross true _ => (eqv_str _ _).trans (show (("over" : Str) == "under") = false by decide +kernel)
  | .cross false _ => (eqv_str _ _).trans (show (("under" : Str) == "under") = true by decide +kernel)
  | .join _ => (eqv_str _ _).trans (show (("join" : Str) == "under") = false by decide +kernel)
  | .opn _ => (eqv_str _ _).trans (show (("open" : Str) == "under") = false by decide +kernel)
  | .turn _ => (eqv_str _ _).trans (show (("turn" : Str) == "under") = false by decide +kernel)
theorem word_join : ∀ x : Deed, PyData.eqv (.str x.word) (.str "join") = x.isJoin
  | .cross true _ => (eqv_str _ _).trans (show (("over" : Str) == "join") = false by decide +kernel)
  | .cross false _ => (eqv_str _ _).trans (show (("under" : Str) == "join") = false by decide +kernel)
  | .join _ => (eqv_str _ _).trans (show (("join" : Str) == "join") = true by decide +kernel)
  | .opn _ => (eqv_str _ _).trans (show (("open" : Str) == "join") = false by decide +kernel)
  | .turn _ => (eqv_str _ _).trans (show (("turn" : Str) == "join") = false by decide +kernel)
theorem word_open : ∀ x : Deed, PyData.eqv (.str x.word) (.str "open") = x.isOpn
  | .cross true _ => (eqv_str _ _).trans (show (("over" : Str) == "open") = false by decide +kernel)
  | .cross false _ => (eqv_str _ _).trans (show (("under" : Str) == "open") = false by decide +kernel)
  | .join _ => (eqv_str _ _).trans (show (("join" : Str) == "open") = false by decide +kernel)
  | .opn _ => (eqv_str _ _).trans (show (("open" : Str) == "open") = true by decide +kernel)
  | .turn _ => (eqv_str _ _).trans (show (("turn" : Str) == "open") = false by decide +kernel)
theorem rows_get {r : List (List Int)} {i : Nat} (h : i < r.length) : (r.map rowD)[i]? = some (rowD (r.getD i [])) := by
  rw [List.getElem?_map, List.getElem?_eq_getElem h, List.getD_eq_getElem?_getD, List.getElem?_eq_getElem h]
  rfl
theorem cyR_get {r : List (List Int)} {i : Nat} (h : 0 < r.length) : (r.map rowD)[i % r.length]? = some (rowD (cyR r i)) := rows_get (Nat.mod_lt i h)
theorem cutD_map {α : Type} (f : α → PyData) (xs : List α) (lo hi : Option Int) : cutD (xs.map f) lo hi = (cutD xs lo hi).map f := by
  unfold cutD
  rw [List.length_map, List.map_take, List.map_drop]
theorem cut_to {α : Type} (xs : List α) (k : Nat) : cutD xs none (some (k : Int)) = xs.take k := by
  unfold cutD
  rw [HT.sIx_nat]
  show List.take (min k xs.length - 0) (List.drop 0 xs) = _
  rw [List.drop_zero, Nat.sub_zero]
  by_cases h : k ≤ xs.length
  · rw [Nat.min_eq_left h]
  · rw [Nat.min_eq_right (by omega), List.take_length, List.take_of_length_le (by omega)]
theorem cut_from {α : Type} (xs : List α) (k : Nat) : cutD xs (some (k : Int)) none = xs.drop k := by
  unfold cutD
  rw [HT.sIx_nat]
  show List.take (xs.length - min k xs.length) (List.drop (min k xs.length) xs) = _
  by_cases h : k ≤ xs.length
  · rw [Nat.min_eq_left h, List.take_of_length_le (by rw [List.length_drop]; exact Nat.le_refl _)]
  · rw [Nat.min_eq_right (by omega), List.drop_length, List.drop_eq_nil_of_le (by omega), List.take_nil]
theorem zipD3_ints (a b c : List Int) : zipD3 (a.map PyData.int) (b.map PyData.int) (c.map PyData.int) = (a.zip (b.zip c)).map fun q => PyData.tuple [.int q.1, .int q.2.1, .int q.2.2] := by
  unfold zipD3
  rw [List.zipWith_map, List.zip_eq_zipWith, List.zip_eq_zipWith, List.map_zipWith, List.zipWith_map_left]
  induction a generalizing b c with
  | nil => rfl
  | cons x a ih =>
    cases b with
    | nil => rfl
    | cons y b =>
      cases c with
      | nil => rfl
      | cons z c =>
        simp only [List.zipWith_cons_cons]
        rw [ih b c]
theorem map_eq_vals {α : Type} {xs : List α} {f : α → PyData} {ns : List Int} (h : xs.map f = ns.map PyData.int) : (MO.lst (xs.map f)) = .lst (ns.map PyData.int) := by rw [h]
section
variable {P : Program} {w : World} {K : PySem.W.Frag} {mg : Str → Option Value} {base : Heap} {aC : Addr} {t1 t2 t3 t4 : Tok}
def formsD (m : Nat) (f : Form) : PyData := .tuple [.int m, .list (f.zero.map rowD), .list (f.ring.map rowD)]
def P__law_forms : List PyData → PyData → Prop := fun ds d => ∃ (p n : Nat) (xs : List Deed), P3 p ∧ 2 ≤ n ∧ n ≤ 20 ∧ xs.length ≤ 60 ∧ Vd (manyOf n xs) n n xs ∧ ds = [.int p, .int n, .list (xs.map deedD)] ∧ d = formsD (manyOf n xs) (formsOf p n xs)
theorem L__law_forms : ∀ ds d, P__law_forms ds d → ds.length = 3 := fun ds d ⟨_, _, _, _, _, _, _, _, h, _⟩ => by rw [h]; rfl
theorem nx_le (n : Nat) (x : Deed) : nx n x ≤ n + 2 := by
  cases x with
  | cross b g => exact Nat.le_add_right _ _
  | join g =>
    show (if 2 < n then n - 2 else 1) ≤ n + 2
    split <;> omega
  | opn g => exact Nat.le_refl _
  | turn g => exact Nat.le_add_right _ _
theorem Vd.drop {m : Nat} : ∀ {xs : List Deed} {n fr : Nat} (p : Nat) (hp : 1 < p) {f : Form}, Vd m n fr xs → FOk p m n fr f → ∀ i, ∃ n' fr', n' ≤ n + 2 * i ∧ Vd m n' fr' (xs.drop i) ∧ FOk p m n' fr' ((xs.take i).foldl (form1 p m) f)
  | [], n, fr, p, hp, f, v, F, i => ⟨n, fr, by omega, by simpa using v, by simpa using F⟩
  | x :: xs, n, fr, p, hp, f, v, F, 0 => ⟨n, fr, by omega, v, F⟩
  | x :: xs, n, fr, p, hp, f, v, F, i + 1 => by
    obtain ⟨n', fr', h0, h1, h2⟩ := Vd.drop (xs := xs) p hp v.tl (form1_ok hp F v) i
    have := nx_le n x
    exact ⟨n', fr', by omega, by simpa using h1, by simpa using h2⟩
abbrev s__law_forms : Stmt := topS 50
def N__law_forms : List Str := ["_law_clock", "_law_ends", "_law_deeds_here", "_law_many", "_law_units", "_law_ring", "_law_fresh", "_law_zero", "_law_word", "_law_gap", "_law_size", "_law_more", "_law_less", "_law_place", "_law_at", "_law_one", "_law_up", "_law_down", "_law_other"]
theorem sc__law_forms : FnScope N__law_forms ["_law_clock", "_law_ends", "_law_deeds_here"] (defScope s__law_forms) := ⟨rfl, rfl, rfl, by decide +kernel, rfl, by decide +kernel, by decide +kernel⟩
theorem ok__law_forms {f : Addr} {fd : FuncData} (F : Fun K "_law_forms" "_law_forms" s__law_forms f fd) (T : Txt K mg aC t1 t2 t3 t4) : FnOk P w K mg base L2.CX0 1 f fd ["_law_clock", "_law_ends", "_law_deeds_here"] (spP K P__law_forms) := by
  refine F.ok sc__law_forms (spP_len L__law_forms) (fun cdv A outer s H vs Q E hr h => ?_)
  have hu64 := hr.units
  refine ⟨_, (pss_cons (ps_set (i := 3) sc__law_forms.nd rfl (Or.inr rfl) (pe_op (show OpR _ _ (rAddX K) from op_addX) (pe_callB (call_max2 rfl) (by rfl) T.max (by decide +kernel) (pa_cons pe_int (pa_cons (pv 1) pa_nil))) (pe_callB (show CallR _ _ (rLenX K) from call_len) (by rfl) T.len (by decide +kernel) (pa_cons (pe_lc (own := [("_law_word", 8), ("_law_gap", 9)]) rfl sc__law_forms.nd (show PI _ _ _ (iSeqX K _) from pi_seqX (pv 2)) (blkOk_by (own := [("_law_word", 8), ("_law_gap", 9)]) (N := N__law_forms) (sc := defScope s__law_forms) (by decide +kernel)) (fun _ _ _ _ _ => (show PG _ _ (gTup K 2 _) from pg_tup rfl (pgs_cons (pg_name (i := 8) sc__law_forms.nd rfl (Or.inl rfl)) (pgs_cons (pg_name (i := 9) sc__law_forms.nd rfl (Or.inl rfl)) pgs_nil)))) (fun _ _ _ _ _ => (pts_one (pt_cmpR (show OpR _ _ (rEqD K) from op_eqD hu64) (pv 8) pe_str (nomark _)))) (fun _ _ _ _ _ => pe_int)) pa_nil))))
      (pss_cons (ps_setLc (i := 4) (own := [("_law_place", 13)]) rfl sc__law_forms.nd rfl rfl (sw_true rfl rfl rfl (by decide +kernel)) (pi_range1 (by rfl) T.range (pa_cons (pv 3) pa_nil)) (blkOk_by (own := [("_law_place", 13)]) (N := N__law_forms) (sc := defScope s__law_forms) (by decide +kernel)) (fun _ _ _ _ _ => (pg_name (i := 13) sc__law_forms.nd rfl (Or.inr rfl))) (fun _ _ _ _ _ => pts_nil) (fun _ _ _ _ _ => (pe_callTy (show CallR _ _ (rTupX K) from call_tuple_of) (by rfl) T.tuple (by decide +kernel) (pa_cons (pe_lc (own := [("_law_at", 14)]) rfl sc__law_forms.nd (pi_range1 (by rfl) T.range (pa_cons (pv 3) pa_nil)) (blkOk_by (own := [("_law_at", 14)]) (N := N__law_forms) (sc := relS _ (defScope s__law_forms)) (by decide +kernel)) (fun _ _ _ _ _ => (pg_name (i := 14) sc__law_forms.nd rfl (Or.inl rfl))) (fun _ _ _ _ _ => pts_nil) (fun _ _ _ _ _ => (pe_callTy call_int1 (by rfl) T.int (by decide +kernel) (pa_cons (pe_cmpR (show OpR _ _ (rEqD K) from op_eqD hu64) (pv 14) (pv 13) (nomark _)) pa_nil)))) pa_nil))))
      (pss_cons (ps_par3 (i := 5) (j := 6) (l := 7) rfl sc__law_forms.nd rfl rfl rfl (by decide) (by decide) (by decide) rfl rfl rfl (pa_cons (pe_slice (show SlR _ (rSlX K) from sl_X) (pv 4) po_none (po_some (pe_callB (call_max2 rfl) (by rfl) T.max (by decide +kernel) (pa_cons pe_int (pa_cons (pv 1) pa_nil))))) (pa_cons (pe_callB (call_max2 rfl) (by rfl) T.max (by decide +kernel) (pa_cons pe_int (pa_cons (pv 1) pa_nil))) (pa_cons (pe_lst pa_nil) pa_nil))) rfl)
      (pss_cons (ps_for PassesOwn.never rfl (show PI _ _ _ (iSeqX K _) from pi_seqX (pv 2)) (show PG _ _ (gTup K 2 _) from pg_tup rfl (pgs_cons (pg_name (i := 8) sc__law_forms.nd rfl (Or.inl rfl)) (pgs_cons (pg_name (i := 9) sc__law_forms.nd rfl (Or.inl rfl)) pgs_nil))) (pss_cons (ps_set (i := 10) sc__law_forms.nd rfl (Or.inl rfl) (pe_callB (show CallR _ _ (rLenX K) from call_len) (by rfl) T.len (by decide +kernel) (pa_cons (pv 5) pa_nil)))
      (pss_one (ps_if (PW.pt (pw_or (pt_cmpR (show OpR _ _ (rEqD K) from op_eqD hu64) (pv 8) pe_str (nomark _)) (pw_or1 (pt_cmpR (show OpR _ _ (rEqD K) from op_eqD hu64) (pv 8) pe_str (nomark _))))) (pss_cons (ps_par (i := 11) (j := 12) rfl sc__law_forms.nd rfl rfl (by decide) rfl rfl (pa_cons (pe_ix (show IxR _ (rIx K) from ix_seq) (pv 5) (pe_op op_sub (pv 9) pe_int) (fun _ _ => rfl)) (pa_cons (pe_ix (show IxR _ (rIx K) from ix_seq) (pv 5) (pe_op op_mod (pe_callTy call_int1 (by rfl) T.int (by decide +kernel) (pa_cons (pe_op (show OpR _ _ (rAddX K) from op_addX) (pv 9) pe_int) pa_nil)) (pv 10)) (fun _ _ => rfl)) pa_nil)) rfl)
      (pss_cons (ps_asg (pe_ifExp (pt_cmpR (show OpR _ _ (rEqD K) from op_eqD hu64) (pv 8) pe_str (nomark _)) (pe_tup (pa_cons (pv 11) (pa_cons (pv 12) pa_nil))) (pe_tup (pa_cons (pv 12) (pa_cons (pv 11) pa_nil)))) (show PG _ _ (gTup K 2 _) from pg_tup rfl (pgs_cons (pg_name (i := 11) sc__law_forms.nd rfl (Or.inl rfl)) (pgs_cons (pg_name (i := 12) sc__law_forms.nd rfl (Or.inl rfl)) pgs_nil))))
      (pss_one (ps_asg (pe_callTy (show CallR _ _ (rTupX K) from call_tuple_of) (by rfl) T.tuple (by decide +kernel) (pa_cons (pe_lc (own := [("_law_one", 15), ("_law_up", 16), ("_law_down", 17)]) rfl sc__law_forms.nd (show PI _ _ _ (iZip3 K _) from pi_zip3 (by rfl) T.zip (pa_cons (pe_ix (show IxR _ (rIx K) from ix_seq) (pv 5) (pv 9) (fun _ _ => rfl)) (pa_cons (pv 11) (pa_cons (pv 12) pa_nil)))) (blkOk_by (own := [("_law_one", 15), ("_law_up", 16), ("_law_down", 17)]) (N := N__law_forms) (sc := defScope s__law_forms) (by decide +kernel)) (fun _ _ _ _ _ => (show PG _ _ (gTup K 3 _) from pg_tup rfl (pgs_cons (pg_name (i := 15) sc__law_forms.nd rfl (Or.inl rfl)) (pgs_cons (pg_name (i := 16) sc__law_forms.nd rfl (Or.inl rfl)) (pgs_cons (pg_name (i := 17) sc__law_forms.nd rfl (Or.inl rfl)) pgs_nil))))) (fun _ _ _ _ _ => pts_nil) (fun _ _ _ _ _ => (pe_op op_mod (pe_callTy call_int1 (by rfl) T.int (by decide +kernel) (pa_cons (pe_op op_sub (pe_op (show OpR _ _ (rAddX K) from op_addX) (pv 15) (pv 16)) (pv 17)) pa_nil)) (pv 0)))) pa_nil)) (pg_sub (pv 5) (pv 9) set_list))))) (pss_one (ps_if (PW.pt (pw_and (pt_cmpR (show OpR _ _ (rEqD K) from op_eqD hu64) (pv 8) pe_str (nomark _)) (pw_and1 (pt_cmpR op_gt (pv 10) pe_int (nomark _))))) (pss_cons (ps_expr (pe_bm PySem.F.plainAttrs_list PySem.F.slot_list_append PySem.F.type_list_append mt_append (pv 7) (pa_cons (pe_callTy (show CallR _ _ (rTupX K) from call_tuple_of) (by rfl) T.tuple (by decide +kernel) (pa_cons (pe_lc (own := [("_law_one", 15), ("_law_other", 18)]) rfl sc__law_forms.nd (show PI _ _ _ (iZip2 K _) from pi_zip2 (by rfl) T.zip (pa_cons (pe_ix (show IxR _ (rIx K) from ix_seq) (pv 5) (pe_op op_sub (pv 9) pe_int) (fun _ _ => rfl)) (pa_cons (pe_ix (show IxR _ (rIx K) from ix_seq) (pv 5) (pe_op (show OpR _ _ (rAddX K) from op_addX) (pv 9) pe_int) (fun _ _ => rfl)) pa_nil))) (blkOk_by (own := [("_law_one", 15), ("_law_other", 18)]) (N := N__law_forms) (sc := defScope s__law_forms) (by decide +kernel)) (fun _ _ _ _ _ => (show PG _ _ (gTup K 2 _) from pg_tup rfl (pgs_cons (pg_name (i := 15) sc__law_forms.nd rfl (Or.inl rfl)) (pgs_cons (pg_name (i := 18) sc__law_forms.nd rfl (Or.inl rfl)) pgs_nil)))) (fun _ _ _ _ _ => pts_nil) (fun _ _ _ _ _ => (pe_op op_mod (pe_callTy call_int1 (by rfl) T.int (by decide +kernel) (pa_cons (pe_op op_sub (pv 15) (pv 18)) pa_nil)) (pv 0)))) pa_nil)) pa_nil)))
      (pss_one (ps_set (i := 5) sc__law_forms.nd rfl (Or.inl rfl) (pe_op (show OpR _ _ (rAddX K) from op_addX) (pe_slice (show SlR _ (rSlX K) from sl_X) (pv 5) po_none (po_some (pv 9))) (pe_slice (show SlR _ (rSlX K) from sl_X) (pv 5) (po_some (pe_op (show OpR _ _ (rAddX K) from op_addX) (pv 9) pe_int)) po_none))))) (pss_one (ps_if (pt_cmpR (show OpR _ _ (rEqD K) from op_eqD hu64) (pv 8) pe_str (nomark _)) (pss_one (ps_set (i := 5) sc__law_forms.nd rfl (Or.inl rfl) (pe_slice (show SlR _ (rSlX K) from sl_X) (pv 5) po_none (po_some pe_int)))) (pss_one (ps_if (pt_cmpR (show OpR _ _ (rEqD K) from op_eqD hu64) (pv 8) pe_str (nomark _)) (pss_cons (ps_set (i := 5) sc__law_forms.nd rfl (Or.inl rfl) (pe_op (show OpR _ _ (rAddX K) from op_addX) (pe_op (show OpR _ _ (rAddX K) from op_addX) (pe_slice (show SlR _ (rSlX K) from sl_X) (pv 5) po_none (po_some (pe_op (show OpR _ _ (rAddX K) from op_addX) (pv 9) pe_int))) (pe_lst (pa_cons (pe_ix (show IxR _ (rIx K) from ix_seq) (pv 4) (pv 6) (fun _ _ => rfl)) pa_nil))) (pe_ifExp (pt_cmpR op_gt (pv 10) pe_int (nomark _)) (pe_slice (show SlR _ (rSlX K) from sl_X) (pv 5) (po_some (pv 9)) po_none) (pe_lst pa_nil))))
      (pss_one (ps_set (i := 6) sc__law_forms.nd rfl (Or.inl rfl) (pe_op (show OpR _ _ (rAddX K) from op_addX) (pv 6) pe_int)))) (pss_one (ps_set (i := 5) sc__law_forms.nd rfl (Or.inl rfl) (pe_op (show OpR _ _ (rAddX K) from op_addX) (pe_slice (show SlR _ (rSlX K) from sl_X) (pv 5) (po_some (pv 9)) po_none) (pe_slice (show SlR _ (rSlX K) from sl_X) (pv 5) po_none (po_some (pv 9))))))))))))))))
      (pss_one (ps_ret (pe_tup (pa_cons (pv 3) (pa_cons (pv 7) (pa_cons (pv 5) pa_nil)))))))))), ?_⟩
  refine body_p (K := K) (N := N__law_forms) (P := P__law_forms) (fun ds d hp => ?_) vs H Q E h
  obtain ⟨p, n, xs, hp, hn2, hn, hxl, hv, rfl, rfl⟩ := hp
  have ppos := hp.pos
  have p1 : 1 < p := by rcases hp with rfl | rfl | rfl <;> decide
  have ho : opens xs ≤ 60 := Nat.le_trans (List.length_filter_le _ _) hxl
  have hm : manyOf n xs ≤ 80 := by unfold manyOf; omega
  have hmax : (if (n : Int) > 1 then (n : Int) else 1) = (n : Int) := if_pos (by omega)
  refine ⟨Nat.le_add_left 3 16, q_asg (d := .int (manyOf n xs)) (evp_is (evp_add (evp_is (evp_max (eva_cons evp_int (eva_cons (evp_var rfl) eva_nil))) (congrArg PyData.int hmax)) (evp_lenS (evs_new (evn_lc xs deedD Deed.isOpn (fun _ => .int 1) (evw_L (evp_var rfl)) (by omega) fun x hx => ⟨_, gt_tup (gts_cons (gt_name (by simp)) (gts_cons (gt_name (by simp)) gts_nil)), evt_is (evt_test (evp_eq (evp_var rfl) evp_str (shaped_word x) shaped_w3)) (word_open x), fun _ => evp_int⟩)))) ?_) ?_⟩
  · rw [List.length_map]
    show PyData.int ((n : Int) + ((opens xs : Nat) : Int)) = _
    rw [← Int.natCast_add]
    rfl
  obtain ⟨m, hmm⟩ : ∃ m, m = manyOf n xs := ⟨_, rfl⟩
  have hf : formsOf p n xs = xs.foldl (form1 p m) { ring := (List.range n).map (unitRow m), fresh := n, zero := [] } := by rw [hmm]; rfl
  rw [← hmm] at hm hv ⊢
  rw [hf]
  clear hf
  have hnm : n ≤ m := by rw [hmm]; unfold manyOf; omega
  clear hmm
  refine q_asg (d := .list ((List.range m).map fun i => rowD (unitRow m i))) (evp_of_new (evn_lcy (List.range m) (fun (i : Nat) => PyData.int (i : Int)) (fun i => rowD (unitRow m i)) (evw_rn (eva_cons (evp_var rfl) eva_nil) (by omega)) (by rw [List.length_range]; omega) fun x hx => ⟨_, gt_name (by simp), evp_tupS (evs_is (evs_new (evn_lcy (List.range m) (fun (i : Nat) => PyData.int (i : Int)) (fun i => .int (if i = x then 1 else 0)) (evw_rn (eva_cons (evp_var rfl) eva_nil) (by omega)) (by rw [List.length_range]; omega) fun y hy => ⟨_, gt_name (by simp), evp_is (evp_intB (evp_eq (evp_var rfl) (evp_var rfl) rfl rfl)) ?_⟩)) (by unfold unitRow; rw [List.map_map]; rfl))⟩)) ?_
  · rw [eqv_int]
    congr 1
    by_cases e : y = x
    · simp [e]
    · have : ¬ (y : Int) = (x : Int) := by omega
      simp [e, this]
  have hunits : ((List.range m).map fun i => rowD (unitRow m i)) = ((List.range m).map (unitRow m)).map rowD := by
    rw [List.map_map]
    rfl
  rw [hunits]
  refine q_par3X (Ξ := fun s1 s2 s3 M' => s1 = .l 0 ∧ s2 = .d (.int n) ∧ s3 = .l 1 ∧ M' = [.lst (((List.range n).map (unitRow m)).map rowD), .lst []]) (evA_cons (Ψ := fun s M' => s = .l 0 ∧ M' = [.lst (((List.range n).map (unitRow m)).map rowD)]) (ev_n (evn_is (evn_slS (evs_of (evp_var rfl)) evo_none (evo_some (evp_is (evp_max (eva_cons evp_int (eva_cons (evp_var rfl) eva_nil))) (congrArg PyData.int hmax)))) ?_) ⟨rfl, rfl⟩) fun s M' ⟨e1, e2⟩ => ?_) fun s1 s2 s3 M' ⟨e1, e2, e3, e4⟩ => ?_
  · rw [cutD_map, cut_to, ← List.map_take, List.take_range, Nat.min_eq_left hnm]
  · subst e1 e2
    refine evA_cons (Ψ := fun s M' => s = .d (.int n) ∧ M' = [.lst (((List.range n).map (unitRow m)).map rowD)]) (ev_p (evp_is (evp_max (eva_cons evp_int (eva_cons (evp_var rfl) eva_nil))) (congrArg PyData.int hmax)) ⟨rfl, rfl⟩) fun s M' ⟨e1, e2⟩ => ?_
    subst e1 e2
    exact evA_cons (Ψ := fun s M' => s = .l 1 ∧ M' = [.lst (((List.range n).map (unitRow m)).map rowD), .lst []]) (ev_n (evn_lst eva_nil (Nat.zero_le _)) ⟨rfl, rfl⟩) fun s M' ⟨e1, e2⟩ => evA_nil ⟨_, _, _, rfl, rfl, rfl, e1, e2⟩
  subst e1 e2 e3 e4
  refine sx_swap rfl rfl ?_
  have F0 : FOk p m n n { ring := (List.range n).map (unitRow m), fresh := n, zero := [] } := ⟨by simp, rfl, fun r hr => by
    obtain ⟨i, _, rfl⟩ := List.mem_map.mp hr
    exact unitRow_ok p1, fun r hr => absurd hr List.not_mem_nil⟩
  generalize hF0 : ({ ring := (List.range n).map (unitRow m), fresh := n, zero := [] } : Form) = f0 at F0
  have e0r : f0.ring = (List.range n).map (unitRow m) := by rw [← hF0]
  have e0z : f0.zero = [] := by rw [← hF0]
  rw [← e0r]
  clear e0r hF0
  refine q_for (ds := xs.map deedD) (fun i es M => ∃ f s8 s9 s10 s11 s12 s13 s14 s15 s16 s17 s18, f = (xs.take i).foldl (form1 p m) f0 ∧ f.zero.length ≤ i ∧ es = [.d (.int p), .d (.int n), .d (.list (xs.map deedD)), .d (.int m), .d (.list (((List.range m).map (unitRow m)).map rowD)), .l 1, .d (.int f.fresh), .l 0, s8, s9, s10, s11, s12, s13, s14, s15, s16, s17, s18] ∧ M = [.lst (f.zero.map rowD), .lst (f.ring.map rowD)]) (evw_L (evp_var rfl)) ⟨f0, _, _, _, _, _, _, _, _, _, _, _, rfl, by rw [e0z]; exact Nat.le_refl 0, by rw [F0.fr]; rfl, by rw [e0z]; rfl⟩ ?_ ?_
  · rintro i d es1 M1 hi ⟨f, s8, s9, s10, s11, s12, s13, s14, s15, s16, s17, s18, hf, hzl, rfl, rfl⟩
    rw [List.getElem?_map] at hi
    cases hq : xs[i]? with
    | none => rw [hq] at hi; cases hi
    | some x =>
      rw [hq] at hi
      have hi : deedD x = d := Option.some.inj hi
      subst hi
      obtain ⟨h1, h2⟩ := List.getElem?_eq_some_iff.mp hq
      have hd : xs.drop i = x :: xs.drop (i + 1) := by rw [List.drop_eq_getElem_cons h1, h2]
      have hts : (xs.take (i + 1)).foldl (form1 p m) f0 = form1 p m f x := by
        rw [List.take_succ_eq_append_getElem h1, List.foldl_append, h2, hf]
        rfl
      obtain ⟨n', fr', hn', hv', F⟩ := Vd.drop p p1 hv F0 i
      rw [← hf] at F
      rw [hd] at hv'
      have hz' := zero_len p m f x
      have hn2' := hv'.two
      have hlen := F.len
      have hpos : 0 < f.ring.length := by omega
      have hbig : f.ring.length ≤ 1000 := by omega
      refine ⟨_, [8, 9], gt_tup (gts_cons (gt_name (by simp)) (gts_cons (gt_name (by simp)) gts_nil)), q_asg (d := .int f.ring.length) (evp_is (evp_lenS (evs_var rfl rfl)) (by rw [List.length_map])) ?_⟩
      refine s_if (b := x.isOver || x.isUnder) (evt_or (evt_is (evt_test (evp_eq (evp_var rfl) evp_str (shaped_word x) shaped_w0)) (word_over x)) fun _ => evt_is (evt_test (evp_eq (evp_var rfl) evp_str (shaped_word x) shaped_w1)) (word_under x)) (fun h => ?_) fun h => s_if (b := x.isJoin && decide (2 < f.ring.length)) (evt_and (evt_is (evt_test (evp_eq (evp_var rfl) evp_str (shaped_word x) shaped_w2)) (word_join x)) fun _ => evt_is (evt_test (evp_I0b (evp_var rfl) evp_int)) ?_) (fun h3 => ?_) fun h3 => s_if (b := x.isJoin) (evt_is (evt_test (evp_eq (evp_var rfl) evp_str (shaped_word x) shaped_w2)) (word_join x)) (fun h4 => ?_) fun h4 => s_if (b := x.isOpn) (evt_is (evt_test (evp_eq (evp_var rfl) evp_str (shaped_word x) shaped_w3)) (word_open x)) (fun h5 => ?_) fun h5 => ?_
      · -- over, under
        obtain ⟨b, g, rfl⟩ : ∃ b g, x = .cross b g := by
          cases x with
          | cross b g => exact ⟨b, g, rfl⟩
          | join g => cases h
          | opn g => cases h
          | turn g => cases h
        have hg : g < f.ring.length := by rw [hlen]; exact hv'.2.1
        have r1 := F.ring _ (cyR_mem (i := g + f.ring.length - 1) hpos)
        have r2 := F.ring _ (cyR_mem (i := g + 1) hpos)
        have r3 := F.ring _ (getD_mem (i := g) hg)
        refine q_par (by decide) (eva_cons (evp_ixS (d := rowD (cyR f.ring (g + f.ring.length - 1))) (evs_var rfl rfl) (evp_I0i (evp_var rfl) evp_int) (by rw [List.length_map]; exact ixN_back hg) (cyR_get hpos)) (eva_cons (evp_ixS (d := rowD (cyR f.ring (g + 1))) (evs_var rfl rfl) (evp_Ii (evp_intI (evp_add (evp_var rfl) evp_int)) (evp_var rfl) (by omega)) (by rw [List.length_map]; exact ixN_fwd hpos) (cyR_get hpos)) eva_nil)) ?_
        refine q_asgT (d := .tuple [rowD (if b then cyR f.ring (g + f.ring.length - 1) else cyR f.ring (g + 1)), rowD (if b then cyR f.ring (g + 1) else cyR f.ring (g + f.ring.length - 1))]) (evp_if (b := b) (evt_is (evt_test (evp_eq (evp_var rfl) evp_str (shaped_word (.cross b g)) shaped_w0)) ((word_over (.cross b g)).trans (by cases b <;> rfl))) (fun hb => by subst hb; exact evp_tup (eva_cons (evp_var rfl) (eva_cons (evp_var rfl) eva_nil)) (by show 2 ≤ 1000000; omega)) fun hb => by subst hb; exact evp_tup (eva_cons (evp_var rfl) (eva_cons (evp_var rfl) eva_nil)) (by show 2 ≤ 1000000; omega)) (vs := [11, 12]) (gt_tup (gts_cons (gt_name (by simp)) (gts_cons (gt_name (by simp)) gts_nil))) ?_
        have hu : (if b then cyR f.ring (g + f.ring.length - 1) else cyR f.ring (g + 1)).length = m := by cases b; exact r2.1; exact r1.1
        have hd2 : (if b then cyR f.ring (g + 1) else cyR f.ring (g + f.ring.length - 1)).length = m := by cases b; exact r1.1; exact r2.1
        refine s_sub (d := rowD (crossRow p (f.ring.getD g []) (if b then cyR f.ring (g + f.ring.length - 1) else cyR f.ring (g + 1)) (if b then cyR f.ring (g + 1) else cyR f.ring (g + f.ring.length - 1)))) (evp_tupS (evs_is (evs_new (evn_lcy ((f.ring.getD g []).zip ((if b then cyR f.ring (g + f.ring.length - 1) else cyR f.ring (g + 1)).zip (if b then cyR f.ring (g + 1) else cyR f.ring (g + f.ring.length - 1)))) (fun q => PyData.tuple [.int q.1, .int q.2.1, .int q.2.2]) (fun q => .int ((q.1 + q.2.1 - q.2.2) % (p : Int))) (evw_is (evw_zip3 (eva_cons (evp_ixS (d := rowD (f.ring.getD g [])) (evs_var rfl rfl) (evp_var rfl) (by rw [List.length_map]; exact ixN_nat hg) (rows_get hg)) (eva_cons (evp_var rfl) (eva_cons (evp_var rfl) eva_nil)))) (zipD3_ints _ _ _)) (by rw [List.length_zip, r3.1]; omega) fun q hq => ⟨_, gt_tup (gts_cons (gt_name (by simp)) (gts_cons (gt_name (by simp)) (gts_cons (gt_name (by simp)) gts_nil))), evp_Ii (evp_intI (evp_I0i (evp_add (evp_var rfl) (evp_var rfl)) (evp_var rfl))) (evp_var rfl) (by omega)⟩)) (by unfold crossRow; rw [List.map_map]; rfl))) rfl rfl (evp_var rfl) (by rw [List.length_map]; exact ixN_nat hg) ⟨_, Wk.refl _, form1 p m f (.cross b g), _, _, _, _, _, _, _, _, _, _, _, hts.symm, by omega, rfl, ?_⟩
        show [_, MO.lst ((f.ring.map rowD).set g _)] = [_, MO.lst ((f.ring.set g _).map rowD)]
        rw [List.map_set]
        rfl
      · rw [decide_eq_decide]
        omega
      · -- join
        obtain ⟨g, rfl⟩ : ∃ g, x = .join g := by
          cases x with
          | cross b g => cases h3
          | join g => exact ⟨g, rfl⟩
          | opn g => cases h3
          | turn g => cases h3
        have hl2 : 2 < f.ring.length := by simpa [Deed.isJoin] using h3
        have hg := hv'.2.1 (by omega)
        have hg1 : g + 1 < f.ring.length := by omega
        have r1 := F.ring _ (cyR_mem (i := g + f.ring.length - 1) hpos)
        have r2 := F.ring _ (getD_mem (i := g + 1) hg1)
        have hfm : form1 p m f (.join g) = { f with ring := f.ring.take g ++ f.ring.drop (g + 2), zero := f.zero ++ [subR p (cyR f.ring (g + f.ring.length - 1)) (f.ring.getD (g + 1) [])] } := if_pos hl2
        refine q_app (d := rowD (subR p (cyR f.ring (g + f.ring.length - 1)) (f.ring.getD (g + 1) []))) (evp_tupS (evs_is (evs_new (evn_lcy ((cyR f.ring (g + f.ring.length - 1)).zip (f.ring.getD (g + 1) [])) pairD (fun q => .int ((q.1 - q.2) % (p : Int))) (evw_is (evw_zip2 true true (eva_cons (evp_ixS (d := rowD (cyR f.ring (g + f.ring.length - 1))) (evs_var rfl rfl) (evp_I0i (evp_var rfl) evp_int) (by rw [List.length_map]; exact ixN_back (by show g < f.ring.length; omega)) (cyR_get hpos)) (eva_cons (evp_ixS (d := rowD (f.ring.getD (g + 1) [])) (evs_var rfl rfl) (evp_add (evp_var rfl) evp_int) (by rw [List.length_map]; exact ixN_nat hg1) (rows_get hg1)) eva_nil))) (zipD_ints _ _)) (by rw [List.length_zip, r1.1]; omega) fun q hq => ⟨_, gt_tup (gts_cons (gt_name (by simp)) (gts_cons (gt_name (by simp)) gts_nil)), evp_Ii (evp_intI (evp_I0i (evp_var rfl) (evp_var rfl))) (evp_var rfl) (by omega)⟩)) (by unfold subR; rw [List.map_map]; rfl))) rfl rfl (by rw [List.length_map]; omega) ?_
        refine sx_frz (M := [_]) (Nat.zero_le _) rfl (s_asgN (m := .lst ((f.ring.take g ++ f.ring.drop (g + 2)).map rowD)) (evn_is (evn_cat (evs_new (evn_slS (evs_of (evp_var rfl)) evo_none (evo_some (evp_var rfl)))) (evs_new (evn_slS (evs_of (evp_var rfl)) (evo_some (evp_add (evp_var rfl) evp_int)) evo_none)) ?_) ?_) ⟨_, Wk.refl _, form1 p m f (.join g), _, _, _, _, _, _, _, _, _, _, _, hts.symm, by omega, by rw [hfm]; rfl, ?_⟩)
        · have a1 := cutD_len (f.ring.map rowD) none (some (g : Int))
          have a2 := cutD_len (f.ring.map rowD) (some ((g : Int) + 2)) none
          rw [List.length_map] at a1 a2
          show _ + _ ≤ 1000000
          have : (cutD (f.ring.map rowD) none (some ((Deed.join g).gap : Int))).length ≤ f.ring.length := a1
          have : (cutD (f.ring.map rowD) (some (((Deed.join g).gap : Int) + 2)) none).length ≤ f.ring.length := a2
          omega
        · show MO.lst (cutD (f.ring.map rowD) none (some (g : Int)) ++ cutD (f.ring.map rowD) (some ((g : Int) + 2)) none) = _
          rw [cut_to, show ((g : Int) + 2) = ((g + 2 : Nat) : Int) by omega, cut_from, List.map_append, List.map_take, List.map_drop]
        · rw [hfm]
          show [MO.lst (f.zero.map rowD ++ [_]), _] = [MO.lst ((f.zero ++ [_]).map rowD), _]
          simp only [List.map_append]
          rfl
      · -- the last join
        obtain ⟨g, rfl⟩ : ∃ g, x = .join g := by
          cases x with
          | cross b g => cases h4
          | join g => exact ⟨g, rfl⟩
          | opn g => cases h4
          | turn g => cases h4
        have hl2 : ¬ 2 < f.ring.length := by simpa [Deed.isJoin] using h3
        have hfm : form1 p m f (.join g) = { f with ring := f.ring.take 1 } := if_neg hl2
        refine sx_frz (M := [_]) (Nat.zero_le _) rfl (s_asgN (m := .lst ((f.ring.take 1).map rowD)) (evn_is (evn_slS (evs_of (evp_var rfl)) evo_none (evo_some evp_int)) ?_) ⟨_, Wk.refl _, form1 p m f (.join g), _, _, _, _, _, _, _, _, _, _, _, hts.symm, by omega, by rw [hfm]; rfl, by rw [hfm]; rfl⟩)
        have := cut_to (f.ring.map rowD) 1
        rw [List.map_take, ← this]
        rfl
      · -- open
        obtain ⟨g, rfl⟩ : ∃ g, x = .opn g := by
          cases x with
          | cross b g => cases h5
          | join g => cases h5
          | opn g => exact ⟨g, rfl⟩
          | turn g => cases h5
        have hfr : f.fresh < m := by rw [F.fr]; exact hv'.2.2.1
        have hu : (((List.range m).map (unitRow m)).map rowD)[f.fresh]? = some (rowD (unitRow m f.fresh)) := by
          rw [List.getElem?_map, List.getElem?_map, List.getElem?_range hfr]
          rfl
        refine sx_frz (M := [_]) (Nat.zero_le _) rfl (q_asgN (m := .lst ((f.ring.take (g + 1) ++ [unitRow m f.fresh] ++ (if 1 < f.ring.length then f.ring.drop g else [])).map rowD)) (evn_is (evn_cat (evs_new (evn_cat (evs_new (evn_slS (evs_of (evp_var rfl)) evo_none (evo_some (evp_add (evp_var rfl) evp_int)))) (evs_new (evn_lst (eva_cons (evp_ixS (evs_of (evp_var rfl)) (evp_var rfl) (by rw [List.length_map, List.length_map, List.length_range]; exact ixN_nat hfr) hu) eva_nil) (by show 1 ≤ 1000000; omega))) ?_)) (evs_new (evn_if (b := decide (1 < f.ring.length)) (m := .lst ((if 1 < f.ring.length then f.ring.drop g else []).map rowD)) (evt_is (evt_test (evp_I0b (evp_var rfl) evp_int)) ?_) (fun hb => evn_is (evn_slS (evs_of (evp_var rfl)) (evo_some (evp_var rfl)) evo_none) ?_) fun hb => evn_is (evn_lst eva_nil (Nat.zero_le _)) ?_)) ?_) ?_) ?_)
        · have a1 := cutD_len (f.ring.map rowD) none (some (((Deed.opn g).gap : Int) + 1))
          rw [List.length_map] at a1
          show _ + 1 ≤ 1000000
          omega
        · rw [decide_eq_decide]
          omega
        · rw [if_pos (of_decide_eq_true hb), List.map_drop]
          exact congrArg MO.lst (cut_from _ _)
        · rw [if_neg (of_decide_eq_false hb)]
          rfl
        · have a1 := cutD_len (f.ring.map rowD) none (some (((Deed.opn g).gap : Int) + 1))
          rw [List.length_map] at a1
          rw [List.length_append, List.length_map]
          show _ + 1 + _ ≤ 1000000
          have : (if 1 < f.ring.length then f.ring.drop g else []).length ≤ f.ring.length := by
            split
            · rw [List.length_drop]
              omega
            · exact Nat.zero_le _
          omega
        · show MO.lst (cutD (f.ring.map rowD) none (some ((g : Int) + 1)) ++ [rowD (unitRow m f.fresh)] ++ _) = _
          rw [show ((g : Int) + 1) = ((g + 1 : Nat) : Int) by omega, cut_to, List.map_append, List.map_append, List.map_take]
          rfl
        · exact s_asg (evp_add (evp_var rfl) evp_int) ⟨_, Wk.refl _, form1 p m f (.opn g), _, _, _, _, _, _, _, _, _, _, _, hts.symm, by omega, rfl, rfl⟩
      · -- turn
        obtain ⟨g, rfl⟩ : ∃ g, x = .turn g := by
          cases x with
          | cross b g => cases b <;> cases h
          | join g => cases h4
          | opn g => cases h5
          | turn g => exact ⟨g, rfl⟩
        refine sx_frz (M := [_]) (Nat.zero_le _) rfl (s_asgN (m := .lst ((f.ring.drop g ++ f.ring.take g).map rowD)) (evn_is (evn_cat (evs_new (evn_slS (evs_of (evp_var rfl)) (evo_some (evp_var rfl)) evo_none)) (evs_new (evn_slS (evs_of (evp_var rfl)) evo_none (evo_some (evp_var rfl)))) ?_) ?_) ⟨_, Wk.refl _, form1 p m f (.turn g), _, _, _, _, _, _, _, _, _, _, _, hts.symm, by omega, rfl, rfl⟩)
        · have a1 := cutD_len (f.ring.map rowD) (some ((Deed.turn g).gap : Int)) none
          have a2 := cutD_len (f.ring.map rowD) none (some ((Deed.turn g).gap : Int))
          rw [List.length_map] at a1 a2
          show _ + _ ≤ 1000000
          omega
        · show MO.lst (cutD (f.ring.map rowD) (some (g : Int)) none ++ cutD (f.ring.map rowD) none (some (g : Int))) = _
          rw [cut_to, cut_from, List.map_append, List.map_take, List.map_drop]
  · rintro es1 M1 ⟨f, s8, s9, s10, s11, s12, s13, s14, s15, s16, s17, s18, hf, hzl, rfl, rfl⟩
    rw [List.length_map, List.take_length] at hf
    rw [← hf]
    refine sx_frz (M := [_]) (Nat.zero_le _) rfl (sx_frz (M := []) (Nat.zero_le _) rfl (s_ret (evp_tup (eva_cons (evp_var rfl) (eva_cons (evp_var rfl) (eva_cons (evp_var rfl) eva_nil))) (by show 3 ≤ 1000000; omega)) rfl))
end
end Q
end
section
set_option Elab.async false
set_option linter.all false
set_option maxRecDepth 100000
set_option maxHeartbeats 4000000
/-! Wj: deeds drawn. -/
namespace Q
open PySem PySem.Spec PyProof.Rows L2
theorem Dw.trans {A B C : List MO} {k i j : Nat} (h1 : Dw A B k i) (h2 : Dw B C k j) : Dw A C k (i + j) := by
  obtain ⟨⟨m1, e1⟩, f1⟩ := h1
  obtain ⟨⟨m2, e2⟩, f2⟩ := h2
  refine ⟨⟨m2, by rw [e2, e1, List.set_set]⟩, fun t ht hd => ?_⟩
  have := f2 (t + i) (by omega) (f1 t (by omega) hd)
  rwa [Nat.add_assoc] at this
theorem Dw.app {A B M' : List MO} {k j : Nat} (h : Dw (A ++ B) M' k j) (hk : k < A.length) : ∃ m, M' = A.set k (.lst m) ++ B := by
  obtain ⟨⟨m, e⟩, _⟩ := h
  exact ⟨m, by rw [e, List.set_append_left _ _ hk]⟩
theorem Dr.lt {M : List MO} {k t : Nat} (h : Dr M k t) : k < M.length := by
  obtain ⟨c, a, b, h1, _⟩ := h
  exact (List.getElem?_eq_some_iff.mp h1).1
section
variable {K : PySem.W.Frag} {es : List Sl} {M : List MO} {Φ : Sl → List MO → Prop} {te tb : TE} {E : XK} {i k t many : Nat}
theorem ev_man (hx : es[i]? = some (.l k)) (hd : Dr M k t) (ht : t ≤ 50000) (h1 : 1 ≤ many) (h2 : many ≤ 1000) (he : EvP K te es M (.int many)) (kk : ∀ v M', v < many → Dw M M' k 1 → Φ (.d (.int v)) M') :
    Ev K (tCall (spM K Pre__law_man Post__law_man) [] E (tCons (tVar i) (tCons te tNil))) es M Φ := by
  refine ev_callAll (evA_cons (Ψ := fun s M' => s = .l k ∧ M' = M) (ev_var hx (by simp) ⟨rfl, rfl⟩) fun s M' ⟨e1, e2⟩ => ?_)
  rw [e1, e2]
  refine evA_cons (Ψ := fun s M' => s = .d (.int many) ∧ M' = M) (ev_p he ⟨rfl, rfl⟩) fun s M' ⟨e1, e2⟩ => evA_nil ?_
  rw [e1, e2]
  refine ⟨⟨k, many, t, rfl, h1, h2, hd, ht⟩, fun s M' ⟨k', many', v, e3, hv, e4, hw⟩ => ?_⟩
  simp only [List.cons.injEq, Sl.l.injEq, Sl.d.injEq, PyData.int.injEq, and_true] at e3
  obtain ⟨e3, e5⟩ := e3
  have e5 : many = many' := by omega
  subst e3 e5
  rw [e4]
  exact kk v M' hv hw
theorem ev_pick {ds : List PyData} (hx : es[i]? = some (.l k)) (hd : Dr M k t) (ht : t ≤ 50000) (h1 : 1 ≤ ds.length) (h2 : ds.length ≤ 1000) (he : EvP K te es M (.list ds)) (kk : ∀ d M', d ∈ ds → Dw M M' k 1 → Φ (.d d) M') :
    Ev K (tCall (spM K Pre__law_pick Post__law_pick) [] E (tCons (tVar i) (tCons te tNil))) es M Φ := by
  refine ev_callAll (evA_cons (Ψ := fun s M' => s = .l k ∧ M' = M) (ev_var hx (by simp) ⟨rfl, rfl⟩) fun s M' ⟨e1, e2⟩ => ?_)
  rw [e1, e2]
  refine evA_cons (Ψ := fun s M' => s = .d (.list ds) ∧ M' = M) (ev_p he ⟨rfl, rfl⟩) fun s M' ⟨e1, e2⟩ => evA_nil ?_
  rw [e1, e2]
  refine ⟨⟨k, t, ds, rfl, h1, h2, hd, ht⟩, fun s M' ⟨k', ds', d, e3, hv, e4, hw⟩ => ?_⟩
  simp only [List.cons.injEq, Sl.l.injEq, Sl.d.injEq, PyData.list.injEq, and_true] at e3
  obtain ⟨e3, e5⟩ := e3
  subst e3 e5
  rw [e4]
  exact kk d M' hv hw
/-- two data, the one made after the other -/
theorem ev_tup2 {ta : TE} (h1 : Ev K ta es M fun s M' => ∃ d, s = .d d ∧ Ev K tb es M' fun s M'' => ∃ d', s = .d d' ∧ Φ (.d (.tuple [d, d'])) M'') : Ev K (tTup (tCons ta (tCons tb tNil))) es M Φ :=
  ev_tup (evA_cons h1 fun s M' ⟨d, e, h⟩ => evA_cons h fun s' M'' ⟨d', e', p⟩ => evA_nil ⟨[d, d'], by rw [e, e']; rfl, by show 2 ≤ 1000000; omega, p⟩)
theorem ev_addE {z : Int} {ta : TE} (ha : EvP K ta es M (.int z)) (hb : Ev K tb es M fun s M' => ∃ y : Int, s = .d (.int y) ∧ Φ (.d (.int (z + y))) M') : Ev K (tOp (rAddX K) ta tb) es M Φ := fun G H as σ R S Q q =>
  ha G H as σ R S _ fun x G1 H1 s1 a1 => hb G1 H1 as σ (R.stepP s1) (S.up0 s1.g) _ fun s M' w G2 H2 as2 ⟨y, e, p⟩ st R2 a2 => by
    subst e
    obtain ⟨w', ew, aw⟩ := a2
    cases ew
    cases aw
    cases a1
    exact .inl (.inl ⟨z, y, rfl, rfl, q _ M' _ G2 H2 as2 p (s1.step.trans st) R2 ⟨_, rfl, .int _⟩⟩)
theorem ev_ifE {tt : TT} {ta : TE} {b : Bool} (h : EvTP K tt es M b) (h1 : b = true → Ev K ta es M Φ) (h2 : b = false → Ev K tb es M Φ) : Ev K (tIf tt ta tb) es M Φ := fun G H as σ R S Q q =>
  h G H as σ R S _ fun G1 H1 s1 => by
    cases b with
    | true => exact iteT (h1 rfl G1 H1 as σ (R.stepP s1) (S.up0 s1.g) Q fun s M' v G' H' as' p st R' a => q s M' v G' H' as' p (s1.step.trans st) R' a)
    | false => exact iteF (h2 rfl G1 H1 as σ (R.stepP s1) (S.up0 s1.g) Q fun s M' v G' H' as' p st R' a => q s M' v G' H' as' p (s1.step.trans st) R' a)
/-- a test that draws -/
theorem evt_eqE {z : Int} {Ψ : Bool → List MO → Prop} (ha : Ev K te es M fun s M' => ∃ y : Int, s = .d (.int y) ∧ EvP K tb es M' (.int z) ∧ Ψ (y == z) M') : EvT K (tTest (tOp (rEqD K) te tb)) es M Ψ := fun G H as σ R S Q q =>
  ha G H as σ R S _ fun s M' w G2 H2 as2 ⟨y, e, hb, p⟩ st R2 a2 => by
    subst e
    obtain ⟨w', ew, aw⟩ := a2
    cases ew
    refine hb G2 H2 as2 σ R2 (S.step st) _ fun v G3 H3 s3 a3 => ?_
    cases aw
    cases a3
    refine ⟨.int y, .int z, .int y, .int z, rfl, rfl, PyData.eqv (.int y) (.int z), rfl, ?_⟩
    rw [eqv_int]
    exact q _ M' _ H3 as2 p (st.trans s3.step) (R2.stepP s3)
end
/-! deeds -/
/-- a deed at so many ends -/
def ok1 (n : Nat) : Deed → Prop
  | .cross _ g => g < n | .join g => 2 < n → 1 ≤ g ∧ g + 1 < n | .opn g => g < n | .turn g => g < n
def nl (n : Nat) : Deed → Nat
  | .cross _ _ => n | .join _ => n - 2 | .opn _ => n + 2 | .turn _ => n
/-- deeds from a ends to b -/
def Lv : Nat → List Deed → Nat → Prop
  | n, [], b => n = b
  | n, x :: xs, b => 2 ≤ n ∧ ok1 n x ∧ Lv (nl n x) xs b
theorem Lv.snoc : ∀ {xs : List Deed} {n b : Nat} {x : Deed}, Lv n xs b → 2 ≤ b → ok1 b x → Lv n (xs ++ [x]) (nl b x)
  | [], n, b, x, h, h2, ho => by
    have : n = b := h
    subst this
    exact ⟨h2, ho, rfl⟩
  | y :: xs, n, b, x, h, h2, ho => ⟨h.1, h.2.1, Lv.snoc h.2.2 h2 ho⟩
theorem opens_cons (x : Deed) (xs : List Deed) : opens (x :: xs) = (if x.isOpn then 1 else 0) + opens xs := by
  unfold opens
  rw [List.filter_cons]
  cases x.isOpn
  · simp
  · rw [if_pos rfl, if_pos rfl, List.length_cons]
    omega
theorem Lv.vd : ∀ {xs : List Deed} {n fr : Nat}, n % 2 = 0 → 2 ≤ n → Lv n xs 0 → Vd (fr + opens xs) n fr xs
  | [], n, fr, _, h2, h => by
    have : n = 0 := h
    omega
  | x :: xs, n, fr, he, h2, h => by
    obtain ⟨_, ho, h⟩ := h
    have hz : ∀ n', Lv n' xs 0 → n' = 0 → xs = [] := fun n' h e => by
      cases xs with
      | nil => rfl
      | cons y ys =>
        have := h.1
        omega
    rw [opens_cons]
    cases x with
    | cross b g => exact ⟨h2, ho, by have := Lv.vd (fr := fr) he h2 h; simpa [Deed.isOpn] using this⟩
    | turn g => exact ⟨h2, Nat.le_of_lt ho, by have := Lv.vd (fr := fr) he h2 h; simpa [Deed.isOpn] using this⟩
    | opn g =>
      refine ⟨h2, ho, by show fr < fr + (1 + opens xs); omega, ?_⟩
      have := Lv.vd (n := n + 2) (fr := fr + 1) (by omega) (by omega) h
      have e : fr + (1 + opens xs) = fr + 1 + opens xs := by omega
      show Vd (fr + (1 + opens xs)) (n + 2) (fr + 1) xs
      rw [e]
      exact this
    | join g =>
      refine ⟨h2, ho, ?_⟩
      show Vd (fr + (0 + opens xs)) (if 2 < n then n - 2 else 1) fr xs
      rw [Nat.zero_add]
      by_cases hn : 2 < n
      · rw [if_pos hn]
        exact Lv.vd (by omega) (by omega) h
      · have e : xs = [] := hz (n - 2) h (by omega)
        subst e
        trivial
def wordsD : PyData := .list [.str "over", .str "under"]
theorem word_pick {d : PyData} (h : d ∈ [PyData.str "over", PyData.str "under"]) : ∃ b, d = .str (Deed.cross b 0).word := by
  rcases List.mem_cons.mp h with e | h
  · exact ⟨true, e⟩
  · exact ⟨false, List.mem_singleton.mp h⟩
section
variable {P : Program} {w : World} {K : PySem.W.Frag} {mg : Str → Option Value} {base : Heap} {aC : Addr} {t1 t2 t3 t4 : Tok}
def Pre__law_deed : List Sl → List MO → Prop := fun ss M => ∃ (k n most t : Nat), ss = [.l k, .d (.int n), .d (.int most)] ∧ 2 ≤ n ∧ n ≤ 20 ∧ Dr M k t ∧ t ≤ 40000
def Post__law_deed : List Sl → List MO → Sl → List MO → Prop := fun ss M s M' => ∃ (k n most : Nat) (x : Deed), ss = [.l k, .d (.int n), .d (.int most)] ∧ ok1 n x ∧ (x.isOpn = true → n < most) ∧ s = .d (.tuple [deedD x, .int (nl n x)]) ∧ Dw M M' k 3
theorem L__law_deed : ∀ ss M, Pre__law_deed ss M → ss.length = 3 := fun ss M ⟨_, _, _, _, h, _⟩ => by rw [h]; rfl
theorem Dw.le {A B : List MO} {k i j : Nat} (h : Dw A B k i) (hij : i ≤ j) : Dw A B k j :=
  ⟨h.1, fun t ht hd => (h.2 t (by omega) hd).mono (by omega)⟩
abbrev s__law_deed : Stmt := topS 52
def N__law_deed : List Str := ["_law_draughts_here", "_law_ends", "_law_most", "_law_way"]
theorem sc__law_deed : FnScope N__law_deed ["_law_draughts_here", "_law_ends", "_law_most"] (defScope s__law_deed) := ⟨rfl, rfl, rfl, by decide +kernel, rfl, by decide +kernel, by decide +kernel⟩
theorem ok__law_deed {f : Addr} {fd : FuncData} (F : Fun K "_law_deed" "_law_deed" s__law_deed f fd) (T : Txt K mg aC t1 t2 t3 t4) (C__law_man : Callee P w K mg base "_law_man" 1 ["_law_draughts_here", "_law_many"] (spM K Pre__law_man Post__law_man)) (C__law_pick : Callee P w K mg base "_law_pick" 2 ["_law_draughts_here", "_law_some"] (spM K Pre__law_pick Post__law_pick)) : FnOk P w K mg base L2.CX0 3 f fd ["_law_draughts_here", "_law_ends", "_law_most"] (spM K Pre__law_deed Post__law_deed) := by
  refine F.ok sc__law_deed (spM_len L__law_deed) (fun cdv A outer s H vs Q E hr h => ?_)
  have hu64 := hr.units
  refine ⟨_, (pss_cons (ps_set (i := 3) sc__law_deed.nd rfl (Or.inl rfl) (pe_callC C__law_man hr (by decide) (by rfl) (pa_cons (pv 0) (pa_cons pe_int pa_nil))))
      (pss_cons (ps_if (pt_cmpR (show OpR _ _ (rEqD K) from op_eqD hu64) (pv 1) pe_int (nomark _)) (pss_one (ps_ret (pe_tup (pa_cons (pe_tup (pa_cons pe_str (pa_cons pe_int pa_nil))) (pa_cons pe_int pa_nil))))) pss_nil)
      (pss_cons (ps_if (pt_cmpR op_lt (pv 3) pe_int (nomark _)) (pss_one (ps_ret (pe_tup (pa_cons (pe_tup (pa_cons (pe_callC C__law_pick hr (by decide) (by rfl) (pa_cons (pv 0) (pa_cons (pe_lst (pa_cons pe_str (pa_cons pe_str pa_nil))) pa_nil))) (pa_cons (pe_callC C__law_man hr (by decide) (by rfl) (pa_cons (pv 0) (pa_cons (pv 1) pa_nil))) pa_nil))) (pa_cons (pv 1) pa_nil))))) pss_nil)
      (pss_cons (ps_if (PW.pt (pw_and (pt_cmpR (show OpR _ _ (rEqD K) from op_eqD hu64) (pv 3) pe_int (nomark _)) (pw_and1 (pt_cmpR op_lt (pv 1) (pv 2) (nomark _))))) (pss_one (ps_ret (pe_tup (pa_cons (pe_tup (pa_cons pe_str (pa_cons (pe_callC C__law_man hr (by decide) (by rfl) (pa_cons (pv 0) (pa_cons (pv 1) pa_nil))) pa_nil))) (pa_cons (pe_op (show OpR _ _ (rAddX K) from op_addX) (pv 1) pe_int) pa_nil))))) pss_nil)
      (pss_cons (ps_if (pt_cmpR (show OpR _ _ (rEqD K) from op_eqD hu64) (pv 3) pe_int (nomark _)) (pss_one (ps_ret (pe_tup (pa_cons (pe_tup (pa_cons pe_str (pa_cons (pe_callC C__law_man hr (by decide) (by rfl) (pa_cons (pv 0) (pa_cons (pv 1) pa_nil))) pa_nil))) (pa_cons (pv 1) pa_nil))))) pss_nil)
      (pss_cons (ps_if (pt_cmpR op_lt (pv 3) pe_int (nomark _)) (pss_one (ps_ret (pe_tup (pa_cons (pe_tup (pa_cons (pe_callC C__law_pick hr (by decide) (by rfl) (pa_cons (pv 0) (pa_cons (pe_lst (pa_cons pe_str (pa_cons pe_str pa_nil))) pa_nil))) (pa_cons (pe_callC C__law_man hr (by decide) (by rfl) (pa_cons (pv 0) (pa_cons pe_int pa_nil))) pa_nil))) (pa_cons (pv 1) pa_nil))))) pss_nil)
      (pss_one (ps_ret (pe_tup (pa_cons (pe_tup (pa_cons pe_str (pa_cons (pe_ifExp (pt_cmpR op_gt (pv 1) pe_int (nomark _)) (pe_op (show OpR _ _ (rAddX K) from op_addX) pe_int (pe_callC C__law_man hr (by decide) (by rfl) (pa_cons (pv 0) (pa_cons (pe_op op_sub (pv 1) pe_int) pa_nil)))) pe_int) pa_nil))) (pa_cons (pe_op op_sub (pv 1) pe_int) pa_nil))))))))))), ?_⟩
  refine body_m (K := K) (N := N__law_deed) (Pre := Pre__law_deed) (Post := Post__law_deed) (fun ss M hp => ?_) vs H Q E h
  obtain ⟨k, n, most, t, rfl, h2, hn, hD, ht⟩ := hp
  refine ⟨Nat.le_succ 3, q_asgX (ev_man rfl hD (by omega) (many := 9) (by decide) (by decide) evp_int fun v M1 hv hw => ⟨v, M1, rfl, rfl, hv, hw⟩) (Ξ := fun s M1 => ∃ v M2, s = .d (.int ((v : Nat) : Int)) ∧ M1 = M2 ∧ v < 9 ∧ Dw M M2 k 1) fun s M1 ⟨v, M2, e1, e2, hv, hw⟩ => ?_⟩
  subst e1 e2
  have hD1 : Dr M1 k (t + 1) := hw.2 t (by omega) hD
  have cross : ∀ (m : Nat), m ≤ n → 1 ≤ m → ∀ te : TE, EvP K te [.l k, .d (.int n), .d (.int most), .d (.int v)] M1 (.int m) → True := fun _ _ _ _ _ => trivial
  refine q_if (evt_is (evt_test (evp_eq (evp_var rfl) evp_int rfl rfl)) (eqv_int _ _)) (fun h => ?_) fun _ => q_next ?_
  · exfalso
    have := eq_of_beq h
    omega
  refine q_if (evt_test (evp_I0b (evp_var rfl) evp_int)) (fun h => ?_) fun _ => q_next ?_
  · refine s_retX (ev_tup2 (ev_tup2 (ev_pick rfl hD1 (by omega) (ds := [.str "over", .str "under"]) (by decide) (by decide) (evp_of_new (evn_lst (eva_cons evp_str (eva_cons evp_str eva_nil)) (by show 2 ≤ 1000000; omega))) fun d M2 hd hw2 => ⟨d, rfl, ev_man rfl (hw2.2 (t + 1) (by omega) hD1) (by omega) (many := n) (by omega) (by omega) (evp_var rfl) fun g M3 hg hw3 => ⟨_, rfl, _, rfl, ev_p (evp_var rfl) ⟨_, rfl, ?_⟩⟩⟩)))
    obtain ⟨b, rfl⟩ := word_pick hd
    exact ⟨k, n, most, .cross b g, rfl, hg, (fun z => by cases z), (by cases b <;> rfl), (hw.trans hw2).trans hw3⟩
  refine q_if (evt_and (evt_is (evt_test (evp_eq (evp_var rfl) evp_int rfl rfl)) (eqv_int _ _)) fun _ => evt_test (evp_I0b (evp_var rfl) (evp_var rfl))) (fun h => ?_) fun _ => q_next ?_
  · refine s_retX (ev_tup2 (ev_tup2 (ev_p evp_str ⟨_, rfl, ev_man rfl hD1 (by omega) (many := n) (by omega) (by omega) (evp_var rfl) fun g M3 hg hw3 => ⟨_, rfl, _, rfl, ev_p (evp_add (evp_var rfl) evp_int) ⟨_, rfl, ?_⟩⟩⟩)))
    exact ⟨k, n, most, .opn g, rfl, hg, (fun _ => by rw [Bool.and_eq_true] at h; have := of_decide_eq_true h.2; omega), rfl, (hw.trans hw3).le (by omega)⟩
  refine q_if (evt_is (evt_test (evp_eq (evp_var rfl) evp_int rfl rfl)) (eqv_int _ _)) (fun h => ?_) fun _ => q_next ?_
  · refine s_retX (ev_tup2 (ev_tup2 (ev_p evp_str ⟨_, rfl, ev_man rfl hD1 (by omega) (many := n) (by omega) (by omega) (evp_var rfl) fun g M3 hg hw3 => ⟨_, rfl, _, rfl, ev_p (evp_var rfl) ⟨_, rfl, ?_⟩⟩⟩)))
    exact ⟨k, n, most, .turn g, rfl, hg, (fun z => by cases z), rfl, (hw.trans hw3).le (by omega)⟩
  refine q_if (evt_test (evp_I0b (evp_var rfl) evp_int)) (fun h => ?_) fun _ => q_next ?_
  · refine s_retX (ev_tup2 (ev_tup2 (ev_pick rfl hD1 (by omega) (ds := [.str "over", .str "under"]) (by decide) (by decide) (evp_of_new (evn_lst (eva_cons evp_str (eva_cons evp_str eva_nil)) (by show 2 ≤ 1000000; omega))) fun d M2 hd hw2 => ⟨d, rfl, ev_man rfl (hw2.2 (t + 1) (by omega) hD1) (by omega) (many := 2) (by decide) (by decide) evp_int fun g M3 hg hw3 => ⟨_, rfl, _, rfl, ev_p (evp_var rfl) ⟨_, rfl, ?_⟩⟩⟩)))
    obtain ⟨b, rfl⟩ := word_pick hd
    exact ⟨k, n, most, .cross b g, rfl, Nat.lt_of_lt_of_le hg h2, (fun z => by cases z), (by cases b <;> rfl), (hw.trans hw2).trans hw3⟩
  have hfin : ∀ (g : Nat) (M3 : List MO), (2 < n → 1 ≤ g ∧ g + 1 < n) → Dw M1 M3 k 1 → Ev K (tOp (rI0 fun i j => .int (i - j)) (tVar 1) (tC (.int 2))) [.l k, .d (.int n), .d (.int most), .d (.int v)] M3 fun s M'' => ∃ d', s = .d d' ∧ Post__law_deed [.l k, .d (.int n), .d (.int most)] M (.d (.tuple [deedD (.join g), d'])) M'' := fun g M3 hg hw3 =>
    ev_p (evp_I0i (evp_var rfl) evp_int) ⟨_, rfl, k, n, most, .join g, rfl, hg, (fun z => by cases z), (by show Sl.d (.tuple [_, .int ((n : Int) - 2)]) = .d (.tuple [_, .int ((n - 2 : Nat) : Int)]); rw [Int.ofNat_sub h2]; rfl), (hw.trans hw3).le (by omega)⟩
  refine s_retX (ev_tup2 (ev_tup2 (ev_p evp_str ⟨_, rfl, ev_ifE (b := decide (2 < n)) (evt_is (evt_test (evp_I0b (evp_var rfl) evp_int)) (by rw [decide_eq_decide]; omega)) (fun hb => ?_) fun hb => ?_⟩)))
  · have hb := of_decide_eq_true hb
    refine ev_addE evp_int (ev_man rfl hD1 (by omega) (many := n - 2) (by omega) (by omega) (evp_is (evp_I0i (evp_var rfl) evp_int) (by rw [Int.ofNat_sub h2]; rfl)) fun g M3 hg hw3 => ⟨g, rfl, _, rfl, _, rfl, ?_⟩)
    have := hfin (1 + g) M3 (fun _ => by omega) hw3
    rw [show ((1 : Int) + (g : Int)) = ((1 + g : Nat) : Int) by omega]
    exact this
  · have hb := of_decide_eq_false hb
    exact ev_p evp_int ⟨_, rfl, _, rfl, hfin 1 M1 (fun z => absurd z hb) ⟨hw.1.elim fun m e => ⟨_, by rw [e, List.set_set]⟩, fun t ht hd => hd.mono (by omega)⟩⟩
end
end Q
end
section
set_option Elab.async false
set_option linter.all false
set_option maxRecDepth 100000
set_option maxHeartbeats 4000000
/-! Wk: the deeds of a tangle. -/
namespace Q
open PySem PySem.Spec PyProof.Rows L2
/-- an own list l behind M, the draughts in M at k -/
def Dq (M M1 : List MO) (k j : Nat) (l : MO) : Prop := (∃ m, M1 = M.set k (.lst m) ++ [l]) ∧ ∀ u, u + j ≤ 60000 → Dr M k u → Dr M1 k (u + j)
theorem Dr.app {M N : List MO} {k t : Nat} (h : Dr M k t) : Dr (M ++ N) k t := by
  obtain ⟨c, a, b, h1, h2⟩ := h
  exact ⟨c, a, b, by rw [List.getElem?_append_left (List.getElem?_eq_some_iff.mp h1).1]; exact h1, h2⟩
theorem Dq.start {M : List MO} {k t : Nat} {l : MO} (h : Dr M k t) : Dq M (M ++ [l]) k 0 l := by
  obtain ⟨c, a, b, h1, _⟩ := h
  refine ⟨⟨[.list (c.map .int), .int a, .int b], ?_⟩, fun u _ hd => hd.app⟩
  obtain ⟨hl, e⟩ := List.getElem?_eq_some_iff.mp h1
  rw [← e, List.set_getElem_self]
theorem Dq.dw {M M1 M2 : List MO} {k i j : Nat} {l : MO} (h : Dq M M1 k i l) (hk : k < M.length) (h2 : Dw M1 M2 k j) : Dq M M2 k (i + j) l := by
  obtain ⟨⟨m, rfl⟩, f⟩ := h
  obtain ⟨⟨m2, e⟩, f2⟩ := h2
  refine ⟨⟨m2, ?_⟩, fun u hu hd => ?_⟩
  · rw [e, List.set_append_left _ _ (by rw [List.length_set]; exact hk), List.set_set]
  · have := f2 (u + i) (by omega) (f u (by omega) hd)
    rwa [Nat.add_assoc] at this
theorem Dq.get {M M1 : List MO} {k i : Nat} {l : MO} (h : Dq M M1 k i l) : M1[M.length]? = some l := by
  obtain ⟨⟨m, rfl⟩, _⟩ := h
  rw [List.getElem?_append_right (by rw [List.length_set]; exact Nat.le_refl _), List.length_set, Nat.sub_self]
  rfl
theorem Dq.put {M M1 : List MO} {k i : Nat} {l l' : MO} (h : Dq M M1 k i l) (hk : k < M.length) : Dq M (M1.set M.length l') k i l' := by
  obtain ⟨⟨m, rfl⟩, f⟩ := h
  refine ⟨⟨m, ?_⟩, fun u hu hd => ?_⟩
  · rw [List.set_append_right _ _ (by rw [List.length_set]; exact Nat.le_refl _), List.length_set, Nat.sub_self]
    rfl
  · obtain ⟨c, a, b, h1, h2⟩ := f u hu hd
    refine ⟨c, a, b, ?_, h2⟩
    rw [List.getElem?_set_ne (by omega)]
    exact h1
theorem Dq.le {M M1 : List MO} {k i j : Nat} {l : MO} (h : Dq M M1 k i l) (hij : i ≤ j) : Dq M M1 k j l := ⟨h.1, fun u hu hd => (h.2 u (by omega) hd).mono (by omega)⟩
section
variable {K : PySem.W.Frag} {es : List Sl} {M : List MO} {n0 : Nat} {tt : TT} {t u tz : TS} {te : TE} {Φ : Out → Prop} {i k : Nat}
theorem q_ifT (h : EvT K tt es M fun b M' => (b = true → Sx K n0 (tSeq t tz) es M' Φ) ∧ (b = false → Sx K n0 (tSeq u tz) es M' Φ)) : Sx K n0 (tSeq (tIfS tt t u) tz) es M Φ := fun as0 G0 H0 e G H as σ s R S D q =>
  h G H as σ R S _ fun b M' G' H' as' ⟨p1, p2⟩ st R' => by
    cases b with
    | true => exact iteT (p1 rfl as0 G0 H0 e G' H' as' σ (s.trans st) R' (S.step st) D fun o G2 H2 as2 p2 s2 g2 => q o G2 H2 as2 p2 s2 (st.g.trans g2))
    | false => exact iteF (p2 rfl as0 G0 H0 e G' H' as' σ (s.trans st) R' (S.step st) D fun o G2 H2 as2 p2 s2 g2 => q o G2 H2 as2 p2 s2 (st.g.trans g2))
theorem q_appX {Ξ : PyData → List MO → Prop} (h : Ev K te es M fun s M' => ∃ d, s = .d d ∧ Ξ d M') (hx : es[i]? = some (.l k)) (hm0 : ∃ ds, M[k]? = some (.lst ds)) (hm : ∀ d M', Ξ d M' → ∃ ds, M'[k]? = some (.lst ds) ∧ ds.length < 1000000 ∧ Sx K n0 tz es (M'.set k (.lst (ds ++ [d]))) Φ) :
    Sx K n0 (tSeq (tDrop (tBM K "list" rAppend (tVar i) (tCons te tNil))) tz) es M Φ :=
  sx_seq (Ψ := fun o => ∃ M', o = .nx es M' ∧ Sx K n0 tz es M' Φ) (s_appX h hx hm0 fun d M' p => by
    obtain ⟨ds, a, b, c⟩ := hm d M' p
    exact ⟨ds, a, b, _, rfl, c⟩) fun o ⟨M', e, p⟩ => by subst e; exact p
end
section
variable {P : Program} {w : World} {K : PySem.W.Frag} {mg : Str → Option Value} {base : Heap} {aC : Addr} {t1 t2 t3 t4 : Tok}
def Pre__law_deeds : List Sl → List MO → Prop := fun ss M => ∃ (k n t : Nat), ss = [.l k, .d (.int n), .d (.int 6), .d (.int 10)] ∧ 4 ≤ n ∧ n ≤ 10 ∧ n % 2 = 0 ∧ Dr M k t ∧ t ≤ 30000
def Post__law_deeds : List Sl → List MO → Sl → List MO → Prop := fun ss M s M' => ∃ (k n : Nat) (xs : List Deed), ss = [.l k, .d (.int n), .d (.int 6), .d (.int 10)] ∧ Lv n xs 0 ∧ xs.length ≤ 30 ∧ s = .l M.length ∧ Dq M M' k 200 (.lst (xs.map deedD))
theorem L__law_deeds : ∀ ss M, Pre__law_deeds ss M → ss.length = 4 := fun ss M ⟨_, _, _, h, _⟩ => by rw [h]; rfl
theorem nl_even {n : Nat} {x : Deed} (h : n % 2 = 0) : nl n x % 2 = 0 := by
  cases x with
  | cross b g => exact h
  | join g => show (n - 2) % 2 = 0; omega
  | opn g => show (n + 2) % 2 = 0; omega
  | turn g => exact h
abbrev s__law_deeds : Stmt := topS 53
def N__law_deeds : List Str := ["_law_draughts_here", "_law_ends", "_law_long", "_law_most", "_law_found", "_law_left", "_law_turn", "_law_deed_here"]
theorem sc__law_deeds : FnScope N__law_deeds ["_law_draughts_here", "_law_ends", "_law_long", "_law_most"] (defScope s__law_deeds) := ⟨rfl, rfl, rfl, by decide +kernel, rfl, by decide +kernel, by decide +kernel⟩
theorem ok__law_deeds {f : Addr} {fd : FuncData} (F : Fun K "_law_deeds" "_law_deeds" s__law_deeds f fd) (T : Txt K mg aC t1 t2 t3 t4) (C__law_man : Callee P w K mg base "_law_man" 1 ["_law_draughts_here", "_law_many"] (spM K Pre__law_man Post__law_man)) (C__law_pick : Callee P w K mg base "_law_pick" 2 ["_law_draughts_here", "_law_some"] (spM K Pre__law_pick Post__law_pick)) (C__law_deed : Callee P w K mg base "_law_deed" 3 ["_law_draughts_here", "_law_ends", "_law_most"] (spM K Pre__law_deed Post__law_deed)) : FnOk P w K mg base L2.CX0 4 f fd ["_law_draughts_here", "_law_ends", "_law_long", "_law_most"] (spM K Pre__law_deeds Post__law_deeds) := by
  refine F.ok sc__law_deeds (spM_len L__law_deeds) (fun cdv A outer s H vs Q E hr h => ?_)
  have hu64 := hr.units
  refine ⟨_, (pss_cons (ps_par (i := 4) (j := 5) rfl sc__law_deeds.nd rfl rfl (by decide) rfl rfl (pa_cons (pe_lst pa_nil) (pa_cons (pv 1) pa_nil)) rfl)
      (pss_cons (ps_for PassesOwn.never rfl (pi_range1 (by rfl) T.range (pa_cons (pv 2) pa_nil)) (pg_name (i := 6) sc__law_deeds.nd rfl (Or.inl rfl)) (pss_one (ps_if (PW.pt (pw_or (pt_cmpR op_gt (pv 5) pe_int (nomark _)) (pw_or1 (PW.pt (pw_and (pt_cmpR (show OpR _ _ (rEqD K) from op_eqD hu64) (pv 6) pe_int (nomark _)) (pw_and1 (pt_cmpR (show OpR _ _ (rEqD K) from op_eqD hu64) (pe_callC C__law_man hr (by decide) (by rfl) (pa_cons (pv 0) (pa_cons pe_int pa_nil))) pe_int (nomark _)))))))) (pss_cons (ps_asg (pe_callC C__law_deed hr (by decide) (by rfl) (pa_cons (pv 0) (pa_cons (pv 5) (pa_cons (pv 3) pa_nil)))) (show PG _ _ (gTup K 2 _) from pg_tup rfl (pgs_cons (pg_name (i := 7) sc__law_deeds.nd rfl (Or.inl rfl)) (pgs_cons (pg_name (i := 5) sc__law_deeds.nd rfl (Or.inl rfl)) pgs_nil))))
      (pss_one (ps_expr (pe_bm PySem.F.plainAttrs_list PySem.F.slot_list_append PySem.F.type_list_append mt_append (pv 4) (pa_cons (pv 7) pa_nil))))) pss_nil)))
      (pss_cons (ps_while PassesOwn.never (pt_cmpR op_gt (pv 5) pe_int (nomark _)) (pss_cons (ps_if (pt_cmpR (show OpR _ _ (rEqD K) from op_eqD hu64) (pe_callC C__law_man hr (by decide) (by rfl) (pa_cons (pv 0) (pa_cons pe_int pa_nil))) pe_int (nomark _)) (pss_one (ps_expr (pe_bm PySem.F.plainAttrs_list PySem.F.slot_list_append PySem.F.type_list_append mt_append (pv 4) (pa_cons (pe_tup (pa_cons (pe_callC C__law_pick hr (by decide) (by rfl) (pa_cons (pv 0) (pa_cons (pe_lst (pa_cons pe_str (pa_cons pe_str pa_nil))) pa_nil))) (pa_cons (pe_callC C__law_man hr (by decide) (by rfl) (pa_cons (pv 0) (pa_cons (pv 5) pa_nil))) pa_nil))) pa_nil)))) pss_nil)
      (pss_cons (ps_expr (pe_bm PySem.F.plainAttrs_list PySem.F.slot_list_append PySem.F.type_list_append mt_append (pv 4) (pa_cons (pe_tup (pa_cons pe_str (pa_cons (pe_ifExp (pt_cmpR op_gt (pv 5) pe_int (nomark _)) (pe_op (show OpR _ _ (rAddX K) from op_addX) pe_int (pe_callC C__law_man hr (by decide) (by rfl) (pa_cons (pv 0) (pa_cons (pe_op op_sub (pv 5) pe_int) pa_nil)))) pe_int) pa_nil))) pa_nil)))
      (pss_one (ps_set (i := 5) sc__law_deeds.nd rfl (Or.inl rfl) (pe_op op_sub (pv 5) pe_int))))))
      (pss_one (ps_ret (pv 4)))))), ?_⟩
  refine body_m (K := K) (N := N__law_deeds) (Pre := Pre__law_deeds) (Post := Post__law_deeds) (fun ss M hp => ?_) vs H Q E h
  obtain ⟨k, n, t, rfl, h4, hn, he, hD, ht⟩ := hp
  have hk := hD.lt
  refine ⟨Nat.le_add_left 4 4, q_parX (Ξ := fun s1 s2 M' => s1 = .l M.length ∧ s2 = .d (.int n) ∧ M' = M ++ [.lst []]) (by decide) (evA_cons (Ψ := fun s M' => s = .l M.length ∧ M' = M ++ [.lst []]) (ev_n (evn_lst eva_nil (Nat.zero_le _)) ⟨rfl, rfl⟩) fun s M' ⟨e1, e2⟩ => ?_) fun s1 s2 M' ⟨e1, e2, e3⟩ => ?_⟩
  · rw [e1, e2]
    exact evA_cons (Ψ := fun s M' => s = .d (.int n) ∧ M' = M ++ [.lst []]) (ev_p (evp_var rfl) ⟨rfl, rfl⟩) fun s M' ⟨e1, e2⟩ => evA_nil ⟨_, _, rfl, rfl, e1, e2⟩
  rw [e1, e2, e3]
  clear e1 e2 e3
  refine q_for (ds := (List.range 6).map fun (i : Nat) => PyData.int (i : Int)) (fun i es M1 => ∃ xs left s6 s7, es = [.l k, .d (.int n), .d (.int 6), .d (.int 10), .l M.length, .d (.int ((left : Nat) : Int)), s6, s7] ∧ Dq M M1 k (3 * i) (.lst (xs.map deedD)) ∧ Lv n xs left ∧ left % 2 = 0 ∧ left ≤ 10 ∧ xs.length ≤ i ∧ (i = 0 → left = n)) (evw_is (evw_r1 (eva_cons (evp_var rfl) eva_nil) (by decide) (by decide)) (rgD_natT 6)) ⟨[], n, _, _, rfl, Dq.start hD, rfl, he, hn, Nat.le_refl 0, fun _ => rfl⟩ ?_ ?_
  · rintro i d es1 M1 hi ⟨xs, left, s6, s7, rfl, hq, hlv, hev, hl10, hxl, hi0⟩
    have hi6 := (List.getElem?_eq_some_iff.mp hi).1
    rw [List.length_map, List.length_range] at hi6
    have hi : PyData.int (i : Int) = d := by
      rw [List.getElem?_map, List.getElem?_range hi6] at hi
      exact Option.some.inj hi
    subst hi
    refine ⟨_, [6], gt_name (by simp), s_if (b := decide (0 < left)) (evt_is (evt_or (b := false) (evt_test (evp_I0b (evp_var rfl) evp_int)) fun h => evt_is (evt_and (a := false) (b := false) (evt_is (evt_test (evp_eq (evp_var rfl) evp_int rfl rfl)) ?_) fun z => by cases z) rfl) ?_) (fun h => ?_) fun h => s_next ⟨_, Wk.refl _, xs, left, _, _, rfl, hq.le (by omega), hlv, hev, hl10, by omega, fun z => by cases z⟩⟩
    · rw [eqv_int]
      have h := of_decide_eq_false h
      have : i ≠ 0 := fun z => by
        have := hi0 z
        omega
      simp
      omega
    · rw [Bool.or_false, decide_eq_decide]
      omega
    · have h := of_decide_eq_true h
      have hD1 := hq.2 t (by omega) hD
      refine q_asgTX (Ξ := fun d M2 => ∃ x, ok1 left x ∧ (x.isOpn = true → left < 10) ∧ d = .tuple [deedD x, .int (nl left x)] ∧ Dw M1 M2 k 3) (ev_callAll (evA_cons (Ψ := fun s M' => s = .l k ∧ M' = M1) (ev_var rfl (by simp) ⟨rfl, rfl⟩) fun s M' ⟨e1, e2⟩ => ?_)) ?_
      · rw [e1, e2]
        refine evA_cons (Ψ := fun s M' => s = .d (.int left) ∧ M' = M1) (ev_p (evp_var rfl) ⟨rfl, rfl⟩) fun s M' ⟨e1, e2⟩ => ?_
        rw [e1, e2]
        refine evA_cons (Ψ := fun s M' => s = .d (.int ((10 : Nat) : Int)) ∧ M' = M1) (ev_p (evp_var rfl) ⟨rfl, rfl⟩) fun s M' ⟨e1, e2⟩ => evA_nil ?_
        rw [e1, e2]
        refine ⟨⟨k, left, 10, _, rfl, by omega, by omega, hD1, by omega⟩, fun s M' ⟨k', n', most, x, e3, ho, hm, e4, hw⟩ => ?_⟩
        simp only [List.cons.injEq, Sl.l.injEq, Sl.d.injEq, PyData.int.injEq, and_true] at e3
        obtain ⟨e3, e5, e6⟩ := e3
        have e5 : left = n' := by omega
        have e6 : 10 = most := by omega
        subst e3 e5 e6
        exact ⟨_, e4, x, ho, hm, rfl, hw⟩
      · rintro d M2 ⟨x, ho, hm, rfl, hw⟩
        have hq2 := hq.dw hk hw
        refine ⟨_, [7, 5], gt_tup (gts_cons (gt_name (by simp)) (gts_cons (gt_name (by simp)) gts_nil)), s_app (evp_var rfl) rfl hq2.get (by rw [List.length_map]; omega) ⟨_, Wk.refl _, xs ++ [x], nl left x, _, _, rfl, ?_, hlv.snoc (by omega) ho, nl_even hev, ?_, by rw [List.length_append, List.length_singleton]; omega, fun z => by cases z⟩⟩
        · have := hq2.put (l' := .lst ((xs ++ [x]).map deedD)) hk
          rw [show 3 * (i + 1) = 3 * i + 3 by omega, List.map_append]
          rw [List.map_append] at this
          exact this
        · cases x with
          | cross b g => exact hl10
          | join g => show left - 2 ≤ 10; omega
          | opn g =>
            have := hm rfl
            show left + 2 ≤ 10
            omega
          | turn g => exact hl10
  · rintro es1 M1 ⟨xs, left, s6, s7, rfl, hq, hlv, hev, hl10, hxl, _⟩
    rw [List.length_map, List.length_range] at hq hxl
    refine q_while (fun m es M1 => ∃ xs s6 s7 j, es = [.l k, .d (.int n), .d (.int 6), .d (.int 10), .l M.length, .d (.int ((m : Nat) : Int)), s6, s7] ∧ Dq M M1 k j (.lst (xs.map deedD)) ∧ j + 2 * m ≤ 60 ∧ Lv n xs m ∧ m % 2 = 0 ∧ m ≤ 10 ∧ xs.length + m ≤ 30) left ⟨xs, _, _, 18, rfl, hq, by omega, hlv, hev, hl10, by omega⟩ ?_
    clear hq hlv hev hl10 hxl
    rintro m es1 M1 ⟨xs, s6, s7, j, rfl, hq, hj, hlv, hev, hm10, hxl⟩
    refine ⟨decide (0 < m), evt_is (evt_test (evp_I0b (evp_var rfl) evp_int)) (by rw [decide_eq_decide]; omega), fun hb => ?_, fun hb => ?_⟩
    · have hb := of_decide_eq_true hb
      have hD1 := hq.2 t (by omega) hD
      -- the join at the turn's end
      have tail : ∀ (xs' : List Deed) (M2 : List MO) (j' : Nat), Dq M M2 k j' (.lst (xs'.map deedD)) → j' + 2 * m ≤ 63 → Lv n xs' m → xs'.length + m ≤ 31 → Sx K M.length (tSeq (tDrop (tBM K "list" rAppend (tVar 4) (tCons (tTup (tCons (tC (.str "join")) (tCons (tIf (tTest (tOp (rI0 fun i j => .bl (decide (j < i))) (tVar 5) (tC (.int 2)))) (tOp (rAddX K) (tC (.int 1)) (tCall (spM K Pre__law_man Post__law_man) [] L2.E0 (tCons (tVar 0) (tCons (tOp (rI0 fun i j => .int (i - j)) (tVar 5) (tC (.int 2))) tNil)))) (tC (.int 1))) tNil))) tNil))) (tAsg (tOp (rI0 fun i j => .int (i - j)) (tVar 5) (tC (.int 2))) (gName 5))) [.l k, .d (.int n), .d (.int 6), .d (.int 10), .l M.length, .d (.int ((m : Nat) : Int)), s6, s7] M2 (fun o => match o with
          | .nx a b => ∃ a' m', m' < m ∧ Wk a a' ∧ ∃ xs s6 s7 j, a' = [.l k, .d (.int n), .d (.int 6), .d (.int 10), .l M.length, .d (.int ((m' : Nat) : Int)), s6, s7] ∧ Dq M b k j (.lst (xs.map deedD)) ∧ j + 2 * m' ≤ 60 ∧ Lv n xs m' ∧ m' % 2 = 0 ∧ m' ≤ 10 ∧ xs.length + m' ≤ 30
          | _ => False) := by
        intro xs' M2 j' hq' hj' hlv' hxl'
        refine q_appX (Ξ := fun d M3 => ∃ g, (2 < m → 1 ≤ g ∧ g + 1 < m) ∧ d = deedD (.join g) ∧ Dq M M3 k (j' + 1) (.lst (xs'.map deedD))) (ev_tup2 (ev_p evp_str ⟨_, rfl, ev_ifE (b := decide (2 < m)) (evt_is (evt_test (evp_I0b (evp_var rfl) evp_int)) (by rw [decide_eq_decide]; omega)) (fun h2 => ?_) fun h2 => ?_⟩)) rfl ⟨_, hq'.get⟩ ?_
        · have h2 := of_decide_eq_true h2
          refine ev_addE evp_int (ev_man rfl (hq'.2 t (by omega) hD) (by omega) (many := m - 2) (by omega) (by omega) (evp_is (evp_I0i (evp_var rfl) evp_int) (by rw [Int.ofNat_sub (by omega)]; rfl)) fun g M3 hg hw3 => ⟨g, rfl, _, rfl, _, rfl, 1 + g, fun _ => by omega, ?_, hq'.dw hk hw3⟩)
          show PyData.tuple [_, .int ((1 : Int) + (g : Int))] = .tuple [_, .int ((1 + g : Nat) : Int)]
          rw [show ((1 : Int) + (g : Int)) = ((1 + g : Nat) : Int) by omega]
          rfl
        · have h2 := of_decide_eq_false h2
          exact ev_p evp_int ⟨_, rfl, _, rfl, 1, fun z => absurd z h2, rfl, hq'.le (by omega)⟩
        · rintro d M3 ⟨g, hg, rfl, hq3⟩
          refine ⟨_, hq3.get, by rw [List.length_map]; omega, s_asg (d := .int ((m - 2 : Nat) : Int)) (evp_is (evp_I0i (evp_var rfl) evp_int) (by rw [Int.ofNat_sub (by omega)]; rfl)) ⟨_, m - 2, by omega, Wk.refl _, xs' ++ [.join g], _, _, j' + 1, rfl, ?_, by omega, Lv.snoc (x := .join g) hlv' (by omega) hg, by omega, by omega, by rw [List.length_append, List.length_singleton]; omega⟩⟩
          have := hq3.put (l' := .lst ((xs' ++ [Deed.join g]).map deedD)) hk
          rw [List.map_append] at this ⊢
          exact this
      refine q_ifT (evt_eqE (ev_man rfl hD1 (by omega) (many := 3) (by decide) (by decide) evp_int fun v M2 hv hw => ⟨v, rfl, evp_int, fun _ => ?_, fun _ => q_next ?_⟩))
      · have hq2 := hq.dw hk hw
        refine q_appX (Ξ := fun d M3 => ∃ b g, g < m ∧ d = deedD (.cross b g) ∧ Dq M M3 k (j + 3) (.lst (xs.map deedD))) (ev_tup2 (ev_pick rfl (hq2.2 t (by omega) hD) (by omega) (ds := [.str "over", .str "under"]) (by decide) (by decide) (evp_of_new (evn_lst (eva_cons evp_str (eva_cons evp_str eva_nil)) (by show 2 ≤ 1000000; omega))) fun d M3 hd hw3 => ⟨d, rfl, ev_man rfl ((hq2.dw hk hw3).2 t (by omega) hD) (by omega) (many := m) (by omega) (by omega) (evp_var rfl) fun g M4 hg hw4 => ⟨_, rfl, _, rfl, ?_⟩⟩)) rfl ⟨_, hq2.get⟩ ?_
        · obtain ⟨b, rfl⟩ := word_pick hd
          exact ⟨b, g, hg, (by cases b <;> rfl), (hq2.dw hk hw3).dw hk hw4⟩
        · rintro d M3 ⟨b, g, hg, rfl, hq3⟩
          refine ⟨_, hq3.get, by rw [List.length_map]; omega, sx_mono (tail (xs ++ [.cross b g]) _ (j + 3) ?_ (by omega) (Lv.snoc (x := .cross b g) hlv (by omega) hg) (by rw [List.length_append, List.length_singleton]; omega)) fun o p => ?_⟩
          · have := hq3.put (l' := .lst ((xs ++ [Deed.cross b g]).map deedD)) hk
            rw [List.map_append] at this ⊢
            exact this
          · cases o with
            | nx a b => exact p
            | rt a b => exact p.elim
            | bk a b => exact p.elim
            | ct a b => exact p.elim
      · refine sx_mono (tail xs _ (j + 1) (hq.dw hk hw) (by omega) hlv (by omega)) fun o p => ?_
        cases o with
        | nx a b => exact p
        | rt a b => exact p.elim
        | bk a b => exact p.elim
        | ct a b => exact p.elim
    · have hb := of_decide_eq_false hb
      have hm0 : m = 0 := by omega
      subst hm0
      exact s_retX (ev_var rfl (by simp) ⟨k, n, xs, rfl, hlv, by omega, rfl, hq.le (by omega)⟩)
end
end Q
end
section
set_option Elab.async false
set_option linter.all false
set_option maxRecDepth 100000
set_option maxHeartbeats 4000000
/-! Wm: the law's fewest. -/
namespace Q
open PySem PySem.Spec PyProof.Rows L2
def kn (known : List (List Int)) : List (List Int × PyData) := known.map fun x => (x, .bool true)
theorem kn_look : ∀ (known : List (List Int)) (y : List Int), (lookD (kn known) y).isSome = decide (y ∈ known)
  | [], y => by simp [lookD, kn]
  | a :: known, y => by
    have ih := kn_look known y
    by_cases h : a = y
    · subst h
      unfold lookD kn
      rw [List.map_cons, List.find?_cons_of_pos (by simp)]
      simp
    · unfold lookD kn at *
      rw [List.map_cons, List.find?_cons_of_neg (by simpa using h), ih]
      rw [decide_eq_decide]
      constructor
      · exact fun z => List.mem_cons_of_mem _ z
      · intro z
        rcases List.mem_cons.mp z with e | z
        · exact absurd e.symm h
        · exact z
theorem kn_none {known : List (List Int)} {y : List Int} (h : y ∉ known) : lookD (kn known) y = none := by
  have := kn_look known y
  rw [decide_eq_false h] at this
  cases e : lookD (kn known) y with
  | none => rfl
  | some d => rw [e] at this; cases this
theorem lay_row (r : List Int) : lay (rowD r) 1 := lay_tup (lay_ints r)
theorem shaped_rows (xs : List (List Int)) : SeqAt.shaped (.list (xs.map rowD)) = true := shaped_lay (k := 2) (lay_list fun d hd => by
  obtain ⟨x, _, rfl⟩ := List.mem_map.mp hd
  exact lay_row x) (by omega)
section
variable {P : Program} {w : World} {K : PySem.W.Frag} {mg : Str → Option Value} {base : Heap} {aC : Addr} {t1 t2 t3 t4 : Tok}
def P__law_fewest : List PyData → PyData → Prop := fun ds d => ∃ (p n k : Nat) (r : List Int), FewOk p n r ∧ IsDist p r k ∧ k ≤ 8 ∧ ds = [.int p, rowD r] ∧ d = .int k
theorem L__law_fewest : ∀ ds d, P__law_fewest ds d → ds.length = 2 := fun ds d ⟨_, _, _, _, _, _, _, h, _⟩ => by rw [h]; rfl
abbrev s__law_fewest : Stmt := topS 57
def N__law_fewest : List Str := ["_law_clock", "_law_row", "_law_rows", "_law_known", "_law_pairs", "_law_later", "_law_each", "_law_other"]
theorem sc__law_fewest : FnScope N__law_fewest ["_law_clock", "_law_row"] (defScope s__law_fewest) := ⟨rfl, rfl, rfl, by decide +kernel, rfl, by decide +kernel, by decide +kernel⟩
theorem ok__law_fewest {f : Addr} {fd : FuncData} (F : Fun K "_law_fewest" "_law_fewest" s__law_fewest f fd) (T : Txt K mg aC t1 t2 t3 t4) (C__law_strange : Callee P w K mg base "_law_strange" 2 ["_law_row"] (spP K P__law_strange)) (C__law_next : Callee P w K mg base "_law_next" 1 ["_law_clock", "_law_row"] (spP K P__law_next)) : FnOk P w K mg base L2.CX0 3 f fd ["_law_clock", "_law_row"] (spP K P__law_fewest) := by
  refine F.ok sc__law_fewest (spP_len L__law_fewest) (fun cdv A outer s H vs Q E hr h => ?_)
  have hu64 := hr.units
  have hu := L2.hu_of hr
  refine ⟨_, (pss_cons (ps_par (i := 2) (j := 3) rfl sc__law_fewest.nd rfl rfl (by decide) rfl rfl (pa_cons (pe_lst (pa_cons (pv 1) pa_nil)) (pa_cons (pe_disp1 hu64 (pv 1) pe_bl) pa_nil)) rfl)
      (pss_cons (ps_for PassesOwn.never rfl (pi_range1 (by rfl) T.range (pa_cons pe_int pa_nil)) (pg_name (i := 4) sc__law_fewest.nd rfl (Or.inl rfl)) (pss_cons (ps_if (pt_cmpR (show OpR _ _ (rNeD K) from op_neD hu64) (pe_lc (own := [("_law_each", 6)]) rfl sc__law_fewest.nd (show PI _ _ _ (iSeqX K _) from pi_seqX (pv 2)) (blkOk_by (own := [("_law_each", 6)]) (N := N__law_fewest) (sc := defScope s__law_fewest) (by decide +kernel)) (fun _ _ _ _ _ => (pg_name (i := 6) sc__law_fewest.nd rfl (Or.inl rfl))) (fun _ _ _ _ _ => (pts_one (pt_cmpR (show OpR _ _ (rNeD K) from op_neD hu64) (pe_callC C__law_strange hr (by decide) (by rfl) (pa_cons (pv 6) pa_nil)) (pe_lst pa_nil) (nomark _)))) (fun _ _ _ _ _ => (pv 6))) (pe_lst pa_nil) (nomark _)) (pss_one (ps_ret (pv 4))) pss_nil)
      (pss_cons (ps_set (i := 5) sc__law_fewest.nd rfl (Or.inl rfl) (pe_lst pa_nil))
      (pss_cons (ps_for PassesOwn.never rfl (show PI _ _ _ (iSeqX K _) from pi_seqX (pv 2)) (pg_name (i := 6) sc__law_fewest.nd rfl (Or.inl rfl)) (pss_one (ps_for PassesOwn.never rfl (show PI _ _ _ (iSeqX K _) from pi_seqX (pe_callC C__law_next hr (by decide) (by rfl) (pa_cons (pv 0) (pa_cons (pv 6) pa_nil)))) (pg_name (i := 7) sc__law_fewest.nd rfl (Or.inl rfl)) (pss_one (ps_if (pt_cmpR (op_notInT hu64) (pv 7) (pv 3) (by with_unfolding_all rfl)) (pss_cons (ps_dput hu (pv 3) (pv 7) pe_bl rfl)
      (pss_one (ps_expr (pe_bm PySem.F.plainAttrs_list PySem.F.slot_list_append PySem.F.type_list_append mt_append (pv 5) (pa_cons (pv 7) pa_nil))))) pss_nil)))))
      (pss_one (ps_set (i := 2) sc__law_fewest.nd rfl (Or.inl rfl) (pv 5)))))))
      (pss_one (ps_ret pe_non)))), ?_⟩
  refine body_p (K := K) (N := N__law_fewest) (P := P__law_fewest) (fun ds d hp => ?_) vs H Q E h
  obtain ⟨p, n, k, r, ⟨hp1, hp7, hn4, hn6, hev, hpn, hr⟩, hD, hk8, rfl, rfl⟩ := hp
  obtain ⟨⟨xs, hxs, hss⟩, _⟩ := id hD
  refine ⟨Nat.le_add_left 2 6, q_parX (Ξ := fun s1 s2 M' => s1 = .d (.list [rowD r]) ∧ s2 = .l 0 ∧ M' = [.dct (kn [r])]) (by decide) (evA_cons (Ψ := fun s M' => s = .d (.list [rowD r]) ∧ M' = []) (ev_p (evp_of_new (evn_lst (eva_cons (evp_var rfl) eva_nil) (by show 1 ≤ 1000000; omega))) ⟨rfl, rfl⟩) fun s M' ⟨e1, e2⟩ => ?_) fun s1 s2 M' ⟨e1, e2, e3⟩ => ?_⟩
  · rw [e1, e2]
    exact evA_cons (Ψ := fun s M' => s = .l 0 ∧ M' = [.dct (kn [r])]) (ev_n (evn_disp1 (evp_var rfl) (by rw [hr.1]; omega) evp_bl) ⟨rfl, rfl⟩) fun s M' ⟨e1, e2⟩ => evA_nil ⟨_, _, rfl, rfl, e1, e2⟩
  rw [e1, e2, e3]
  clear e1 e2 e3
  refine q_for (ds := (List.range 9).map fun (i : Nat) => PyData.int (i : Int)) (fun i es M => ∃ rows known s4 s5 s6 s7, es = [.d (.int p), .d (rowD r), .d (.list (rows.map rowD)), .l 0, s4, s5, s6, s7] ∧ M = [.dct (kn known)] ∧ BL p n r i rows known ∧ i ≤ k) (evw_is (evw_r1 (eva_cons evp_int eva_nil) (by decide) (by decide)) (rgD_natT 9)) ⟨[r], [r], _, _, _, _, rfl, rfl, BL.begin hr, Nat.zero_le _⟩ ?_ ?_
  · rintro i d es1 M1 hi ⟨rows, known, s4, s5, s6, s7, rfl, rfl, B, hik⟩
    have hi9 := (List.getElem?_eq_some_iff.mp hi).1
    rw [List.length_map, List.length_range] at hi9
    have hi : PyData.int (i : Int) = d := by
      rw [List.getElem?_map, List.getElem?_range hi9] at hi
      exact Option.some.inj hi
    subst hi
    have hkl : known.length ≤ 2500 := by
      have := rows_bound n known B.nd B.ok
      omega
    have hrk : ∀ x ∈ rows, RowOk p n x := fun x hx => B.ok x (B.sub x hx).1
    have hrl : rows.length ≤ 2500 := by
      have := rows_bound n rows B.rnd hrk
      omega
    refine ⟨_, [4], gt_name (by simp), q_if (b := !((rows.filter fun x => !(lstrange x).isEmpty).map rowD).isEmpty) (evt_is (evt_test (evp_ne (evp_of_new (evn_lc rows rowD (fun x => !(lstrange x).isEmpty) rowD (evw_L (evp_var rfl)) (by omega) fun x hx => ⟨_, gt_name (by simp), evt_is (evt_test (evp_ne (evp_call (eva_cons (evp_var rfl) eva_nil) ⟨true, x, by rw [(hrk x hx).1]; omega, by rw [(hrk x hx).1]; omega, rfl, rfl⟩) (evp_of_new (evn_lst eva_nil (Nat.zero_le _))) shaped_nats rfl)) (by rw [eqv_nil]; simp), fun _ => evp_var rfl⟩)) (evp_of_new (evn_lst eva_nil (Nat.zero_le _))) (shaped_rows _) rfl)) (by rw [eqv_nil])) (fun h => ?_) fun h => q_next ?_⟩
    · have hne : (rows.filter fun x => !(lstrange x).isEmpty) ≠ [] := by
        intro z
        rw [z] at h
        cases h
      obtain ⟨x, hx⟩ := List.exists_mem_of_ne_nil _ hne
      obtain ⟨h1, h2⟩ := List.mem_filter.mp hx
      have hs : lstrange x ≠ [] := by
        intro z
        rw [z] at h2
        cases h2
      have hik2 : i = k := (B.dist h1 hs).uniq hD
      rw [← hik2]
      exact s_ret (evp_var rfl) rfl
    · have hn : ∀ x ∈ rows, lstrange x = [] := fun x hx => by
        cases e : lstrange x with
        | nil => rfl
        | cons g l =>
          exfalso
          have hm : x ∈ rows.filter fun x => !(lstrange x).isEmpty := List.mem_filter.mpr ⟨hx, by rw [e]; rfl⟩
          cases e2 : rows.filter fun x => !(lstrange x).isEmpty with
          | nil => rw [e2] at hm; cases hm
          | cons a l => rw [e2] at h; cases h
      have hlt : i < k := B.le hn hxs hss |> fun z => by
        obtain ⟨⟨x, hx, sx⟩, _⟩ := hD
        exact B.le hn hx sx
      refine q_asgN (evn_lst eva_nil (Nat.zero_le _)) ?_
      refine q_for (ds := rows.map rowD) (fun j es M => ∃ s6 s7, es = [.d (.int p), .d (rowD r), .d (.list (rows.map rowD)), .l 0, .d (.int i), .l 1, s6, s7] ∧ M = [.dct (kn ((rows.take j).foldl (lvRow p) ([], known)).2), .lst (((rows.take j).foldl (lvRow p) ([], known)).1.map rowD)]) (evw_L (evp_var rfl)) ⟨_, _, rfl, rfl⟩ ?_ ?_
      · rintro j d es1 M1 hj ⟨s6, s7, rfl, rfl⟩
        rw [List.getElem?_map] at hj
        cases hq : rows[j]? with
        | none => rw [hq] at hj; cases hj
        | some x =>
          rw [hq] at hj
          have hj : rowD x = d := Option.some.inj hj
          subst hj
          obtain ⟨k1, k2⟩ := List.getElem?_eq_some_iff.mp hq
          have hxok := hrk x (List.mem_of_getElem? hq)
          have L := B.mid j
          rw [List.take_succ_eq_append_getElem k1, List.foldl_append, k2]
          generalize (rows.take j).foldl (lvRow p) ([], known) = st at L
          generalize (rows.take j).flatMap (lnext p) = ys at L
          refine ⟨_, [6], gt_name (by simp), ?_⟩
          refine s_for (ds := (lnext p x).map rowD) (fun a es M => ∃ s7, es = [.d (.int p), .d (rowD r), .d (.list (rows.map rowD)), .l 0, .d (.int i), .l 1, .d (rowD x), s7] ∧ M = [.dct (kn (((lnext p x).take a).foldl lvAdd st).2), .lst ((((lnext p x).take a).foldl lvAdd st).1.map rowD)]) (evw_L (evp_call (eva_cons (evp_var rfl) (eva_cons (evp_var rfl) eva_nil)) ⟨p, x, by omega, by rw [hxok.1]; omega, by rw [hxok.1]; omega, rfl, rfl⟩)) ⟨_, rfl, rfl⟩ ?_ ?_
          · rintro a d es1 M1 ha ⟨s7, rfl, rfl⟩
            rw [List.getElem?_map] at ha
            cases hqa : (lnext p x)[a]? with
            | none => rw [hqa] at ha; cases ha
            | some y =>
              rw [hqa] at ha
              have ha : rowD y = d := Option.some.inj ha
              subst ha
              obtain ⟨m1, m2⟩ := List.getElem?_eq_some_iff.mp hqa
              have hyok := rnext_ok hxok (lnext_sub (List.mem_of_getElem? hqa))
              have L2 := L.row (zs := (lnext p x).take a) fun z hz => rnext_ok hxok (lnext_sub (List.mem_of_mem_take hz))
              have hl2 := L2.len
              rw [List.take_succ_eq_append_getElem m1, List.foldl_append, m2]
              generalize ((lnext p x).take a).foldl lvAdd st = s2 at hl2
              refine ⟨_, [7], gt_name (by simp), s_if (b := !decide (y ∈ s2.2)) (evt_is (evt_test (evp_notInDct (evp_var rfl) (by rw [hyok.1]; omega) rfl rfl)) (by rw [kn_look])) (fun hb2 => ?_) fun hb2 => s_next ?_⟩
              · have hno : y ∉ s2.2 := by simpa using hb2
                have hadd : lvAdd s2 y = (s2.1 ++ [y], s2.2 ++ [y]) := if_neg hno
                refine q_dput evp_bl rfl rfl (evp_var rfl) (by rw [hyok.1]; omega) (kn_none hno) (by unfold kn; rw [List.length_map]; omega) (s_app (evp_var rfl) rfl rfl (by rw [List.length_map]; omega) ⟨_, Wk.refl _, _, rfl, ?_⟩)
                show [MO.dct (kn s2.2 ++ [(y, .bool true)]), MO.lst (s2.1.map rowD ++ [rowD y])] = [MO.dct (kn (lvAdd s2 y).2), MO.lst ((lvAdd s2 y).1.map rowD)]
                rw [hadd]
                unfold kn
                rw [List.map_append, List.map_append]
                rfl
              · have hyes : y ∈ s2.2 := by simpa using hb2
                have hadd : lvAdd s2 y = s2 := if_pos hyes
                exact ⟨_, Wk.refl _, _, rfl, by show _ = [MO.dct (kn (lvAdd s2 y).2), MO.lst ((lvAdd s2 y).1.map rowD)]; rw [hadd]⟩
          · rintro es1 M1 ⟨s7, rfl, rfl⟩
            rw [List.length_map, List.take_length]
            exact ⟨_, Wk.refl _, _, _, rfl, rfl⟩
      · rintro es1 M1 ⟨s6, s7, rfl, rfl⟩
        rw [List.length_map, List.take_length]
        refine sx_frz (M := [_]) (Nat.zero_le _) rfl (s_asg (evp_var rfl) ⟨_, Wk.refl _, (lvNext p rows known).1, (lvNext p rows known).2, _, _, _, _, rfl, rfl, B.next hn, by omega⟩)
  · rintro es1 M1 ⟨rows, known, s4, s5, s6, s7, rfl, rfl, B, hik⟩
    rw [List.length_map, List.length_range] at hik
    omega
end
end Q
end
section
set_option Elab.async false
set_option linter.all false
set_option maxRecDepth 100000
set_option maxHeartbeats 4000000
/-! Wh: the law's through. -/
namespace Q
open PySem PySem.Spec PyProof.Rows L2
section
variable {P : Program} {w : World} {K : PySem.W.Frag} {mg : Str → Option Value} {base : Heap} {aC : Addr} {t1 t2 t3 t4 : Tok}
def P__law_through : List PyData → PyData → Prop := fun ds d => ∃ (p n : Nat) (xs : List Deed), P3 p ∧ 2 ≤ n ∧ n ≤ 10 ∧ xs.length ≤ 30 ∧ Vd (manyOf n xs) n n xs ∧ ds = [.int p, .int n, .list (xs.map deedD)] ∧ d = .tuple [.tuple ((throughOf p n xs).map rowD), .int (((solved p (formsOf p n xs).zero (manyOf n xs)).length : Int) - ((throughOf p n xs).length : Int))]
theorem L__law_through : ∀ ds d, P__law_through ds d → ds.length = 3 := fun ds d ⟨_, _, _, _, _, _, _, _, h, _⟩ => by rw [h]; rfl
theorem forms_zero (p m : Nat) : ∀ (xs : List Deed) (f : Form), (xs.foldl (form1 p m) f).zero.length ≤ f.zero.length + xs.length
  | [], _ => Nat.le_refl _
  | x :: xs, f => by
    have h1 := forms_zero p m xs (form1 p m f x)
    have h2 := zero_len p m f x
    show (xs.foldl (form1 p m) (form1 p m f x)).zero.length ≤ f.zero.length + (xs.length + 1)
    omega
theorem solvedRow_ok {p m : Nat} (hp : P3 p) {form : List (Nat × List Int)} {place : Nat} : RowOk p m (solvedRow p m form place) := by
  unfold solvedRow
  have z : RowOk p m ((List.range m).map fun i => if i = place then (1 : Int) else 0) := unitRow_ok (by rcases hp with rfl | rfl | rfl <;> decide)
  revert z
  generalize ((List.range m).map fun i => if i = place then (1 : Int) else 0) = row
  induction form generalizing row with
  | nil => exact id
  | cons q form ih =>
    intro z
    refine ih _ ⟨by rw [List.length_set]; exact z.1, fun x hx => ?_⟩
    rcases List.mem_or_eq_of_mem_set hx with hx | rfl
    · exact z.2 x hx
    · exact mod_in hp.pos _
theorem solved_ok {p m : Nat} (hp : P3 p) {rows : List (List Int)} : (∀ r ∈ solved p rows m, RowOk p m r) ∧ (solved p rows m).length ≤ m := by
  refine ⟨fun r hr => ?_, ?_⟩
  · obtain ⟨i, _, rfl⟩ := List.mem_map.mp hr
    exact solvedRow_ok hp
  · unfold solved
    rw [List.length_map]
    exact Nat.le_trans (List.length_filter_le _ _) (by rw [List.length_range]; exact Nat.le_refl _)
theorem forms_ok {p n : Nat} {xs : List Deed} (hp : P3 p) (h : Vd (manyOf n xs) n n xs) : ∀ r ∈ (formsOf p n xs).zero, RowOk p (manyOf n xs) r := by
  have p1 : 1 < p := by rcases hp with rfl | rfl | rfl <;> decide
  obtain ⟨n', fr', _, _, F⟩ := Vd.drop p p1 h (f := { ring := (List.range n).map (unitRow (manyOf n xs)), fresh := n, zero := [] }) ⟨by simp, rfl, fun r hr => by
    obtain ⟨i, _, rfl⟩ := List.mem_map.mp hr
    exact unitRow_ok p1, fun r hr => absurd hr List.not_mem_nil⟩ xs.length
  rw [List.take_length] at F
  exact F.zero
abbrev s__law_through : Stmt := topS 51
def N__law_through : List Str := ["_law_clock", "_law_ends", "_law_deeds_here", "_law_many", "_law_zero", "_law_ring", "_law_rows", "_law_shown", "_law_row"]
theorem sc__law_through : FnScope N__law_through ["_law_clock", "_law_ends", "_law_deeds_here"] (defScope s__law_through) := ⟨rfl, rfl, rfl, by decide +kernel, rfl, by decide +kernel, by decide +kernel⟩
theorem ok__law_through {f : Addr} {fd : FuncData} (F : Fun K "_law_through" "_law_through" s__law_through f fd) (T : Txt K mg aC t1 t2 t3 t4) (C__law_forms : Callee P w K mg base "_law_forms" 1 ["_law_clock", "_law_ends", "_law_deeds_here"] (spP K P__law_forms)) (C__law_solved : Callee P w K mg base "_law_solved" 2 ["_law_clock", "_law_rows", "_law_many"] (spP K P__law_solved)) (C__law_least : Callee P w K mg base "_law_least" 1 ["_law_clock", "_law_rows"] (spP K P__law_least)) : FnOk P w K mg base L2.CX0 3 f fd ["_law_clock", "_law_ends", "_law_deeds_here"] (spP K P__law_through) := by
  refine F.ok sc__law_through (spP_len L__law_through) (fun cdv A outer s H vs Q E hr h => ?_)
  have hu64 := hr.units
  refine ⟨_, (pss_cons (ps_asg (pe_callC C__law_forms hr (by decide) (by rfl) (pa_cons (pv 0) (pa_cons (pv 1) (pa_cons (pv 2) pa_nil)))) (show PG _ _ (gTup K 3 _) from pg_tup rfl (pgs_cons (pg_name (i := 3) sc__law_through.nd rfl (Or.inl rfl)) (pgs_cons (pg_name (i := 4) sc__law_through.nd rfl (Or.inl rfl)) (pgs_cons (pg_name (i := 5) sc__law_through.nd rfl (Or.inl rfl)) pgs_nil)))))
      (pss_cons (ps_set (i := 6) sc__law_through.nd rfl (Or.inl rfl) (pe_callC C__law_solved hr (by decide) (by rfl) (pa_cons (pv 0) (pa_cons (pv 4) (pa_cons (pv 3) pa_nil)))))
      (pss_cons (ps_set (i := 7) sc__law_through.nd rfl (Or.inl rfl) (pe_callC C__law_least hr (by decide) (by rfl) (pa_cons (pv 0) (pa_cons (pe_lc (own := [("_law_row", 8)]) rfl sc__law_through.nd (show PI _ _ _ (iSeqX K _) from pi_seqX (pv 6)) (blkOk_by (own := [("_law_row", 8)]) (N := N__law_through) (sc := defScope s__law_through) (by decide +kernel)) (fun _ _ _ _ _ => (pg_name (i := 8) sc__law_through.nd rfl (Or.inl rfl))) (fun _ _ _ _ _ => pts_nil) (fun _ _ _ _ _ => (pe_slice (show SlR _ (rSlX K) from sl_X) (pv 8) po_none (po_some (pe_callB (call_max2 rfl) (by rfl) T.max (by decide +kernel) (pa_cons pe_int (pa_cons (pv 1) pa_nil))))))) pa_nil))))
      (pss_one (ps_ret (pe_tup (pa_cons (pv 7) (pa_cons (pe_op op_sub (pe_callB (show CallR _ _ (rLenX K) from call_len) (by rfl) T.len (by decide +kernel) (pa_cons (pv 6) pa_nil)) (pe_callB (show CallR _ _ (rLenX K) from call_len) (by rfl) T.len (by decide +kernel) (pa_cons (pv 7) pa_nil))) pa_nil)))))))), ?_⟩
  refine body_p (K := K) (N := N__law_through) (P := P__law_through) (fun ds d hp => ?_) vs H Q E h
  obtain ⟨p, n, xs, hp, hn2, hn, hxl, hv, rfl, rfl⟩ := hp
  have ho : opens xs ≤ 30 := Nat.le_trans (List.length_filter_le _ _) hxl
  have hm : manyOf n xs ≤ 40 := by unfold manyOf; omega
  have hmax : (if (n : Int) > 1 then (n : Int) else 1) = (n : Int) := if_pos (by omega)
  have hz := forms_ok hp hv
  have hzl : (formsOf p n xs).zero.length ≤ 30 := Nat.le_trans (forms_zero p _ xs _) (by show 0 + xs.length ≤ 30; omega)
  obtain ⟨hs, hsl⟩ := solved_ok (m := manyOf n xs) hp (rows := (formsOf p n xs).zero)
  refine ⟨Nat.le_add_left 3 6, q_asgT (evp_call (eva_cons (evp_var rfl) (eva_cons (evp_var rfl) (eva_cons (evp_var rfl) eva_nil))) ⟨p, n, xs, hp, hn2, by omega, by omega, hv, rfl, rfl⟩) (vs := [3, 4, 5]) (gt_tup (gts_cons (gt_name (by simp)) (gts_cons (gt_name (by simp)) (gts_cons (gt_name (by simp)) gts_nil)))) ?_⟩
  refine q_asg (evp_call (eva_cons (evp_var rfl) (eva_cons (evp_var rfl) (eva_cons (evp_var rfl) eva_nil))) ⟨p, manyOf n xs, (formsOf p n xs).zero, hp, by omega, by omega, hz, rfl, rfl⟩) ?_
  unfold throughOf
  generalize solved p (formsOf p n xs).zero (manyOf n xs) = rows at hs hsl
  refine q_asg (evp_call (eva_cons (evp_var rfl) (eva_cons (evp_is (evp_of_new (evn_lcy rows rowD (fun r => rowD (r.take n)) (evw_L (evp_var rfl)) (by omega) fun r hr => ⟨_, gt_name (by simp), evp_is (evp_slT (evp_var rfl) evo_none (evo_some (evp_is (evp_max (eva_cons evp_int (eva_cons (evp_var rfl) eva_nil))) (congrArg PyData.int hmax)))) ?_⟩)) ?_) eva_nil)) ⟨p, min n (manyOf n xs), rows.map fun r => r.take n, hp, by omega, by rw [List.length_map]; omega, fun r hr => ?_, rfl, rfl⟩) ?_
  · unfold rowD
    rw [cut_to, List.map_take]
  · rw [List.map_map]
    rfl
  · obtain ⟨r', hr', rfl⟩ := List.mem_map.mp hr
    exact ⟨by rw [List.length_take, (hs r' hr').1], fun x hx => (hs r' hr').2 x (List.mem_of_mem_take hx)⟩
  · exact s_ret (evp_is (evp_tup (eva_cons (evp_var rfl) (eva_cons (evp_I0i (evp_lenS (evs_of (evp_var rfl))) (evp_lenT (evp_var rfl))) eva_nil)) (by show 2 ≤ 1000000; omega)) (by rw [List.length_map, List.length_map])) rfl
end
end Q
end
section
set_option Elab.async false
set_option linter.all false
set_option maxRecDepth 100000
set_option maxHeartbeats 4000000
/-! We: the law's games played, crossings. -/
namespace Q
open PySem PySem.Spec PyProof.Rows L2
theorem cross_add_len (p : Nat) (a s x : Int) (g m : Nat) (cs : List (Bool × Nat)) : (crossAdd p a s x g cs m).length ≤ cs.length + (m + p) := by
  unfold crossAdd
  split
  · split <;> rw [List.length_append, List.length_replicate] <;> omega
  · omega
theorem cross_succ (p : Nat) (a s x : Int) (g : Nat) (n : Nat) (cs : List (Bool × Nat)) : (List.range (n + 1)).foldl (crossAdd p a s x g) cs = crossAdd p a s x g ((List.range n).foldl (crossAdd p a s x g) cs) n := by
  rw [List.range_succ, List.foldl_append]
  rfl
theorem cross_len (p : Nat) (a s x : Int) (g : Nat) (n : Nat) (cs : List (Bool × Nat)) : ((List.range n).foldl (crossAdd p a s x g) cs).length ≤ cs.length + n * (n + p) := by
  induction n with
  | zero => simp
  | succ n ih =>
    rw [cross_succ]
    have := cross_add_len p a s x g n ((List.range n).foldl (crossAdd p a s x g) cs)
    have e : (n + 1) * (n + 1 + p) = n * (n + p) + n + (n + 1 + p) := by
      rw [Nat.add_mul, Nat.mul_add, Nat.mul_add, Nat.mul_one, Nat.one_mul, Nat.mul_add]
      omega
    omega
theorem crossD_flat (b : Bool) (g m : Nat) : (List.replicate m [crossD (b, g)]).flatten = (List.replicate m (b, g)).map crossD := by
  induction m with
  | zero => rfl
  | succ m ih =>
    rw [List.replicate_succ, List.flatten_cons, ih]
    rfl
section
variable {P : Program} {w : World} {K : PySem.W.Frag} {mg : Str → Option Value} {base : Heap} {aC : Addr} {t1 t2 t3 t4 : Tok}
def P__law_played : List PyData → PyData → Prop := fun ds d => ∃ (t : Bool) (p : Nat) (r : List Int) (ps : List (Nat × Nat)), 1 ≤ p ∧ p ≤ 30 ∧ 1 ≤ r.length ∧ r.length ≤ 100 ∧ ps.length ≤ 100 ∧ (∀ q ∈ ps, q.1 < r.length) ∧ ds = [.int p, rowD r, seqD t (ps.map pairN)] ∧ d = playedD (played p r ps [])
theorem L__law_played : ∀ ds d, P__law_played ds d → ds.length = 3 := fun ds d ⟨_, _, _, _, _, _, _, _, _, _, h, _⟩ => by rw [h]; rfl
abbrev s__law_played : Stmt := topS 58
def N__law_played : List Str := ["_law_clock", "_law_row", "_law_sets", "_law_now", "_law_size", "_law_crossings", "_law_gap", "_law_number", "_law_step", "_law_many"]
theorem sc__law_played : FnScope N__law_played ["_law_clock", "_law_row", "_law_sets"] (defScope s__law_played) := ⟨rfl, rfl, rfl, by decide +kernel, rfl, by decide +kernel, by decide +kernel⟩
theorem ok__law_played {f : Addr} {fd : FuncData} (F : Fun K "_law_played" "_law_played" s__law_played f fd) (T : Txt K mg aC t1 t2 t3 t4) : FnOk P w K mg base L2.CX0 1 f fd ["_law_clock", "_law_row", "_law_sets"] (spP K P__law_played) := by
  refine F.ok sc__law_played (spP_len L__law_played) (fun cdv A outer s H vs Q E hr h => ?_)
  have hu64 := hr.units
  refine ⟨_, (pss_cons (ps_par3 (i := 3) (j := 4) (l := 5) rfl sc__law_played.nd rfl rfl rfl (by decide) (by decide) (by decide) rfl rfl rfl (pa_cons (pe_callTy (show CallR _ _ (rListX K) from call_list_of) (by rfl) T.list (by decide +kernel) (pa_cons (pv 1) pa_nil)) (pa_cons (pe_callB (show CallR _ _ (rLenX K) from call_len) (by rfl) T.len (by decide +kernel) (pa_cons (pv 1) pa_nil)) (pa_cons (pe_lst pa_nil) pa_nil))) rfl)
      (pss_cons (ps_for PassesOwn.never rfl (show PI _ _ _ (iSeqX K _) from pi_seqX (pv 2)) (show PG _ _ (gTup K 2 _) from pg_tup rfl (pgs_cons (pg_name (i := 6) sc__law_played.nd rfl (Or.inl rfl)) (pgs_cons (pg_name (i := 7) sc__law_played.nd rfl (Or.inl rfl)) pgs_nil))) (pss_cons (ps_set (i := 8) sc__law_played.nd rfl (Or.inl rfl) (pe_op op_mod (pe_callTy call_int1 (by rfl) T.int (by decide +kernel) (pa_cons (pe_op op_sub (pe_ix (show IxR _ (rIx K) from ix_seq) (pv 3) (pe_op op_sub (pv 6) pe_int) (fun _ _ => rfl)) (pe_ix (show IxR _ (rIx K) from ix_seq) (pv 3) (pe_op op_mod (pe_callTy call_int1 (by rfl) T.int (by decide +kernel) (pa_cons (pe_op (show OpR _ _ (rAddX K) from op_addX) (pv 6) pe_int) pa_nil)) (pv 4)) (fun _ _ => rfl))) pa_nil)) (pv 0)))
      (pss_cons (ps_if (pt_cmpR (show OpR _ _ (rEqD K) from op_eqD hu64) (pv 8) pe_int (nomark _)) (pss_one (ps_ret (pe_tup (pa_cons pe_non (pa_cons (pe_lst pa_nil) pa_nil))))) pss_nil)
      (pss_cons (ps_for PassesOwn.never rfl (pi_range1 (by rfl) T.range (pa_cons (pv 0) pa_nil)) (pg_name (i := 9) sc__law_played.nd rfl (Or.inl rfl)) (pss_one (ps_if (pt_cmpR (show OpR _ _ (rEqD K) from op_eqD hu64) (pe_op op_mod (pe_callTy call_int1 (by rfl) T.int (by decide +kernel) (pa_cons (pe_op op_sub (pe_op (show OpR _ _ (rAddX K) from op_addX) (pe_ix (show IxR _ (rIx K) from ix_seq) (pv 3) (pv 6) (fun _ _ => rfl)) (pe_op op_mulX (pv 9) (pv 8))) (pv 7)) pa_nil)) (pv 0)) pe_int (nomark _)) (pss_one (ps_set (i := 5) sc__law_played.nd rfl (Or.inl rfl) (pe_ifExp (pt_cmpR op_lt (pe_op op_mulX pe_int (pv 9)) (pv 0) (nomark _)) (pe_op (show OpR _ _ (rAddX K) from op_addX) (pv 5) (pe_op op_mulX (pe_lst (pa_cons (pe_tup (pa_cons pe_str (pa_cons (pv 6) pa_nil))) pa_nil)) (pv 9))) (pe_op (show OpR _ _ (rAddX K) from op_addX) (pv 5) (pe_op op_mulX (pe_lst (pa_cons (pe_tup (pa_cons pe_str (pa_cons (pv 6) pa_nil))) pa_nil)) (pe_op op_sub (pv 0) (pv 9))))))) pss_nil)))
      (pss_one (ps_asg (pv 7) (pg_sub (pv 3) (pv 6) set_list)))))))
      (pss_one (ps_ret (pe_tup (pa_cons (pv 3) (pa_cons (pv 5) pa_nil))))))), ?_⟩
  refine body_p (K := K) (N := N__law_played) (P := P__law_played) (fun ds d hp => ?_) vs H Q E h
  obtain ⟨t, p, r, ps, hp0, hp1, hl0, hl, hps, hin, rfl, rfl⟩ := hp
  refine ⟨Nat.le_add_left 3 7, q_par3X (Ξ := fun s1 s2 s3 M' => s1 = .l 0 ∧ s2 = .d (.int r.length) ∧ s3 = .d (.list []) ∧ M' = [.lst (r.map .int)]) (evA_cons (Ψ := fun s M' => s = .l 0 ∧ M' = [.lst (r.map .int)]) (ev_n (evn_listX (t := true) (evp_var rfl)) ⟨rfl, rfl⟩) fun s M' ⟨e1, e2⟩ => ?_) fun s1 s2 s3 M' ⟨e1, e2, e3, e4⟩ => ?_⟩
  · subst e1 e2
    refine evA_cons (Ψ := fun s M' => s = .d (.int r.length) ∧ M' = [.lst (r.map .int)]) (ev_p (evp_is (evp_lenT (evp_var rfl)) (by rw [List.length_map])) ⟨rfl, rfl⟩) fun s M' ⟨e1, e2⟩ => ?_
    subst e1 e2
    exact evA_cons (Ψ := fun s M' => s = .d (.list []) ∧ M' = [.lst (r.map .int)]) (ev_p (evp_of_new (evn_lst eva_nil (Nat.zero_le _))) ⟨rfl, rfl⟩) fun s M' ⟨e1, e2⟩ => evA_nil ⟨_, _, _, rfl, rfl, rfl, e1, e2⟩
  subst e1 e2 e3 e4
  refine q_for (ds := ps.map pairN) (fun i es M => ∃ r' cs s6 s7 s8 s9, es = [.d (.int p), .d (rowD r), .d (seqD t (ps.map pairN)), .l 0, .d (.int r.length), .d (.list (cs.map crossD)), s6, s7, s8, s9] ∧ M = [.lst (r'.map .int)] ∧ r'.length = r.length ∧ cs.length ≤ i * 2000 ∧ played p r' (ps.drop i) cs = played p r ps []) (evw_X (evp_var rfl)) ⟨r, [], _, _, _, _, rfl, rfl, rfl, Nat.zero_le _, rfl⟩ ?_ ?_
  · rintro i d es1 M1 hi ⟨r', cs, s6, s7, s8, s9, rfl, rfl, hr', hcs, hb⟩
    have hn : 0 < r'.length := by omega
    rw [List.getElem?_map] at hi
    cases hq : ps[i]? with
    | none => rw [hq] at hi; cases hi
    | some q =>
      rw [hq] at hi
      have hi : pairN q = d := Option.some.inj hi
      subst hi
      obtain ⟨h1, h2⟩ := List.getElem?_eq_some_iff.mp hq
      have hd : ps.drop i = q :: ps.drop (i + 1) := by rw [List.drop_eq_getElem_cons h1, h2]
      rw [hd] at hb
      obtain ⟨g, x⟩ := q
      have hg : g < r'.length := by rw [hr']; exact hin _ (List.mem_of_getElem? hq)
      have hst : ∀ (es : List Sl), es[3]? = some (.l 0) → es[6]? = some (.d (.int g)) → es[4]? = some (.d (.int r.length)) → True := fun _ _ _ _ => trivial
      refine ⟨_, [6, 7], gt_tup (gts_cons (gt_name (by simp)) (gts_cons (gt_name (by simp)) gts_nil)), q_asg (d := .int (stepAt r' g % (p : Int))) (evp_Ii (evp_intI (evp_I0i (evp_ixS (d := .int (cy r' (g + r'.length - 1))) (evs_var rfl rfl) (evp_I0i (evp_var rfl) evp_int) (by rw [List.length_map]; exact ixN_back hg) (cy_get hn)) (evp_ixS (d := .int (cy r' (g + 1))) (evs_var rfl rfl) (evp_Ii (evp_intI (evp_add (evp_var rfl) evp_int)) (evp_var rfl) (by omega)) (by rw [List.length_map, ← hr']; exact ixN_fwd hn) (cy_get hn)))) (evp_var rfl) (by omega)) ?_⟩
      refine q_if (b := decide (stepAt r' g % (p : Int) = 0)) (evt_is (evt_test (evp_eq (evp_var rfl) evp_int rfl rfl)) (by rw [eqv_int]; rfl)) (fun h => ?_) fun h => q_next ?_
      · have : played p r' ((g, x) :: ps.drop (i + 1)) cs = none := by
          unfold played
          rw [if_pos (of_decide_eq_true h)]
        rw [this] at hb
        rw [← hb]
        exact s_ret (evp_tup (eva_cons evp_non (eva_cons (evp_of_new (evn_lst eva_nil (Nat.zero_le _))) eva_nil)) (by show 2 ≤ 1000000; omega)) rfl
      have h0 : ¬ stepAt r' g % (p : Int) = 0 := of_decide_eq_false h
      have hstep : 0 ≤ stepAt r' g % (p : Int) ∧ stepAt r' g % (p : Int) < p := ⟨Int.emod_nonneg _ (by omega), Int.emod_lt_of_pos _ (by omega)⟩
      refine q_for (ds := (List.range p).map fun (m : Nat) => PyData.int (m : Int)) (fun k es M => ∃ s9, es = [.d (.int p), .d (rowD r), .d (seqD t (ps.map pairN)), .l 0, .d (.int r.length), .d (.list (((List.range k).foldl (crossAdd p (r'.getD g 0) (stepAt r' g % (p : Int)) (x : Int) g) cs).map crossD)), .d (.int g), .d (.int x), .d (.int (stepAt r' g % (p : Int))), s9] ∧ M = [.lst (r'.map .int)]) (evw_rn (eva_cons (evp_var rfl) eva_nil) (by omega)) ⟨_, rfl, rfl⟩ ?_ ?_
      · rintro m d es1 M1 hi ⟨s9, rfl, rfl⟩
        have hm := (List.getElem?_eq_some_iff.mp hi).1
        rw [List.length_map, List.length_range] at hm
        have hi : PyData.int (m : Int) = d := by
          rw [List.getElem?_map, List.getElem?_range hm] at hi
          exact Option.some.inj hi
        subst hi
        have cl := cross_len p (r'.getD g 0) (stepAt r' g % (p : Int)) (x : Int) g m cs
        have cl2 : m * (m + p) ≤ 30 * (30 + 30) := Nat.mul_le_mul (by omega) (by omega)
        have hi100 : i < 100 := by omega
        refine ⟨_, [9], gt_name (by simp), s_if (b := decide ((r'.getD g 0 + (m : Int) * (stepAt r' g % (p : Int)) - (x : Int)) % (p : Int) = 0)) (evt_is (evt_test (evp_eq (evp_Ii (evp_intI (evp_I0i (evp_add (evp_ixS (d := .int (r'.getD g 0)) (evs_var rfl rfl) (evp_var rfl) (by rw [List.length_map]; exact ixN_nat hg) (getD_get hg)) (evp_mul (evp_var rfl) (evp_var rfl) (Or.inl ⟨by omega, by omega⟩))) (evp_var rfl))) (evp_var rfl) (by omega)) evp_int rfl rfl)) (by rw [eqv_int]; rfl)) (fun h => ?_) fun h => s_next ?_⟩
        · have ha : crossAdd p (r'.getD g 0) (stepAt r' g % (p : Int)) (x : Int) g ((List.range m).foldl (crossAdd p (r'.getD g 0) (stepAt r' g % (p : Int)) (x : Int) g) cs) m = if 2 * m < p then (List.range m).foldl (crossAdd p (r'.getD g 0) (stepAt r' g % (p : Int)) (x : Int) g) cs ++ List.replicate m (true, g) else (List.range m).foldl (crossAdd p (r'.getD g 0) (stepAt r' g % (p : Int)) (x : Int) g) cs ++ List.replicate (p - m) (false, g) := by
            unfold crossAdd
            rw [if_pos (of_decide_eq_true h)]
          have hf := cross_succ p (r'.getD g 0) (stepAt r' g % (p : Int)) (x : Int) g m cs
          rw [ha] at hf
          refine s_asg (d := .list (((List.range (m + 1)).foldl (crossAdd p (r'.getD g 0) (stepAt r' g % (p : Int)) (x : Int) g) cs).map crossD)) (evp_if (b := decide (2 * m < p)) (evt_is (evt_test (evp_I0b (evp_mul evp_int (evp_var rfl) (Or.inl ⟨by decide, by decide⟩)) (evp_var rfl))) ?_) (fun hb2 => ?_) fun hb2 => ?_) ⟨_, Wk.refl _, _, rfl, rfl⟩
          · congr 1
            rw [eq_iff_iff]
            omega
          · rw [hf, if_pos (of_decide_eq_true hb2)]
            refine evp_is (evp_of_new (evn_cat (evs_of (evp_var rfl)) (evs_new (evn_rep (evs_new (evn_lst (eva_cons (evp_tup (eva_cons evp_str (eva_cons (evp_var rfl) eva_nil)) (by show 2 ≤ 1000000; omega)) eva_nil) (by show 1 ≤ 1000000; omega))) (evp_var rfl) (by omega) (by omega) ?_)) ?_)) ?_
            · show 1 * (m : Int).toNat ≤ 1000000
              omega
            · have := congrArg List.length (crossD_flat true g (m : Int).toNat)
              rw [List.length_map, List.length_replicate] at this
              rw [List.length_map]
              show _ + (List.replicate (m : Int).toNat [crossD (true, g)]).flatten.length ≤ 1000000
              rw [this]
              omega
            · show PyData.list (_ ++ (List.replicate (m : Int).toNat [crossD (true, g)]).flatten) = _
              rw [crossD_flat, List.map_append, Int.toNat_natCast]
          · rw [hf, if_neg (of_decide_eq_false hb2)]
            refine evp_is (evp_of_new (evn_cat (evs_of (evp_var rfl)) (evs_new (evn_rep (evs_new (evn_lst (eva_cons (evp_tup (eva_cons evp_str (eva_cons (evp_var rfl) eva_nil)) (by show 2 ≤ 1000000; omega)) eva_nil) (by show 1 ≤ 1000000; omega))) (evp_I0i (evp_var rfl) (evp_var rfl)) (by omega) (by omega) ?_)) ?_)) ?_
            · show 1 * ((p : Int) - (m : Int)).toNat ≤ 1000000
              omega
            · have := congrArg List.length (crossD_flat false g ((p : Int) - (m : Int)).toNat)
              rw [List.length_map, List.length_replicate] at this
              rw [List.length_map]
              show _ + (List.replicate ((p : Int) - (m : Int)).toNat [crossD (false, g)]).flatten.length ≤ 1000000
              rw [this]
              omega
            · show PyData.list (_ ++ (List.replicate ((p : Int) - (m : Int)).toNat [crossD (false, g)]).flatten) = _
              rw [crossD_flat, List.map_append, show ((p : Int) - (m : Int)).toNat = p - m by omega]
        · have hf : (List.range (m + 1)).foldl (crossAdd p (r'.getD g 0) (stepAt r' g % (p : Int)) (x : Int) g) cs = (List.range m).foldl (crossAdd p (r'.getD g 0) (stepAt r' g % (p : Int)) (x : Int) g) cs := by
            rw [cross_succ]
            generalize (List.range m).foldl (crossAdd p (r'.getD g 0) (stepAt r' g % (p : Int)) (x : Int) g) cs = z
            unfold crossAdd
            rw [if_neg (of_decide_eq_false h)]
          exact ⟨_, Wk.refl _, _, by rw [hf]; rfl, rfl⟩
      · rintro es1 M1 ⟨s9, rfl, rfl⟩
        rw [List.length_map, List.length_range]
        refine s_sub (evp_var rfl) rfl rfl (evp_var rfl) (by rw [List.length_map]; exact ixN_nat hg) ?_
        have cl := cross_len p (r'.getD g 0) (stepAt r' g % (p : Int)) (x : Int) g p cs
        have cl2 : p * (p + p) ≤ 30 * (30 + 30) := Nat.mul_le_mul (by omega) (by omega)
        refine ⟨_, Wk.refl _, r'.set g (x : Int), _, _, _, _, _, rfl, by rw [List.map_set]; rfl, by rw [List.length_set]; exact hr', by omega, ?_⟩
        rw [← hb]
        conv => rhs; unfold played
        rw [if_neg h0]
  · rintro es1 M1 ⟨r', cs, s6, s7, s8, s9, rfl, rfl, hr', hcs, hb⟩
    rw [List.drop_eq_nil_of_le (by rw [List.length_map]; exact Nat.le_refl _)] at hb
    rw [← hb]
    exact sx_frz (M := []) (Nat.le_refl 0) rfl (s_ret (evp_tup (eva_cons (evp_var rfl) (eva_cons (evp_var rfl) eva_nil)) (by show 2 ≤ 1000000; omega)) rfl)
def P__law_crossed : List PyData → PyData → Prop := fun ds d => ∃ (p : Nat) (r : List Int) (cs : List (Bool × Nat)), 1 ≤ p ∧ 1 ≤ r.length ∧ r.length ≤ 100 ∧ (∀ q ∈ cs, q.2 < r.length) ∧ ds = [.int p, rowD r, .list (cs.map crossD)] ∧ d = .list ((crossed p r cs).map .int)
theorem L__law_crossed : ∀ ds d, P__law_crossed ds d → ds.length = 3 := fun ds d ⟨_, _, _, _, _, _, _, h, _⟩ => by rw [h]; rfl
abbrev s__law_crossed : Stmt := topS 59
def N__law_crossed : List Str := ["_law_clock", "_law_row", "_law_crossings", "_law_now", "_law_word", "_law_gap", "_law_step"]
theorem sc__law_crossed : FnScope N__law_crossed ["_law_clock", "_law_row", "_law_crossings"] (defScope s__law_crossed) := ⟨rfl, rfl, rfl, by decide +kernel, rfl, by decide +kernel, by decide +kernel⟩
theorem ok__law_crossed {f : Addr} {fd : FuncData} (F : Fun K "_law_crossed" "_law_crossed" s__law_crossed f fd) (T : Txt K mg aC t1 t2 t3 t4) : FnOk P w K mg base L2.CX0 1 f fd ["_law_clock", "_law_row", "_law_crossings"] (spP K P__law_crossed) := by
  refine F.ok sc__law_crossed (spP_len L__law_crossed) (fun cdv A outer s H vs Q E hr h => ?_)
  have hu64 := hr.units
  refine ⟨_, (pss_cons (ps_set (i := 3) sc__law_crossed.nd rfl (Or.inl rfl) (pe_callTy (show CallR _ _ (rListX K) from call_list_of) (by rfl) T.list (by decide +kernel) (pa_cons (pv 1) pa_nil)))
      (pss_cons (ps_for PassesOwn.never rfl (show PI _ _ _ (iSeqX K _) from pi_seqX (pv 2)) (show PG _ _ (gTup K 2 _) from pg_tup rfl (pgs_cons (pg_name (i := 4) sc__law_crossed.nd rfl (Or.inl rfl)) (pgs_cons (pg_name (i := 5) sc__law_crossed.nd rfl (Or.inl rfl)) pgs_nil))) (pss_cons (ps_set (i := 6) sc__law_crossed.nd rfl (Or.inl rfl) (pe_op op_sub (pe_ix (show IxR _ (rIx K) from ix_seq) (pv 3) (pe_op op_sub (pv 5) pe_int) (fun _ _ => rfl)) (pe_ix (show IxR _ (rIx K) from ix_seq) (pv 3) (pe_op op_mod (pe_callTy call_int1 (by rfl) T.int (by decide +kernel) (pa_cons (pe_op (show OpR _ _ (rAddX K) from op_addX) (pv 5) pe_int) pa_nil)) (pe_callB (show CallR _ _ (rLenX K) from call_len) (by rfl) T.len (by decide +kernel) (pa_cons (pv 3) pa_nil))) (fun _ _ => rfl))))
      (pss_one (ps_asg (pe_op op_mod (pe_callTy call_int1 (by rfl) T.int (by decide +kernel) (pa_cons (pe_op (show OpR _ _ (rAddX K) from op_addX) (pe_ix (show IxR _ (rIx K) from ix_seq) (pv 3) (pv 5) (fun _ _ => rfl)) (pe_ifExp (pt_cmpR (show OpR _ _ (rEqD K) from op_eqD hu64) (pv 4) pe_str (nomark _)) (pv 6) (pe_un un_neg (pv 6)))) pa_nil)) (pv 0)) (pg_sub (pv 3) (pv 5) set_list)))))
      (pss_one (ps_ret (pv 3))))), ?_⟩
  refine body_p (K := K) (N := N__law_crossed) (P := P__law_crossed) (fun ds d hp => ?_) vs H Q E h
  obtain ⟨p, r, cs, hp0, hl0, hl, hin, rfl, rfl⟩ := hp
  refine ⟨Nat.le_add_left 3 4, q_asgN (evn_listX (t := true) (evp_var rfl)) ?_⟩
  refine q_for (ds := cs.map crossD) (fun i es M => ∃ r' s4 s5 s6, es = [.d (.int p), .d (rowD r), .d (.list (cs.map crossD)), .l 0, s4, s5, s6] ∧ M = [.lst (r'.map .int)] ∧ r'.length = r.length ∧ (cs.drop i).foldl (cross1 p) r' = crossed p r cs) (evw_L (evp_var rfl)) ⟨r, _, _, _, rfl, rfl, rfl, rfl⟩ ?_ ?_
  · rintro i d es1 M1 hi ⟨r', s4, s5, s6, rfl, rfl, hr', hb⟩
    have hn : 0 < r'.length := by omega
    rw [List.getElem?_map] at hi
    cases hq : cs[i]? with
    | none => rw [hq] at hi; cases hi
    | some q =>
      rw [hq] at hi
      have hi : crossD q = d := Option.some.inj hi
      subst hi
      obtain ⟨h1, h2⟩ := List.getElem?_eq_some_iff.mp hq
      have hd : cs.drop i = q :: cs.drop (i + 1) := by rw [List.drop_eq_getElem_cons h1, h2]
      rw [hd] at hb
      obtain ⟨b, g⟩ := q
      have hg : g < r'.length := by rw [hr']; exact hin _ (List.mem_of_getElem? hq)
      refine ⟨_, [4, 5], gt_tup (gts_cons (gt_name (by simp)) (gts_cons (gt_name (by simp)) gts_nil)), q_asg (d := .int (stepAt r' g)) (evp_I0i (evp_ixS (d := .int (cy r' (g + r'.length - 1))) (evs_var rfl rfl) (evp_I0i (evp_var rfl) evp_int) (by rw [List.length_map]; exact ixN_back hg) (cy_get hn)) (evp_ixS (d := .int (cy r' (g + 1))) (evs_var rfl rfl) (evp_Ii (evp_intI (evp_add (evp_var rfl) evp_int)) (evp_lenS (evs_var rfl rfl)) (by rw [List.length_map]; omega)) (by rw [List.length_map]; exact ixN_fwd hn) (cy_get hn))) ?_⟩
      refine s_sub (d := .int ((r'.getD g 0 + (if b then stepAt r' g else -stepAt r' g)) % (p : Int))) (evp_Ii (evp_intI (evp_add (evp_ixS (d := .int (r'.getD g 0)) (evs_var rfl rfl) (evp_var rfl) (by rw [List.length_map]; exact ixN_nat hg) (getD_get hg)) (evp_if (b := b) (evt_is (evt_test (evp_eq (evp_var rfl) evp_str ?_ (by decide +kernel))) ?_) (fun hb => ?_) fun hb => ?_))) (evp_var rfl) (by omega)) rfl rfl (evp_var rfl) (by rw [List.length_map]; exact ixN_nat hg) ⟨_, Wk.refl _, r'.set g ((r'.getD g 0 + (if b then stepAt r' g else -stepAt r' g)) % (p : Int)), _, _, _, rfl, by rw [List.map_set]; rfl, by rw [List.length_set]; exact hr', hb⟩
      · cases b
        · show SeqAt.shaped (.str "under") = true
          decide +kernel
        · show SeqAt.shaped (.str "over") = true
          decide +kernel
      · cases b
        · show PyData.eqv (.str "under") (.str "over") = false
          decide +kernel
        · show PyData.eqv (.str "over") (.str "over") = true
          decide +kernel
      · subst hb
        exact evp_var rfl
      · subst hb
        exact evp_neg (evp_var rfl)
  · rintro es1 M1 ⟨r', s4, s5, s6, rfl, rfl, hr', hb⟩
    rw [List.drop_eq_nil_of_le (by rw [List.length_map]; exact Nat.le_refl _)] at hb
    rw [← hb]
    exact sx_frz (M := []) (Nat.le_refl 0) rfl (s_ret (evp_var rfl) rfl)
end
end Q
end
section
set_option Elab.async false
set_option linter.all false
set_option maxRecDepth 100000
set_option maxHeartbeats 8000000
set_option autoImplicit false
/-! Wu: the law. -/
namespace Q
open PySem PySem.Spec PyProof.Rows L2
/-! what plain mathematics must tell -/
def gapOk (p n : Nat) (qs : List (Nat × Nat)) : Prop := ∀ q ∈ qs, q.1 < n ∧ q.2 < p
def toI (q : Nat × Nat) : Int × Int := ((q.1 : Nat), (q.2 : Nat))
/-- the game that is told for a row -/
structure Told (p n : Nat) (r : List Int) (qs : List (Nat × Nat)) (r' : List Int) (cs : List (Bool × Nat)) : Prop where
  ok : GameOk p n r
  sets : (gameIn p r).sets.map gpD = qs.map pairN
  gaps : gapOk p n qs
  len : qs.length + 7 ≤ 3 * n
  played : played p r qs [] = some (r', cs)
  near : lstrange r' ≠ []
  crossed : crossed p r cs = r'
  short : cs.length * 2 ≤ qs.length * (p - 1)
  row : RowOk p n r'
  cgaps : ∀ c ∈ cs, c.2 < n
structure PlainLaw : Prop where
  told : ∀ (p n : Nat) (r : List Int), P3 p → 4 ≤ n → n ≤ 10 → n % 2 = 0 → RowOk p n r → lchess r = false → ∃ qs r' cs, Told p n r qs r' cs
  few : ∀ (p n : Nat) (r : List Int), P3 p → FewOk p n r → lchess r = false → (n = 4 ∨ p = 3) → ∃ k, IsDist p r k ∧ k ≤ 8 ∧ ∀ (qs : List (Nat × Nat)) r' cs, gapOk p n qs → played p r qs [] = some (r', cs) → lstrange r' ≠ [] → k ≤ qs.length
  shown : ∀ (p n : Nat) (r : List Int) (qs : List (Nat × Nat)), P3 p → 4 ≤ n → n ≤ 10 → n % 2 = 0 → RowOk p n r → gapOk p n qs → showsB p r (qs.map toI) = match played p r qs [] with
    | some (r', _) => !(lstrange r').isEmpty
    | none => false
  rim : ∀ (p n : Nat) (xs : List Deed), P3 p → 4 ≤ n → n ≤ 10 → n % 2 = 0 → Lv n xs 0 → xs.length ≤ 30 → (∃ e ∈ throughOf p n xs, lchess e = false) ∧ (∀ e ∈ throughOf p n xs, RowOk p n e) ∧ (throughOf p n xs).length ≤ 100 ∧
    ∀ e ∈ throughOf p n xs, ∀ qs r' cs, Told p n e qs r' cs → ∀ g gs, lstrange r' = g :: gs → ∀ e2 ∈ throughOf p n xs, cy (crossed p e2 cs) (g + n - 1) = cy (crossed p e2 cs) (g + 1)
section
variable {P : Program} {w : World} {K : PySem.W.Frag} {mg : Str → Option Value} {base : Heap} {aC aL aX : Addr} {t1 t2 t3 t4 : Tok}
def flatM : MO → Bool
  | .ins _ fs => fs.all fun f => match f.2 with
    | .d _ => true
    | _ => false
  | _ => true
theorem flat_low {n : Nat} {m : MO} (h : flatM m = true) : m.low n = true := by
  cases m with
  | lst ds => rfl
  | dct kvs => rfl
  | ins C fs =>
    unfold flatM at h
    unfold MO.low
    rw [List.all_eq_true] at h ⊢
    intro f hf
    have := h f hf
    split at this
    · rename_i e
      rw [e]
      rfl
    · cases this
def GM (M : List MO) (t : Nat) : Prop := Dr M 0 t ∧ M.all flatM = true
theorem GM.mono {M : List MO} {t u : Nat} (h : GM M t) (hu : t ≤ u) : GM M u := ⟨h.1.mono hu, h.2⟩
theorem GM.dw {M M' : List MO} {t j : Nat} (h : GM M t) (hw : Dw M M' 0 j) (ht : t + j ≤ 60000) : GM M' (t + j) := by
  obtain ⟨⟨m, rfl⟩, f⟩ := hw
  refine ⟨f t ht h.1, ?_⟩
  have h2 := h.2
  rw [List.all_eq_true] at h2 ⊢
  intro x hx
  rcases List.mem_or_eq_of_mem_set hx with hx | rfl
  · exact h2 x hx
  · rfl
theorem GM.snoc {M : List MO} {t : Nat} {m : MO} (h : GM M t) (hm : flatM m = true) : GM (M ++ [m]) t := ⟨h.1.app, by rw [List.all_append, h.2]; simp [hm]⟩
theorem GM.low {M : List MO} {t n : Nat} (h : GM M t) : M.all (MO.low n) = true := by
  have := h.2
  rw [List.all_eq_true] at this ⊢
  exact fun m hm => flat_low (this m hm)
theorem GM.dwS {M M'' : List MO} {t j : Nat} {l : MO} (h : GM M t) (hl : flatM l = true) (hw : Dw (M ++ [l]) M'' 0 j) (ht : t + j ≤ 60000) : ∃ M1, M'' = M1 ++ [l] ∧ M1.length = M.length ∧ GM M1 (t + j) := by
  have h0 : 0 < M.length := by
    obtain ⟨c, a, b, h1, _⟩ := h.1
    exact (List.getElem?_eq_some_iff.mp h1).1
  have hz := (h.snoc hl).dw hw ht
  obtain ⟨⟨m, rfl⟩, f⟩ := hw
  rw [List.set_append_left _ _ h0] at hz ⊢
  refine ⟨_, rfl, List.length_set, ?_, ?_⟩
  · obtain ⟨c, a, b, h1, h2⟩ := hz.1
    rw [List.getElem?_append_left (by rw [List.length_set]; exact h0)] at h1
    exact ⟨c, a, b, h1, h2⟩
  · have h2 := hz.2
    rw [List.all_append, Bool.and_eq_true] at h2
    exact h2.1
theorem GM.lt {M : List MO} {t : Nat} (h : GM M t) : 0 < M.length := by
  obtain ⟨c, a, b, h1, _⟩ := h.1
  exact (List.getElem?_eq_some_iff.mp h1).1
/-- one draw behind M and a list that is being made -/
theorem ev_manG {es : List Sl} {M : List MO} {te : TE} {t many : Nat} {E : XK} (hx : es[1]? = some (.l 0)) (hm : 1 ≤ many ∧ many ≤ 100) (h : EvP K te es M (.int many)) (hG : GM M t) (ht : t ≤ 5000) : Ev K (tCall (spM K Pre__law_man Post__law_man) [] E (tCons (tVar 1) (tCons te tNil))) es M fun s M' => ∃ v : Nat, v < many ∧ s = .d (.int v) ∧ Dw M M' 0 1 := by
  refine ev_callAll (evA_cons (Ψ := fun s M' => s = .l 0 ∧ M' = M) (ev_var hx (by simp) ⟨rfl, rfl⟩) fun s M' ⟨e1, e2⟩ => ?_)
  rw [e1, e2]
  refine evA_cons (Ψ := fun s M' => s = .d (.int many) ∧ M' = M) (ev_p h ⟨rfl, rfl⟩) fun s M' ⟨e1, e2⟩ => evA_nil ?_
  rw [e1, e2]
  refine ⟨⟨0, many, t, rfl, hm.1, by omega, hG.1, by omega⟩, fun s M' ⟨k', many', v, e3, hv, e4, hw⟩ => ?_⟩
  simp only [List.cons.injEq, Sl.l.injEq, Sl.d.injEq, PyData.int.injEq, and_true] at e3
  obtain ⟨e3, e5⟩ := e3
  have e5 : many = many' := by omega
  subst e3 e5
  exact ⟨v, hv, e4, hw⟩
/-- a Led made of data -/
theorem ev_led {es : List Sl} {M : List MO} {te : TE} {d e : PyData} {E : XK} (h : EvP K te es M d) (hf : P_fixed 3 [d] e) : Ev K (tMake aL (spM K (Pre_Led aL) (Post_Led aL)) [] E (tCons te tNil)) es M fun s M' => s = .l M.length ∧ M' = M ++ [.ins aL (lf e)] := by
  refine ev_make (evA_cons (Ψ := fun s M' => s = .d d ∧ M' = M) (ev_p h ⟨rfl, rfl⟩) fun s M' ⟨e1, e2⟩ => ?_)
  subst e1 e2
  refine evA_nil ⟨⟨M'.length, _, _, rfl, by simp, hf⟩, fun s M'' ⟨h1, k, d', e', h2, h3, h4⟩ => ⟨h1, rfl, ?_⟩⟩
  simp only [List.cons.injEq, Sl.l.injEq, Sl.d.injEq, and_true] at h2
  obtain ⟨h2, h5⟩ := h2
  subst h2 h5
  rw [h4, List.set_append_right _ _ (Nat.le_refl _), Nat.sub_self, fix_uniq 3 _ _ _ h3 hf]
  rfl
theorem pairD_inj : ∀ {a b : List (Int × Int)}, a.map pairD = b.map pairD → a = b
  | [], [], _ => rfl
  | [], _ :: _, h => by cases h
  | _ :: _, [], h => by cases h
  | (x, y) :: a, (x', y') :: b, h => by
    rw [List.map_cons, List.map_cons] at h
    injection h with h1 h2
    unfold pairD at h1
    simp only [PyData.tuple.injEq, List.cons.injEq, PyData.int.injEq, and_true] at h1
    rw [h1.1, h1.2, pairD_inj h2]
/-- shows_ring(p, r, Led(..)) -/
theorem ev_shows {es : List Sl} {M : List MO} {tp tr te : TE} {p : Nat} {r : List Int} {ps : List (Int × Int)} {d : PyData} {E1 E2 : XK} (hp : EvP K tp es M (.int p)) (hr : EvP K tr es M (rowD r)) (h : EvP K te es M d) (hf : P_fixed 3 [d] (.tuple (ps.map pairD))) (hl : ps.length ≤ 1000) (hok : okRow p r) :
    Ev K (tCall (spM K (Pre_shows_ring aL) (Post_shows_ring aL)) [] E1 (tCons tp (tCons tr (tCons (tMake aL (spM K (Pre_Led aL) (Post_Led aL)) [] E2 (tCons te tNil)) tNil)))) es M fun s M' => s = .d (.bool (showsB p r ps)) ∧ M' = M ++ [.ins aL (lf (.tuple (ps.map pairD)))] := by
  refine ev_callAll (evA_cons (Ψ := fun s M' => s = .d (.int p) ∧ M' = M) (ev_p hp ⟨rfl, rfl⟩) fun s M' ⟨e1, e2⟩ => ?_)
  rw [e1, e2]
  refine evA_cons (Ψ := fun s M' => s = .d (rowD r) ∧ M' = M) (ev_p hr ⟨rfl, rfl⟩) fun s M' ⟨e1, e2⟩ => ?_
  rw [e1, e2]
  refine evA_cons (ev_led h hf) fun s M' ⟨e1, e2⟩ => evA_nil ?_
  rw [e1, e2]
  have hat : (M ++ [MO.ins aL (lf (.tuple (ps.map pairD)))])[M.length]? = some (.ins aL (lf (.tuple (ps.map pairD)))) := by simp
  refine ⟨⟨p, M.length, r, ps, hok, hl, rfl, hat⟩, fun s M'' ⟨h1, p', k', r', ps', h2, h3, h4⟩ => ⟨?_, h1⟩⟩
  simp only [List.cons.injEq, Sl.l.injEq, Sl.d.injEq, PyData.int.injEq, and_true] at h2
  obtain ⟨h2, h5, h6⟩ := h2
  have h2 : p = p' := by omega
  have h5 : r = r' := by
    unfold rowD at h5
    injection h5 with h5
    exact ints_inj h5
  subst h2 h5 h6
  rw [hat] at h3
  injection h3 with h3
  injection h3 with _ h3
  unfold lf at h3
  simp only [List.cons.injEq, Prod.mk.injEq, Sl.d.injEq, PyData.tuple.injEq, and_true, true_and] at h3
  rw [h4, pairD_inj h3.2]
theorem fix_pn {qs : List (Nat × Nat)} (h : qs.length ≤ 1000) : P_fixed 3 [.list (qs.map pairN)] (.tuple ((qs.map toI).map pairD)) := by
  have e : (qs.map toI).map pairD = (qs.map fun q => (q.1, (q.2 : Int))).map gpD := by
    rw [List.map_map, List.map_map]
    rfl
  have e2 : qs.map pairN = (qs.map fun q => (q.1, (q.2 : Int))).map gpD := by
    rw [List.map_map]
    rfl
  rw [e, e2]
  exact fix_gp (t := false) (by rw [List.length_map]; exact h)
theorem eqv_bool (a b : Bool) : PyData.eqv (.bool a) (.bool b) = (a == b) := by
  cases a <;> cases b <;> simp [PyData.eqv]
theorem played_len {p : Nat} : ∀ {qs : List (Nat × Nat)} {r r' : List Int} {cs cs' : List (Bool × Nat)}, played p r qs cs = some (r', cs') → r'.length = r.length
  | [], r, r', cs, cs', h => by
    unfold played at h
    cases h
    rfl
  | q :: qs, r, r', cs, cs', h => by
    unfold played at h
    split at h
    · cases h
    · rw [played_len h, List.length_set]
theorem crossed_len {p : Nat} : ∀ {cs : List (Bool × Nat)} {r : List Int}, (crossed p r cs).length = r.length
  | [], r => rfl
  | c :: cs, r => by
    show (crossed p (cross1 p r c) cs).length = r.length
    rw [crossed_len]
    unfold cross1
    rw [List.length_set]
theorem near_chess {r : List Int} (h : chessIn r = true) : near r = false := by
  unfold chessIn at h
  rw [Bool.and_eq_true] at h
  unfold near oneOff
  rw [h.1, h.2]
  rfl
theorem chess_two {r : List Int} (h : r.length = 2) : lchess r = true := by
  rw [chess_iff (by omega)]
  refine ⟨fun i hi hc => ?_, fun i hi hc => ?_⟩
  · have : i = 0 := by omega
    rw [this]
  · have : i = 1 := by omega
    rw [this]
def Pre_law : List Sl → List MO → Prop := fun ss M => M = [] ∧ ∃ ns : List Int, ss = [.s ns] ∧ ns.length ≤ 63
def Post_law : List Sl → List MO → Sl → List MO → Prop := fun ss M s M' => s = .d (.bool true)
theorem L_law : ∀ ss M, Pre_law ss M → ss.length = 1 := fun ss M ⟨_, _, h, _⟩ => by rw [h]; rfl
def pnLast : List (Nat × Nat) := [(3, 4), (5, 6), (7, 8), (3, 10)]
/-- a plain callee, its arguments made on the way -/
theorem ev_callP {es : List Sl} {M : List MO} {tr : TA} {Pz : List PyData → PyData → Prop} {E : XK} {Φ : Sl → List MO → Prop} (h : EvA K tr es M fun ss M' => ∃ ds d, ss = ds.map Sl.d ∧ Pz ds d ∧ Φ (.d d) M') : Ev K (tCall (spP K Pz) [] E tr) es M Φ := fun G H as σ R S Q q =>
  h G H as σ R S _ fun ss M1 vs G1 H1 as1 ⟨ds, d, e, p, k⟩ s1 R1 a1 => by
    show spP K Pz (vs ++ []) H1 Q E
    rw [List.append_nil]
    subst e
    exact ⟨G1, ds, d, R1.ex, SlsAt.data a1, p, fun v G' H' s b => q _ M1 v G' H' as1 k (s1.trans s.step) (R1.stepP s) ⟨v, rfl, b⟩⟩
theorem ev_ix0 {es : List Sl} {M : List MO} {ta : TE} {Φ : Sl → List MO → Prop} (ha : Ev K ta es M fun s M' => ∃ ds d, s = .d (.tuple ds) ∧ ds[0]? = some d ∧ Φ (.d d) M') : Ev K (tOp (rIx K) ta (tC (.int 0))) es M Φ := fun G H as σ R S Q q =>
  ha G H as σ R S _ fun s M1 v G1 H1 as1 ⟨ds, d, e, hd, p⟩ s1 R1 a1 => by
    subst e
    obtain ⟨w, ew, aw⟩ := a1
    cases ew
    have hv : EvP K (tOp (rIx K) (tVar 0) (tC (.int 0))) [.d (.tuple ds)] M1 d := evp_ixT (evp_var rfl) evp_int (by have := (List.getElem?_eq_some_iff.mp hd).1; unfold ixN; rw [if_pos (by omega), if_pos (by omega)]; rfl) hd
    have S1 : SlotsAt K G1 as1 [.d (.tuple ds)] [some v] := ⟨rfl, fun i e o h1 h2 => by
      cases i with
      | zero =>
        cases h1
        cases h2
        exact ⟨v, rfl, aw⟩
      | succ i =>
        rw [List.getElem?_cons_succ] at h1
        cases h1⟩
    have hz := hv G1 H1 as1 [some v] R1 S1 Q fun u G' H' s b => q _ M1 u G' H' as1 p (s1.trans s.step) (R1.stepP s) ⟨u, rfl, b⟩
    obtain ⟨x, ex, hz⟩ := hz
    cases ex
    exact hz
def pnList : List (Nat × Nat) := [(3, 4), (5, 4), (7, 4), (3, 6), (3, 2)]
abbrev s_law : Stmt := topS 60
def N_law : List Str := ["_law_script", "_law_draughts_here", "_law_turn", "_law_clock", "_law_size", "_law_row", "_law_told", "_law_behind", "_law_crossings", "_law_few", "_law_sets", "_law_mine", "_law_ends", "_law_rows", "_law_some", "_law_gap", "_law_led", "_law_pair", "_law_each"]
theorem sc_law : FnScope N_law ["_law_script"] (defScope s_law) := ⟨rfl, rfl, rfl, by decide +kernel, rfl, by decide +kernel, by decide +kernel⟩
theorem ok_law {f : Addr} {fd : FuncData} (F : Fun K "law" "law" s_law f fd) (T : Txt K mg aC t1 t2 t3 t4) (C__law_draughts : Callee P w K mg base "_law_draughts" 1 ["_law_script"] (spM K Pre__law_draughts Post__law_draughts)) (C__law_man : Callee P w K mg base "_law_man" 1 ["_law_draughts_here", "_law_many"] (spM K Pre__law_man Post__law_man)) (C__law_pick : Callee P w K mg base "_law_pick" 2 ["_law_draughts_here", "_law_some"] (spM K Pre__law_pick Post__law_pick)) (C__law_deeds : Callee P w K mg base "_law_deeds" 4 ["_law_draughts_here", "_law_ends", "_law_long", "_law_most"] (spM K Pre__law_deeds Post__law_deeds)) (C__law_is_chess : Callee P w K mg base "_law_is_chess" 1 ["_law_row"] (spP K P__law_is_chess)) (C__law_strange : Callee P w K mg base "_law_strange" 2 ["_law_row"] (spP K P__law_strange)) (C__law_played : Callee P w K mg base "_law_played" 1 ["_law_clock", "_law_row", "_law_sets"] (spP K P__law_played)) (C__law_crossed : Callee P w K mg base "_law_crossed" 1 ["_law_clock", "_law_row", "_law_crossings"] (spP K P__law_crossed)) (C__law_fewest : Callee P w K mg base "_law_fewest" 3 ["_law_clock", "_law_row"] (spP K P__law_fewest)) (C__law_through : Callee P w K mg base "_law_through" 3 ["_law_clock", "_law_ends", "_law_deeds_here"] (spP K P__law_through)) (C_fewest_sets : Callee P w K mg base "fewest_sets" 7 ["clock", "row"] (spP K P_fewest_sets)) (C_judged_ring : Callee P w K mg base "judged_ring" 9 ["clock", "row"] (spM K Pre_judged_ring (Post_judged_ring aL aX))) (C_shows_ring : Callee P w K mg base "shows_ring" 7 ["clock", "row", "value"] (spM K (Pre_shows_ring aL) (Post_shows_ring aL))) (K_Led : MakeC P w K mg base "Led" aL 7 ["self", "sets"] (spM K (Pre_Led aL) (Post_Led aL))) (PL : PlainLaw) (clL : Cls K aL) (naS : NoAttr K aL "sets") (bL : BoolC P w K mg base aL 1 true) (bX : BoolC P w K mg base aX 1 false) : FnOk P w K mg base L2.CX0 10 f fd ["_law_script"] (spM K Pre_law Post_law) := by
  refine F.ok sc_law (spM_len L_law) (fun cdv A outer s H vs Q E hr h => ?_)
  have hu64 := hr.units
  refine ⟨_, (pss_cons (ps_set (i := 1) sc_law.nd rfl (Or.inr rfl) (pe_callC C__law_draughts hr (by decide) (by rfl) (pa_cons (pv 0) pa_nil)))
      (pss_cons (ps_for PassesOwn.never rfl (pi_range1 (by rfl) T.range (pa_cons pe_int pa_nil)) (pg_name (i := 2) sc_law.nd rfl (Or.inl rfl)) (pss_cons (ps_asg (pe_callC C__law_pick hr (by decide) (by rfl) (pa_cons (pv 1) (pa_cons (pe_lst (pa_cons (pe_tup (pa_cons pe_int (pa_cons pe_int pa_nil))) (pa_cons (pe_tup (pa_cons pe_int (pa_cons pe_int pa_nil))) (pa_cons (pe_tup (pa_cons pe_int (pa_cons pe_int pa_nil))) (pa_cons (pe_tup (pa_cons pe_int (pa_cons pe_int pa_nil))) (pa_cons (pe_tup (pa_cons pe_int (pa_cons pe_int pa_nil))) pa_nil)))))) pa_nil))) (show PG _ _ (gTup K 2 _) from pg_tup rfl (pgs_cons (pg_name (i := 3) sc_law.nd rfl (Or.inr rfl)) (pgs_cons (pg_name (i := 4) sc_law.nd rfl (Or.inr rfl)) pgs_nil))))
      (pss_cons (ps_set (i := 5) sc_law.nd rfl (Or.inr rfl) (pe_callTy (show CallR _ _ (rTupX K) from call_tuple_of) (by rfl) T.tuple (by decide +kernel) (pa_cons (pe_lc (own := [("_law_gap", 15)]) rfl sc_law.nd (pi_range1 (by rfl) T.range (pa_cons (pv 4) pa_nil)) (blkOk_by (own := [("_law_gap", 15)]) (N := N_law) (sc := defScope s_law) (by decide +kernel)) (fun _ _ _ _ _ => (pg_name (i := 15) sc_law.nd rfl (Or.inl rfl))) (fun _ _ _ _ _ => pts_nil) (fun _ _ _ _ _ => (pe_callC C__law_man hr (by decide) (by rfl) (pa_cons (pv 1) (pa_cons (pv 3) pa_nil))))) pa_nil)))
      (pss_cons (ps_if (pt_cmpR (show OpR _ _ (rEqD K) from op_eqD hu64) (pe_callC C__law_man hr (by decide) (by rfl) (pa_cons (pv 1) (pa_cons pe_int pa_nil))) pe_int (nomark _)) (pss_one (ps_set (i := 5) sc_law.nd rfl (Or.inr rfl) (pe_callTy (show CallR _ _ (rTupX K) from call_tuple_of) (by rfl) T.tuple (by decide +kernel) (pa_cons (pe_lc (own := [("_law_gap", 15)]) rfl sc_law.nd (pi_range1 (by rfl) T.range (pa_cons (pv 4) pa_nil)) (blkOk_by (own := [("_law_gap", 15)]) (N := N_law) (sc := defScope s_law) (by decide +kernel)) (fun _ _ _ _ _ => (pg_name (i := 15) sc_law.nd rfl (Or.inl rfl))) (fun _ _ _ _ _ => pts_nil) (fun _ _ _ _ _ => (pe_ix (show IxR _ (rIx K) from ix_seq) (pv 5) (pe_op op_mod (pe_callTy call_int1 (by rfl) T.int (by decide +kernel) (pa_cons (pv 15) pa_nil)) pe_int) (fun _ _ => rfl)))) pa_nil)))) pss_nil)
      (pss_cons (ps_set (i := 6) sc_law.nd rfl (Or.inl rfl) (pe_callC C_judged_ring hr (by decide) (by rfl) (pa_cons (pv 3) (pa_cons (pv 5) pa_nil))))
      (pss_cons (ps_if (pt_val (pe_callC C__law_is_chess hr (by decide) (by rfl) (pa_cons (pv 5) pa_nil))) (pss_cons (ps_if (PW.pt (pw_or (pt_paper (j := 1) hr (by decide) (pv 6)) (pw_or (pt_cmpR op_notN (pe_callC C_fewest_sets hr (by decide) (by rfl) (pa_cons (pv 3) (pa_cons (pv 5) pa_nil))) pe_non (nomark _)) (pw_or1 (pt_val (pe_callC C_shows_ring hr (by decide) (by rfl) (pa_cons (pv 3) (pa_cons (pv 5) (pa_cons (pe_makeC K_Led hr (by decide) (by rfl) (pa_cons (pe_tup pa_nil) pa_nil)) pa_nil))))))))) (pss_one (ps_ret pe_bl)) pss_nil)
      (pss_one ps_continue)) pss_nil)
      (pss_cons (ps_asg (pe_callC C__law_played hr (by decide) (by rfl) (pa_cons (pv 3) (pa_cons (pv 5) (pa_cons (show PE _ _ (tFld K _ _) from pe_fld (pv 6) rfl) pa_nil)))) (show PG _ _ (gTup K 2 _) from pg_tup rfl (pgs_cons (pg_name (i := 7) sc_law.nd rfl (Or.inl rfl)) (pgs_cons (pg_name (i := 8) sc_law.nd rfl (Or.inr rfl)) pgs_nil))))
      (pss_cons (ps_if (PW.pt (pw_or (pt_not (pt_paper (j := 1) hr (by decide) (pv 6))) (pw_or (pt_cmpR op_isN (pv 7) pe_non (nomark _)) (pw_or (pt_cmpR (show OpR _ _ (rEqD K) from op_eqD hu64) (pe_callC C__law_strange hr (by decide) (by rfl) (pa_cons (pv 7) pa_nil)) (pe_lst pa_nil) (nomark _)) (pw_or1 (pt_cmpR (show OpR _ _ (rNeD K) from op_neD hu64) (pe_callC C__law_crossed hr (by decide) (by rfl) (pa_cons (pv 3) (pa_cons (pv 5) (pa_cons (pv 8) pa_nil)))) (pv 7) (nomark _))))))) (pss_one (ps_ret pe_bl)) pss_nil)
      (pss_cons (ps_set (i := 9) sc_law.nd rfl (Or.inl rfl) (pe_callC C__law_fewest hr (by decide) (by rfl) (pa_cons (pv 3) (pa_cons (pv 5) pa_nil))))
      (pss_cons (ps_if (PW.pt (pw_or (pt_cmpR (show OpR _ _ (rNeD K) from op_neD hu64) (pe_callC C_fewest_sets hr (by decide) (by rfl) (pa_cons (pv 3) (pa_cons (pv 5) pa_nil))) (pv 9) (nomark _)) (pw_or (pt_cmpR op_gt (pv 9) (pe_callB (show CallR _ _ (rLenX K) from call_len) (by rfl) T.len (by decide +kernel) (pa_cons (show PE _ _ (tFld K _ _) from pe_fld (pv 6) rfl) pa_nil)) (nomark _)) (pw_or (pt_cmpR op_gt (pe_callB (show CallR _ _ (rLenX K) from call_len) (by rfl) T.len (by decide +kernel) (pa_cons (show PE _ _ (tFld K _ _) from pe_fld (pv 6) rfl) pa_nil)) (pe_op op_sub (pe_op op_mulX pe_int (pv 4)) pe_int) (nomark _)) (pw_or1 (pt_cmpR op_gt (pe_op op_mulX (pe_callB (show CallR _ _ (rLenX K) from call_len) (by rfl) T.len (by decide +kernel) (pa_cons (pv 8) pa_nil)) pe_int) (pe_op op_mulX (pe_callB (show CallR _ _ (rLenX K) from call_len) (by rfl) T.len (by decide +kernel) (pa_cons (show PE _ _ (tFld K _ _) from pe_fld (pv 6) rfl) pa_nil)) (pe_op op_sub (pv 3) pe_int)) (nomark _))))))) (pss_one (ps_ret pe_bl)) pss_nil)
      (pss_cons (ps_setLc (i := 10) (own := [("_law_pair", 17)]) rfl sc_law.nd rfl rfl (sw_true rfl rfl rfl (by decide +kernel)) (pi_range1 (by rfl) T.range (pa_cons (pe_callC C__law_pick hr (by decide) (by rfl) (pa_cons (pv 1) (pa_cons (pe_lst (pa_cons pe_int (pa_cons pe_int (pa_cons pe_int (pa_cons (pv 9) pa_nil))))) pa_nil))) pa_nil)) (blkOk_by (own := [("_law_pair", 17)]) (N := N_law) (sc := defScope s_law) (by decide +kernel)) (fun _ _ _ _ _ => (pg_name (i := 17) sc_law.nd rfl (Or.inl rfl))) (fun _ _ _ _ _ => pts_nil) (fun _ _ _ _ _ => (pe_tup (pa_cons (pe_callC C__law_man hr (by decide) (by rfl) (pa_cons (pv 1) (pa_cons (pv 4) pa_nil))) (pa_cons (pe_callC C__law_man hr (by decide) (by rfl) (pa_cons (pv 1) (pa_cons (pv 3) pa_nil))) pa_nil)))))
      (pss_cons (ps_set (i := 11) sc_law.nd rfl (Or.inl rfl) (pe_ix (show IxR _ (rIx K) from ix_seq) (pe_callC C__law_played hr (by decide) (by rfl) (pa_cons (pv 3) (pa_cons (pv 5) (pa_cons (pv 10) pa_nil)))) pe_int (fun _ _ => rfl)))
      (pss_one (ps_if (PW.pt (pw_or (pt_cmpR (show OpR _ _ (rNeD K) from op_neD hu64) (pe_callC C_shows_ring hr (by decide) (by rfl) (pa_cons (pv 3) (pa_cons (pv 5) (pa_cons (pe_makeC K_Led hr (by decide) (by rfl) (pa_cons (pv 10) pa_nil)) pa_nil)))) (pe_and (pe_cmpR op_notN (pv 11) pe_non (nomark _)) (pe_one (pe_cmpR (show OpR _ _ (rNeD K) from op_neD hu64) (pe_callC C__law_strange hr (by decide) (by rfl) (pa_cons (pv 11) pa_nil)) (pe_lst pa_nil) (nomark _)))) (nomark _)) (pw_or1 (PW.pt (pw_and (pt_cmpR op_notN (pv 11) pe_non (nomark _)) (pw_and (pt_cmpR (show OpR _ _ (rNeD K) from op_neD hu64) (pe_callC C__law_strange hr (by decide) (by rfl) (pa_cons (pv 11) pa_nil)) (pe_lst pa_nil) (nomark _)) (pw_and1 (pt_cmpR op_lt (pe_callB (show CallR _ _ (rLenX K) from call_len) (by rfl) T.len (by decide +kernel) (pa_cons (pv 10) pa_nil)) (pv 9) (nomark _))))))))) (pss_one (ps_ret pe_bl)) pss_nil))))))))))))))
      (pss_cons (ps_asg (pe_callC C__law_pick hr (by decide) (by rfl) (pa_cons (pv 1) (pa_cons (pe_lst (pa_cons (pe_tup (pa_cons pe_int (pa_cons pe_int pa_nil))) (pa_cons (pe_tup (pa_cons pe_int (pa_cons pe_int pa_nil))) (pa_cons (pe_tup (pa_cons pe_int (pa_cons pe_int pa_nil))) (pa_cons (pe_tup (pa_cons pe_int (pa_cons pe_int pa_nil))) pa_nil))))) pa_nil))) (show PG _ _ (gTup K 2 _) from pg_tup rfl (pgs_cons (pg_name (i := 3) sc_law.nd rfl (Or.inr rfl)) (pgs_cons (pg_name (i := 12) sc_law.nd rfl (Or.inr rfl)) pgs_nil))))
      (pss_cons (ps_set (i := 13) sc_law.nd rfl (Or.inl rfl) (pe_ix (show IxR _ (rIx K) from ix_seq) (pe_callC C__law_through hr (by decide) (by rfl) (pa_cons (pv 3) (pa_cons (pv 12) (pa_cons (pe_callC C__law_deeds hr (by decide) (by rfl) (pa_cons (pv 1) (pa_cons (pv 12) (pa_cons pe_int (pa_cons pe_int pa_nil))))) pa_nil)))) pe_int (fun _ _ => rfl)))
      (pss_cons (ps_setLc (i := 14) (own := [("_law_row", 5)]) rfl sc_law.nd rfl rfl (sw_true rfl rfl rfl (by decide +kernel)) (show PI _ _ _ (iSeqX K _) from pi_seqX (pv 13)) (blkOk_by (own := [("_law_row", 5)]) (N := N_law) (sc := defScope s_law) (by decide +kernel)) (fun _ _ _ _ _ => (pg_name (i := 5) sc_law.nd rfl (Or.inl rfl))) (fun _ _ _ _ _ => (pts_one (pt_not (pt_val (pe_callC C__law_is_chess hr (by decide) (by rfl) (pa_cons (pv 5) pa_nil)))))) (fun _ _ _ _ _ => (pv 5)))
      (pss_cons (ps_set (i := 5) sc_law.nd rfl (Or.inr rfl) (pe_callC C__law_pick hr (by decide) (by rfl) (pa_cons (pv 1) (pa_cons (pv 14) pa_nil))))
      (pss_cons (ps_set (i := 10) sc_law.nd rfl (Or.inl rfl) (show PE _ _ (tFld K _ _) from pe_fld (pe_callC C_judged_ring hr (by decide) (by rfl) (pa_cons (pv 3) (pa_cons (pv 5) pa_nil))) rfl))
      (pss_cons (ps_asg (pe_callC C__law_played hr (by decide) (by rfl) (pa_cons (pv 3) (pa_cons (pv 5) (pa_cons (pv 10) pa_nil)))) (show PG _ _ (gTup K 2 _) from pg_tup rfl (pgs_cons (pg_name (i := 7) sc_law.nd rfl (Or.inl rfl)) (pgs_cons (pg_name (i := 8) sc_law.nd rfl (Or.inr rfl)) pgs_nil))))
      (pss_cons (ps_if (PW.pt (pw_or (pt_cmpR op_isN (pv 7) pe_non (nomark _)) (pw_or (pt_cmpR (show OpR _ _ (rEqD K) from op_eqD hu64) (pe_callC C__law_strange hr (by decide) (by rfl) (pa_cons (pv 7) pa_nil)) (pe_lst pa_nil) (nomark _)) (pw_or1 (pt_cmpR op_gt (pe_callB (show CallR _ _ (rLenX K) from call_len) (by rfl) T.len (by decide +kernel) (pa_cons (pv 10) pa_nil)) (pe_op op_sub (pe_op op_mulX pe_int (pv 12)) pe_int) (nomark _)))))) (pss_one (ps_ret pe_bl)) pss_nil)
      (pss_cons (ps_set (i := 15) sc_law.nd rfl (Or.inr rfl) (pe_ix (show IxR _ (rIx K) from ix_seq) (pe_callC C__law_strange hr (by decide) (by rfl) (pa_cons (pv 7) pa_nil)) pe_int (fun _ _ => rfl)))
      (pss_cons (ps_setLc (i := 16) (own := [("_law_each", 18)]) rfl sc_law.nd rfl rfl (sw_true rfl rfl rfl (by decide +kernel)) (show PI _ _ _ (iSeqX K _) from pi_seqX (pv 13)) (blkOk_by (own := [("_law_each", 18)]) (N := N_law) (sc := defScope s_law) (by decide +kernel)) (fun _ _ _ _ _ => (pg_name (i := 18) sc_law.nd rfl (Or.inl rfl))) (fun _ _ _ _ _ => pts_nil) (fun _ _ _ _ _ => (pe_callC C__law_crossed hr (by decide) (by rfl) (pa_cons (pv 3) (pa_cons (pv 18) (pa_cons (pv 8) pa_nil))))))
      (pss_one (ps_ret (pe_cmpR (show OpR _ _ (rEqD K) from op_eqD hu64) (pe_lc (own := [("_law_each", 18)]) rfl sc_law.nd (show PI _ _ _ (iSeqX K _) from pi_seqX (pv 16)) (blkOk_by (own := [("_law_each", 18)]) (N := N_law) (sc := defScope s_law) (by decide +kernel)) (fun _ _ _ _ _ => (pg_name (i := 18) sc_law.nd rfl (Or.inl rfl))) (fun _ _ _ _ _ => (pts_one (pt_cmpR (show OpR _ _ (rNeD K) from op_neD hu64) (pe_ix (show IxR _ (rIx K) from ix_seq) (pv 18) (pe_op op_sub (pv 15) pe_int) (fun _ _ => rfl)) (pe_ix (show IxR _ (rIx K) from ix_seq) (pv 18) (pe_op op_mod (pe_callTy call_int1 (by rfl) T.int (by decide +kernel) (pa_cons (pe_op (show OpR _ _ (rAddX K) from op_addX) (pv 15) pe_int) pa_nil)) (pv 12)) (fun _ _ => rfl)) (nomark _)))) (fun _ _ _ _ _ => (pv 18))) (pe_lst pa_nil) (nomark _))))))))))))))), ?_⟩
  refine body_m (K := K) (N := N_law) (Pre := Pre_law) (Post := Post_law) (fun ss M hp => ?_) vs H Q E h
  obtain ⟨rfl, ns, rfl, hns⟩ := hp
  refine ⟨by show 1 ≤ 19; omega, q_asgX (Ξ := fun s M' => s = .l 0 ∧ GM M' 0) (ev_callAll (evA_cons (Ψ := fun s M' => s = .s ns ∧ M' = []) (ev_var rfl (by simp) ⟨rfl, rfl⟩) fun s M' ⟨e1, e2⟩ => ?_)) fun s M' ⟨e1, hG⟩ => ?_⟩
  · rw [e1, e2]
    refine evA_nil ⟨⟨ns, rfl, by omega⟩, fun s M'' ⟨h1, m, h2, h3⟩ => ⟨h1, h2 ▸ h3, ?_⟩⟩
    obtain ⟨c, a, b, h4, _⟩ := h3
    rw [h2] at h4 ⊢
    have h4 : some m = some (MO.lst [.list (c.map .int), .int a, .int b]) := h4
    cases h4
    rfl
  subst e1
  refine q_for (ds := (List.range 2).map fun (i : Nat) => PyData.int (i : Int)) (fun i es M1 => ∃ s2 s3 s4 s5 s6 s7 s8 s9 s10 s11 s12 s13 s14 s15 s16 s17 s18, es = [.s ns, .l 0, s2, s3, s4, s5, s6, s7, s8, s9, s10, s11, s12, s13, s14, s15, s16, s17, s18] ∧ GM M1 (100 * i)) (evw_is (evw_r1 (eva_cons evp_int eva_nil) (by decide) (by decide)) (rgD_natT 2)) ⟨_, _, _, _, _, _, _, _, _, _, _, _, _, _, _, _, _, rfl, hG⟩ ?_ ?_
  · rintro i d es1 M1 hi ⟨s2, s3, s4, s5, s6, s7, s8, s9, s10, s11, s12, s13, s14, s15, s16, s17, s18, rfl, hG1⟩
    have hi2 := (List.getElem?_eq_some_iff.mp hi).1
    rw [List.length_map, List.length_range] at hi2
    have hi : PyData.int (i : Int) = d := by
      rw [List.getElem?_map, List.getElem?_range hi2] at hi
      exact Option.some.inj hi
    subst hi
    refine ⟨_, [2], gt_name (by simp), ?_⟩
    -- the clock and the size
    refine q_asgTX (Ξ := fun d M2 => ∃ q ∈ pnList, d = .tuple [.int (q.1 : Nat), .int (q.2 : Nat)] ∧ GM M2 (100 * i + 1)) (ev_callAll (evA_cons (Ψ := fun s M' => s = .l 0 ∧ M' = M1) (ev_var rfl (by simp) ⟨rfl, rfl⟩) fun s M' ⟨e1, e2⟩ => ?_)) ?_
    · rw [e1, e2]
      refine evA_cons (Ψ := fun s M' => s = .d (.list (pnList.map fun q => .tuple [.int (q.1 : Nat), .int (q.2 : Nat)])) ∧ M' = M1) (ev_p (evp_of_new (evn_lst (eva_cons (evp_tup (eva_cons evp_int (eva_cons evp_int eva_nil)) (by show 2 ≤ 1000000; omega)) (eva_cons (evp_tup (eva_cons evp_int (eva_cons evp_int eva_nil)) (by show 2 ≤ 1000000; omega)) (eva_cons (evp_tup (eva_cons evp_int (eva_cons evp_int eva_nil)) (by show 2 ≤ 1000000; omega)) (eva_cons (evp_tup (eva_cons evp_int (eva_cons evp_int eva_nil)) (by show 2 ≤ 1000000; omega)) (eva_cons (evp_tup (eva_cons evp_int (eva_cons evp_int eva_nil)) (by show 2 ≤ 1000000; omega)) eva_nil))))) (by show 5 ≤ 1000000; omega))) ⟨rfl, rfl⟩) fun s M' ⟨e1, e2⟩ => evA_nil ?_
      rw [e1, e2]
      refine ⟨⟨0, _, _, rfl, by show 1 ≤ 5; omega, by show 5 ≤ 1000; omega, hG1.1, by omega⟩, fun s M' ⟨k', ds', d', e3, hd, e4, hw⟩ => ?_⟩
      simp only [List.cons.injEq, Sl.l.injEq, Sl.d.injEq, PyData.list.injEq, and_true] at e3
      obtain ⟨e3, e5⟩ := e3
      subst e3 e5
      obtain ⟨q, hq, rfl⟩ := List.mem_map.mp hd
      exact ⟨_, e4, q, hq, rfl, hG1.dw hw (by omega)⟩
    rintro d2 M2 ⟨⟨p, n⟩, hpn, rfl, hG2⟩
    have hpn' : P3 p ∧ 1 ≤ p ∧ p ≤ 7 ∧ 2 ≤ n ∧ n ≤ 6 ∧ n % 2 = 0 ∧ p ^ n ≤ 2500 ∧ isClk p = true ∧ (n = 4 ∨ p = 3) := by
      simp only [pnList, List.mem_cons, Prod.mk.injEq, List.not_mem_nil, or_false] at hpn
      rcases hpn with ⟨rfl, rfl⟩ | ⟨rfl, rfl⟩ | ⟨rfl, rfl⟩ | ⟨rfl, rfl⟩ | ⟨rfl, rfl⟩ <;> refine ⟨by unfold P3; omega, by omega, by omega, by omega, by omega, by omega, by decide, by decide, by omega⟩
    obtain ⟨hp3, hp1, hp7, hn2, hn6, hev, hpow, hclk, hn4p⟩ := hpn'
    refine ⟨_, [3, 4], gt_tup (gts_cons (gt_name (by simp)) (gts_cons (gt_name (by simp)) gts_nil)), ?_⟩
    -- the row
    refine q_asgX (Ξ := fun s M3 => ∃ r, s = .d (rowD r) ∧ RowOk p n r ∧ GM M3 (100 * i + 1 + n)) (ev_tupL (ev_lcX (fun ds j acc M0 => ∃ xs : List Int, ds.length = n ∧ acc = xs.map .int ∧ xs.length = j ∧ inR p xs ∧ GM M0 (100 * i + 1 + j)) (evwx_of (evw_rn (n := n) (eva_cons (evp_var rfl) eva_nil) (by omega)) ⟨by rw [List.length_map, List.length_range]; omega, [], by rw [List.length_map, List.length_range], rfl, rfl, (fun x hx => by cases hx), hG2⟩) ?_ ?_ ?_)) ?_
    · rintro ds j acc M0 ⟨xs, hds, rfl, hj, hin, hg⟩ d hd
      have hjl := (List.getElem?_eq_some_iff.mp hd).1
      refine ⟨_, gt_name (by simp), ev_mono (ev_manG rfl ⟨hp1, by omega⟩ (evp_var rfl) (hg.snoc (m := .lst (xs.map .int)) rfl) (by omega)) fun s M'' ⟨v, hv, e, hw⟩ => ?_⟩
      obtain ⟨M1', e2, e3, e4⟩ := hg.dwS rfl hw (by omega)
      refine ⟨.int v, M1', e, e2, e3, xs ++ [(v : Int)], hds, by rw [List.map_append]; rfl, by rw [List.length_append, List.length_singleton, hj], fun x hx => ?_, e4⟩
      rcases List.mem_append.mp hx with hx | hx
      · exact hin x hx
      · rw [List.mem_singleton.mp hx]
        omega
    · rintro ds j acc M0 ⟨xs, hds, rfl, hj, _⟩
      rw [List.length_map, hj]
    · rintro ds acc M0 ⟨xs, hds, rfl, hj, hin, hg⟩
      exact ⟨M0.length, xs.map .int, rfl, by simp, xs, rfl, ⟨hj.trans hds, hin⟩, (hg.snoc rfl).mono (by omega)⟩
    rintro s5 M3 ⟨r0, rfl, hr0, hG3⟩
    refine sx_seq (Ψ := fun o => ∃ r M4, o = .nx [.s ns, .l 0, .d (.int i), .d (.int p), .d (.int n), .d (rowD r), s6, s7, s8, s9, s10, s11, s12, s13, s14, s15, s16, s17, s18] M4 ∧ RowOk p n r ∧ GM M4 (100 * i + 2 + n)) (s_ifX (Ξ := fun _ M4 => GM M4 (100 * i + 2 + n)) (evtx_test (ev_eq (ev_mono (ev_manG rfl ⟨by decide, by decide⟩ evp_int hG3 (by omega)) fun s M4 ⟨v, hv, e, hw⟩ => ⟨.int v, .int 0, e, evp_int, rfl, rfl, _, rfl, (hG3.dw hw (by omega)).mono (by omega)⟩))) (fun M4 hG4 => ?_) (fun M4 hG4 => s_next ⟨r0, M4, rfl, hr0, hG4⟩)) ?_
    · refine s_asg (evp_tupS (evs_new (evn_lcy (List.range n) (fun (g : Nat) => PyData.int (g : Int)) (fun g => PyData.int (r0.getD (g % 2) 0)) (evw_rn (eva_cons (evp_var rfl) eva_nil) (by omega)) (by rw [List.length_range]; omega) fun g hg => ⟨_, gt_name (by simp), evp_ixT (j := g % 2) (evp_var rfl) (evp_Ii (evp_intI (evp_var rfl)) evp_int (by decide)) ?_ (getD_get (by rw [hr0.1]; have := Nat.mod_lt g (show 0 < 2 by omega); omega))⟩))) ⟨(List.range n).map fun g => r0.getD (g % 2) 0, M4, ?_, ⟨by rw [List.length_map, List.length_range], fun x hx => ?_⟩, hG4⟩
      · rw [List.length_map, hr0.1]
        have := Nat.mod_lt g (show 0 < 2 by omega)
        exact ixN_nat (g := g % 2) (by omega)
      · unfold rowD
        rw [List.map_map]
        rfl
      · obtain ⟨g, _, rfl⟩ := List.mem_map.mp hx
        have := Nat.mod_lt g (show 0 < 2 by omega)
        have hl := hr0.1
        rw [List.getD_eq_getElem?_getD, List.getElem?_eq_getElem (by omega)]
        exact hr0.2 _ (List.getElem_mem _)
    rintro o ⟨r, M4, rfl, hr, hG4⟩
    have hok : okRow p r := by
      refine ⟨by rw [hr.1]; omega, by rw [hr.1]; omega, by rw [hr.1]; exact hev, ?_, hclk⟩
      unfold inRow
      rw [List.all_eq_true]
      intro x hx
      have := hr.2 x hx
      simp
      omega
    have hch : chessIn r = lchess r := chessIn_eq (by rw [hr.1]; omega)
    have hn4 : lchess r = false → 4 ≤ n := fun hc => by
      rcases Nat.lt_or_ge n 4 with z | z
      · rw [chess_two (by rw [hr.1]; omega)] at hc
        cases hc
      · exact z
    -- what is told
    refine q_asgX (Ξ := fun s M5 => s = .l M4.length ∧ M5 = M4 ++ [paperOf aL aX p r]) (ev_callAll (evA_cons (Ψ := fun s M' => s = .d (.int p) ∧ M' = M4) (ev_p (evp_var rfl) ⟨rfl, rfl⟩) fun s M' ⟨e1, e2⟩ => ?_)) ?_
    · rw [e1, e2]
      refine evA_cons (Ψ := fun s M' => s = .d (rowD r) ∧ M' = M4) (ev_p (evp_var rfl) ⟨rfl, rfl⟩) fun s M' ⟨e1, e2⟩ => evA_nil ?_
      rw [e1, e2]
      refine ⟨⟨p, n, r, hok, fun hc => ?_, rfl⟩, fun s M' ⟨p', r', e3, e4, e5⟩ => ?_⟩
      · obtain ⟨qs, r', cs, T⟩ := PL.told p n r hp3 (hn4 (hch ▸ hc)) (by omega) hev hr (hch ▸ hc)
        refine ⟨T.ok, ?_⟩
        have := congrArg List.length T.sets
        rw [List.length_map, List.length_map] at this
        have := T.len
        omega
      · simp only [List.cons.injEq, Sl.d.injEq, PyData.int.injEq, and_true] at e3
        obtain ⟨e3, e6⟩ := e3
        have e3 : p = p' := by omega
        have e6 : r = r' := by
          unfold rowD at e6
          injection e6 with e6
          exact ints_inj e6
        subst e3 e6
        exact ⟨e4, e5⟩
    rintro s5 M5 ⟨rfl, rfl⟩
    have hat : (M4 ++ [paperOf aL aX p r])[M4.length]? = some (paperOf aL aX p r) := by simp
    have hpf : flatM (paperOf aL aX p r) = true := by
      unfold paperOf
      split <;> rfl
    have hG5 := hG4.snoc hpf
    -- is it a chess row?
    refine q_if (b := lchess r) (evt_test (evp_call (eva_cons (evp_var rfl) eva_nil) ⟨true, r, by rw [hr.1]; omega, by rw [hr.1]; omega, rfl, rfl⟩)) (fun hc => ?_) fun hc => ?_
    · rw [show paperOf aL aX p r = .ins aX cf by unfold paperOf; rw [hch, if_pos hc]] at hat hG5 ⊢
      refine sx_assoc (q_ifX (Ξ := fun b M6 => b = false ∧ GM M6 (100 * i + 2 + n)) (evtx_or (a := false) (evt_paper rfl hat bX) (fun _ => evtx_or (a := false) (evt_is (evt_test (evp_notN (evp_call (eva_cons (evp_var rfl) (eva_cons (evp_var rfl) eva_nil)) ⟨p, n, r, hok, hp1, by omega, hr.1, hpow, rfl, .inl ⟨hch.trans hc, rfl⟩⟩))) rfl) (fun _ => evtx_test (ev_mono (ev_shows (ps := []) (evp_var rfl) (evp_var rfl) (evp_tup eva_nil (Nat.zero_le _)) (fix_gp (t := true) (xs := []) (Nat.zero_le _)) (Nat.zero_le _) hok) fun s M6 ⟨e1, e2⟩ => ⟨_, e1, ?_, ?_⟩)) fun z => by cases z) fun z => by cases z) (fun M6 z => by cases z.1) fun M6 z => ?_)
      · unfold showsB behind
        exact near_chess (hch.trans hc)
      · rw [e2]
        exact hG5.snoc rfl
      · exact q_next (q_cont ⟨_, Wk.refl _, _, _, _, _, _, _, _, _, _, _, _, _, _, _, _, _, _, rfl, z.2.mono (by omega)⟩)
    · obtain ⟨qs, r', cs, T⟩ := PL.told p n r hp3 (hn4 hc) (by omega) hev hr hc
      rw [show paperOf aL aX p r = .ins aL (lf (.tuple (qs.map pairN))) by unfold paperOf; rw [hch, if_neg (by rw [hc]; decide), T.sets]] at hat hG5 ⊢
      have hn4 := hn4 hc
      have hfo : FewOk p n r := ⟨hp1, hp7, hn4, hn6, hev, hpow, hr⟩
      obtain ⟨k, hD, hk8, hkm⟩ := PL.few p n r hp3 hfo hc hn4p
      have hlen := T.len
      have hql : qs.length ≤ 11 := by omega
      refine q_next (q_asgT (d := .tuple [.list (r'.map .int), .list (cs.map crossD)]) (evp_is (evp_call (eva_cons (evp_var rfl) (eva_cons (evp_var rfl) (eva_cons (evp_fld rfl hat clL naS lf_sets) eva_nil))) ⟨true, p, r, qs, hp1, by omega, by rw [hr.1]; omega, by rw [hr.1]; omega, by omega, fun q hq => by rw [hr.1]; exact (T.gaps q hq).1, rfl, rfl⟩) (by rw [T.played]; rfl)) (vs := [7, 8]) (gt_tup (gts_cons (gt_name (by simp)) (gts_cons (gt_name (by simp)) gts_nil))) ?_)
      have hcl : cs.length ≤ 100 := by
        have := T.short
        have h2 : qs.length * (p - 1) ≤ 11 * 6 := Nat.mul_le_mul hql (by omega)
        omega
      refine q_if (b := false) (evt_is (evt_or (a := false) (b := false) (evt_is (evt_not (evt_paper rfl hat bL)) rfl) fun _ => evt_is (evt_or (a := false) (b := false) (evt_is (evt_test (evp_isN (evp_var rfl))) rfl) fun _ => evt_is (evt_or (a := false) (b := false) (evt_is (evt_test (evp_eq (evp_call (eva_cons (evp_var rfl) eva_nil) ⟨false, r', by rw [T.row.1]; omega, by rw [T.row.1]; omega, rfl, rfl⟩) (evp_of_new (evn_lst eva_nil (Nat.zero_le _))) shaped_nats rfl)) ?_) fun _ => evt_is (evt_test (evp_ne (evp_call (eva_cons (evp_var rfl) (eva_cons (evp_var rfl) (eva_cons (evp_var rfl) eva_nil))) ⟨p, r, cs, hp1, by rw [hr.1]; omega, by rw [hr.1]; omega, fun c hc => by rw [hr.1]; exact T.cgaps c hc, rfl, rfl⟩) (evp_var rfl) ?_ ?_)) ?_) rfl) rfl) rfl) (fun z => by cases z) fun _ => q_next ?_
      · rw [eqv_nil]
        cases hs : lstrange r' with
        | nil => exact absurd hs T.near
        | cons g gs => rfl
      · exact shaped_ints _
      · exact shaped_ints _
      · rw [eqv_ints, T.crossed]
        simp
      -- the fewest
      refine q_asg (evp_call (eva_cons (evp_var rfl) (eva_cons (evp_var rfl) eva_nil)) ⟨p, n, k, r, hfo, hD, hk8, rfl, rfl⟩) ?_
      have hkq : k ≤ qs.length := hkm qs r' cs T.gaps T.played T.near
      have hp' : ((p : Int) - 1) = ((p - 1 : Nat) : Int) := by omega
      refine q_if (b := false) (evt_is (evt_or (a := false) (b := false) (evt_is (evt_test (evp_ne (evp_call (eva_cons (evp_var rfl) (eva_cons (evp_var rfl) eva_nil)) ⟨p, n, r, hok, hp1, by omega, hr.1, hpow, rfl, .inr ⟨hch.trans hc, hfo, k, hD, rfl⟩⟩) (evp_var rfl) rfl rfl)) (by rw [eqv_int]; simp)) fun _ => evt_is (evt_or (a := false) (b := false) (evt_is (evt_test (evp_I0b (evp_var rfl) (evp_lenT (evp_fld rfl hat clL naS lf_sets)))) ?_) fun _ => evt_is (evt_or (a := false) (b := false) (evt_is (evt_test (evp_I0b (evp_lenT (evp_fld rfl hat clL naS lf_sets)) (evp_I0i (evp_mul evp_int (evp_var rfl) ?_) evp_int))) ?_) fun _ => evt_is (evt_test (evp_I0b (evp_mul (evp_lenS (evs_of (evp_var rfl))) evp_int ?_) (evp_mul (evp_lenT (evp_fld rfl hat clL naS lf_sets)) (evp_I0i (evp_var rfl) evp_int) ?_))) ?_) rfl) rfl) rfl) (fun z => by cases z) fun _ => q_next ?_
      · rw [List.length_map]
        exact decide_eq_false (by omega)
      · exact .inl ⟨by omega, by omega⟩
      · rw [List.length_map]
        exact decide_eq_false (by omega)
      · rw [List.length_map]
        exact .inl ⟨by omega, by omega⟩
      · rw [List.length_map]
        exact .inl ⟨by omega, by omega⟩
      · rw [List.length_map, List.length_map, hp']
        refine decide_eq_false ?_
        have := T.short
        have h2 : (cs.length : Int) * 2 ≤ (qs.length : Int) * ((p - 1 : Nat) : Int) := by exact_mod_cast this
        omega
      -- a game drawn by hand
      refine q_asgX (Ξ := fun s M6 => ∃ qs2 : List (Nat × Nat), s = .d (.list (qs2.map pairN)) ∧ gapOk p n qs2 ∧ qs2.length ≤ 8 ∧ GM M6 (100 * i + 30)) (ev_frz (ev_lcX (fun ds j acc M0 => ∃ qs2 : List (Nat × Nat), ds.length ≤ 8 ∧ acc = qs2.map pairN ∧ qs2.length = j ∧ gapOk p n qs2 ∧ GM M0 (100 * i + 3 + n + 2 * j) ∧ M4.length + 1 = M0.length) (evwx_r1 (evA_cons (Ψ := fun s M' => ∃ v : Nat, v ≤ 8 ∧ s = .d (.int v) ∧ GM M' (100 * i + 3 + n) ∧ M4.length + 1 = M'.length) ?_ fun s M' ⟨v, hv, e1, hg, hml⟩ => ?_)) ?_ ?_ ?_)) ?_
      · refine ev_callAll (evA_cons (Ψ := fun s M' => s = .l 0 ∧ M' = M4 ++ [.ins aL (lf (.tuple (qs.map pairN)))]) (ev_var rfl (by simp) ⟨rfl, rfl⟩) fun s M' ⟨e1, e2⟩ => ?_)
        rw [e1, e2]
        refine evA_cons (Ψ := fun s M' => s = .d (.list (([1, 2, 0, k] : List Nat).map fun (v : Nat) => .int (v : Int))) ∧ M' = M4 ++ [.ins aL (lf (.tuple (qs.map pairN)))]) (ev_p (evp_of_new (evn_lst (eva_cons evp_int (eva_cons evp_int (eva_cons evp_int (eva_cons (evp_var rfl) eva_nil)))) (by show 4 ≤ 1000000; omega))) ⟨rfl, rfl⟩) fun s M' ⟨e1, e2⟩ => evA_nil ?_
        rw [e1, e2]
        refine ⟨⟨0, _, _, rfl, by show 1 ≤ 4; omega, by show 4 ≤ 1000; omega, hG5.1, by omega⟩, fun s M' ⟨k', ds', d', e3, hd, e4, hw⟩ => ?_⟩
        simp only [List.cons.injEq, Sl.l.injEq, Sl.d.injEq, PyData.list.injEq, and_true] at e3
        obtain ⟨e3, e5⟩ := e3
        subst e3 e5
        obtain ⟨v, hv, rfl⟩ := List.mem_map.mp hd
        refine ⟨v, ?_, e4, (hG5.dw hw (by omega)).mono (by omega), ?_⟩
        · simp only [List.mem_cons, List.not_mem_nil, or_false] at hv
          omega
        · obtain ⟨⟨m, rfl⟩, _⟩ := hw
          rw [List.length_set, List.length_append]
          rfl
      · exact evA_nil ⟨v, by rw [e1], by omega, by rw [List.length_map, rgD_len]; omega, [], by rw [List.length_map, rgD_len]; exact hv, rfl, rfl, (fun q hq => by cases hq), hg, hml⟩
      · rintro ds j acc M0 ⟨qs2, hds, rfl, hj, hgap, hg, hml⟩ d hd
        have hjl := (List.getElem?_eq_some_iff.mp hd).1
        refine ⟨_, gt_name (by simp), ev_tup (evA_cons (ev_manG rfl ⟨by omega, by omega⟩ (evp_var rfl) (hg.snoc (m := .lst (qs2.map pairN)) rfl) (by omega)) fun s M'' ⟨v, hv, e, hw⟩ => ?_)⟩
        obtain ⟨M1', e2, e3, e4⟩ := hg.dwS rfl hw (by omega)
        rw [e, e2]
        refine evA_cons (ev_manG rfl ⟨hp1, by omega⟩ (evp_var rfl) (e4.snoc (m := .lst (qs2.map pairN)) rfl) (by omega)) fun s M8 ⟨v2, hv2, e5, hw2⟩ => ?_
        obtain ⟨M2', e6, e7, e8⟩ := e4.dwS rfl hw2 (by omega)
        rw [e5, e6]
        refine evA_nil ⟨[.int v, .int v2], rfl, by show 2 ≤ 1000000; omega, _, M2', rfl, rfl, by omega, qs2 ++ [(v, v2)], hds, by rw [List.map_append]; rfl, by rw [List.length_append, List.length_singleton, hj], fun q hq => ?_, e8.mono (by omega), by omega⟩
        rcases List.mem_append.mp hq with hq | hq
        · exact hgap q hq
        · rw [List.mem_singleton.mp hq]
          exact ⟨hv, hv2⟩
      · rintro ds j acc M0 ⟨qs2, hds, rfl, hj, _⟩
        rw [List.length_map, hj]
      · rintro ds acc M0 ⟨qs2, hds, rfl, hj, hgap, hg, hml⟩
        exact ⟨M0, qs2.map pairN, rfl, rfl, by rw [List.length_append, List.length_singleton]; omega, hg.low, qs2, rfl, hgap, by omega, hg.mono (by omega)⟩
      rintro s6 M6 ⟨qs2, rfl, hgap2, hql2, hG6⟩
      have hsh := PL.shown p n r qs2 hp3 hn4 (by omega) hev hr hgap2
      have hpl : P__law_played [.int p, rowD r, .list (qs2.map pairN)] (playedD (played p r qs2 [])) := ⟨false, p, r, qs2, hp1, by omega, by rw [hr.1]; omega, by rw [hr.1]; omega, by omega, fun q hq => by rw [hr.1]; exact (hgap2 q hq).1, rfl, rfl⟩
      cases hm : played p r qs2 [] with
      | none =>
        rw [hm] at hsh hpl
        refine q_asg (d := .none) (evp_ixT (ds := [.none, .list []]) (evp_call (eva_cons (evp_var rfl) (eva_cons (evp_var rfl) (eva_cons (evp_var rfl) eva_nil))) hpl) evp_int rfl rfl) ?_
        refine s_ifX (Ξ := fun b M7 => b = false ∧ GM M7 (100 * i + 30)) (evtx_orX (evtx_test (ev_ne (ev_mono (ev_shows (evp_var rfl) (evp_var rfl) (evp_var rfl) (fix_pn (qs := qs2) (by omega)) (by rw [List.length_map]; omega) hok) fun s M7 ⟨e1, e2⟩ => ⟨_, .bool false, e1, evp_is (evp_andV (b := false) (evp_notN (evp_var rfl)) fun z => by cases z) rfl, rfl, rfl, _, rfl, ?_⟩)))) (fun M7 z => by cases z.1) (fun M7 z => s_next ⟨_, Wk.refl _, _, _, _, _, _, _, _, _, _, _, _, _, _, _, _, _, _, rfl, z.2.mono (by omega)⟩)
        rw [hsh, eqv_bool]
        rw [e2]
        exact evt_p (evt_is (evt_and (a := false) (b := false) (evt_test (evp_is (evp_notN (x := .none) (evp_var rfl)) rfl)) (fun z => by cases z)) rfl) ⟨rfl, hG6.snoc rfl⟩
      | some rc =>
        obtain ⟨r2, cs2⟩ := rc
        rw [hm] at hsh hpl
        have hl2 : r2.length = n := (played_len hm).trans hr.1
        have hkm2 := hkm qs2 r2 cs2 hgap2 hm
        have hst : ∀ {M : List MO} {es : List Sl} {te tz : TE} {E : XK}, EvP K te es M (.list (r2.map .int)) → EvP K tz es M (.list []) → EvP K (tOp (rNeD K) (tCall (spP K P__law_strange) [] E (tCons te tNil)) tz) es M (.bool (!(lstrange r2).isEmpty)) := fun h1 h2 => evp_is (evp_ne (evp_call (eva_cons h1 eva_nil) ⟨false, r2, by omega, by omega, rfl, rfl⟩) h2 shaped_nats rfl) (by rw [eqv_nil]; cases lstrange r2 <;> rfl)
        refine q_asg (d := .list (r2.map .int)) (evp_ixT (ds := [.list (r2.map .int), .list (cs2.map crossD)]) (evp_call (eva_cons (evp_var rfl) (eva_cons (evp_var rfl) (eva_cons (evp_var rfl) eva_nil))) hpl) evp_int rfl rfl) ?_
        refine s_ifX (Ξ := fun b M7 => b = false ∧ GM M7 (100 * i + 30)) (evtx_orX (evtx_test (ev_ne (ev_mono (ev_shows (evp_var rfl) (evp_var rfl) (evp_var rfl) (fix_pn (qs := qs2) (by omega)) (by rw [List.length_map]; omega) hok) fun s M7 ⟨e1, e2⟩ => ⟨_, .bool (!(lstrange r2).isEmpty), e1, evp_is (evp_andV (a := true) (evp_is (evp_notN (x := .list (r2.map .int)) (evp_var rfl)) rfl) fun _ => hst (evp_var rfl) (evp_of_new (evn_lst eva_nil (Nat.zero_le _)))) (by rw [Bool.true_and]), rfl, rfl, _, rfl, ?_⟩)))) (fun M7 z => by cases z.1) (fun M7 z => s_next ⟨_, Wk.refl _, _, _, _, _, _, _, _, _, _, _, _, _, _, _, _, _, _, rfl, z.2.mono (by omega)⟩)
        rw [hsh, eqv_bool]
        rw [e2, beq_self_eq_true]
        refine evt_p (evt_is (evt_and (a := true) (evt_test (evp_is (evp_notN (x := .list (r2.map .int)) (evp_var rfl)) rfl)) fun _ => evt_and (evt_test (hst (evp_var rfl) (evp_of_new (evn_lst eva_nil (Nat.zero_le _))))) fun _ => evt_test (evp_I0b (evp_lenS (evs_of (evp_var rfl))) (evp_var rfl))) ?_) ⟨rfl, hG6.snoc rfl⟩
        rw [List.length_map]
        cases hls : lstrange r2 with
        | nil => rfl
        | cons g gs =>
          have := hkm2 (by rw [hls]; simp)
          show (true && (true && decide ((qs2.length : Int) < k))) = false
          rw [decide_eq_false (by omega)]
          rfl
  · rintro es1 M1 ⟨s2, s3, s4, s5, s6, s7, s8, s9, s10, s11, s12, s13, s14, s15, s16, s17, s18, rfl, hG1⟩
    have hG1 : GM M1 200 := hG1.mono (by rw [List.length_map, List.length_range]; omega)
    refine q_asgTX (Ξ := fun d M2 => ∃ q ∈ pnLast, d = .tuple [.int (q.1 : Nat), .int (q.2 : Nat)] ∧ GM M2 201) (ev_callAll (evA_cons (Ψ := fun s M' => s = .l 0 ∧ M' = M1) (ev_var rfl (by simp) ⟨rfl, rfl⟩) fun s M' ⟨e1, e2⟩ => ?_)) ?_
    · rw [e1, e2]
      refine evA_cons (Ψ := fun s M' => s = .d (.list (pnLast.map fun q => .tuple [.int (q.1 : Nat), .int (q.2 : Nat)])) ∧ M' = M1) (ev_p (evp_of_new (evn_lst (eva_cons (evp_tup (eva_cons evp_int (eva_cons evp_int eva_nil)) (by show 2 ≤ 1000000; omega)) (eva_cons (evp_tup (eva_cons evp_int (eva_cons evp_int eva_nil)) (by show 2 ≤ 1000000; omega)) (eva_cons (evp_tup (eva_cons evp_int (eva_cons evp_int eva_nil)) (by show 2 ≤ 1000000; omega)) (eva_cons (evp_tup (eva_cons evp_int (eva_cons evp_int eva_nil)) (by show 2 ≤ 1000000; omega)) eva_nil)))) (by show 4 ≤ 1000000; omega))) ⟨rfl, rfl⟩) fun s M' ⟨e1, e2⟩ => evA_nil ?_
      rw [e1, e2]
      refine ⟨⟨0, _, _, rfl, by show 1 ≤ 4; omega, by show 4 ≤ 1000; omega, hG1.1, by omega⟩, fun s M' ⟨k', ds', d', e3, hd, e4, hw⟩ => ?_⟩
      simp only [List.cons.injEq, Sl.l.injEq, Sl.d.injEq, PyData.list.injEq, and_true] at e3
      obtain ⟨e3, e5⟩ := e3
      subst e3 e5
      obtain ⟨q, hq, rfl⟩ := List.mem_map.mp hd
      exact ⟨_, e4, q, hq, rfl, hG1.dw hw (by omega)⟩
    rintro d2 M2 ⟨⟨p, n⟩, hpn, rfl, hG2⟩
    have hpn' : P3 p ∧ 1 ≤ p ∧ p ≤ 7 ∧ 4 ≤ n ∧ n ≤ 10 ∧ n % 2 = 0 ∧ isClk p = true := by
      simp only [pnLast, List.mem_cons, Prod.mk.injEq, List.not_mem_nil, or_false] at hpn
      rcases hpn with ⟨rfl, rfl⟩ | ⟨rfl, rfl⟩ | ⟨rfl, rfl⟩ | ⟨rfl, rfl⟩ <;> refine ⟨by unfold P3; omega, by omega, by omega, by omega, by omega, by omega, by decide⟩
    obtain ⟨hp3, hp1, hp7, hn4, hn10, hev, hclk⟩ := hpn'
    refine ⟨_, [3, 12], gt_tup (gts_cons (gt_name (by simp)) (gts_cons (gt_name (by simp)) gts_nil)), ?_⟩
    -- the rows of the tangle
    refine q_asgX (Ξ := fun s M3 => ∃ xs : List Deed, s = .d (.tuple ((throughOf p n xs).map rowD)) ∧ Lv n xs 0 ∧ xs.length ≤ 30 ∧ GM M3 500) (ev_ix0 (ev_callP (evA_cons (Ψ := fun s M' => s = .d (.int p) ∧ M' = M2) (ev_p (evp_var rfl) ⟨rfl, rfl⟩) fun s M' ⟨e1, e2⟩ => ?_))) ?_
    · rw [e1, e2]
      refine evA_cons (Ψ := fun s M' => s = .d (.int n) ∧ M' = M2) (ev_p (evp_var rfl) ⟨rfl, rfl⟩) fun s M' ⟨e1, e2⟩ => ?_
      rw [e1, e2]
      refine evA_cons (Ψ := fun s M' => ∃ xs : List Deed, s = .d (.list (xs.map deedD)) ∧ Lv n xs 0 ∧ xs.length ≤ 30 ∧ GM M' 500) (ev_frz (ev_callAll (evA_cons (Ψ := fun s M' => s = .l 0 ∧ M' = M2) (ev_var rfl (by simp) ⟨rfl, rfl⟩) fun s M' ⟨e1, e2⟩ => ?_))) fun s M' ⟨xs, e1, hlv, hxl, hg⟩ => ?_
      · rw [e1, e2]
        refine evA_cons (Ψ := fun s M' => s = .d (.int n) ∧ M' = M2) (ev_p (evp_var rfl) ⟨rfl, rfl⟩) fun s M' ⟨e1, e2⟩ => ?_
        rw [e1, e2]
        refine evA_cons (Ψ := fun s M' => s = .d (.int 6) ∧ M' = M2) (ev_p evp_int ⟨rfl, rfl⟩) fun s M' ⟨e1, e2⟩ => ?_
        rw [e1, e2]
        refine evA_cons (Ψ := fun s M' => s = .d (.int 10) ∧ M' = M2) (ev_p evp_int ⟨rfl, rfl⟩) fun s M' ⟨e1, e2⟩ => evA_nil ?_
        rw [e1, e2]
        refine ⟨⟨0, n, 201, rfl, hn4, hn10, hev, hG2.1, by omega⟩, fun s M' ⟨k', n', xs, e3, hlv, hxl, e4, hq⟩ => ?_⟩
        simp only [List.cons.injEq, Sl.l.injEq, Sl.d.injEq, PyData.int.injEq, and_true] at e3
        obtain ⟨e3, e5⟩ := e3
        have e5 : n = n' := by omega
        subst e3 e5
        obtain ⟨⟨m, rfl⟩, fq⟩ := hq
        have hz : GM (M2.set 0 (.lst m)) 500 := by
          refine ⟨?_, ?_⟩
          · have h1 := fq 201 (by omega) hG2.1
            obtain ⟨c, a, b, h2, h3⟩ := h1
            rw [List.getElem?_append_left (by rw [List.length_set]; exact hG2.lt)] at h2
            exact ⟨c, a, b, h2, h3.1, by omega, h3.2.2⟩
          · have h2 := hG2.2
            rw [List.all_eq_true] at h2 ⊢
            intro x hx
            rcases List.mem_or_eq_of_mem_set hx with hx | rfl
            · exact h2 x hx
            · rfl
        exact ⟨M2.set 0 (.lst m), xs.map deedD, by rw [e4, List.length_set], rfl, Nat.le_of_eq (by rw [List.length_set]), hz.low, xs, rfl, hlv, hxl, hz⟩
      · rw [e1]
        exact evA_nil ⟨[.int p, .int n, .list (xs.map deedD)], _, rfl, ⟨p, n, xs, hp3, by omega, hn10, hxl, Lv.vd hev (by omega) hlv, rfl, rfl⟩, _, _, rfl, rfl, xs, rfl, hlv, hxl, hg⟩
    rintro s13 M3 ⟨xs, rfl, hlv, hxl, hG3⟩
    obtain ⟨⟨e0, he0, hce0⟩, hrows, hrl, hlast⟩ := PL.rim p n xs hp3 hn4 hn10 hev hlv hxl
    have hsome : (throughOf p n xs).filter (fun r => !lchess r) ≠ [] := fun z => by
      have := List.filter_eq_nil_iff.mp z e0 he0
      rw [hce0] at this
      exact this rfl
    refine q_asg (d := .list (((throughOf p n xs).filter fun r => !lchess r).map rowD)) (evp_of_new (evn_lc (throughOf p n xs) rowD (fun r => !lchess r) rowD (evw_T (evp_var rfl)) (by omega) fun r hrm => ⟨_, gt_name (by simp), evt_not (evt_test (evp_call (eva_cons (evp_var rfl) eva_nil) ⟨true, r, by rw [(hrows r hrm).1]; omega, by rw [(hrows r hrm).1]; omega, rfl, rfl⟩)), fun _ => evp_var rfl⟩)) ?_
    have hsl : 1 ≤ ((throughOf p n xs).filter fun r => !lchess r).length := by
      rcases Nat.eq_zero_or_pos ((throughOf p n xs).filter fun r => !lchess r).length with z | z
      · exact absurd (List.length_eq_zero_iff.mp z) hsome
      · exact z
    -- a row of them
    refine q_asgX (Ξ := fun s M4 => ∃ r ∈ throughOf p n xs, lchess r = false ∧ s = .d (rowD r) ∧ GM M4 501) (ev_callAll (evA_cons (Ψ := fun s M' => s = .l 0 ∧ M' = M3) (ev_var rfl (by simp) ⟨rfl, rfl⟩) fun s M' ⟨e1, e2⟩ => ?_)) ?_
    · rw [e1, e2]
      refine evA_cons (Ψ := fun s M' => s = .d (.list (((throughOf p n xs).filter fun r => !lchess r).map rowD)) ∧ M' = M3) (ev_p (evp_var rfl) ⟨rfl, rfl⟩) fun s M' ⟨e1, e2⟩ => evA_nil ?_
      rw [e1, e2]
      refine ⟨⟨0, _, _, rfl, by rw [List.length_map]; exact hsl, by rw [List.length_map]; have := List.length_filter_le (fun r => !lchess r) (throughOf p n xs); omega, hG3.1, by omega⟩, fun s M' ⟨k', ds', d', e3, hd, e4, hw⟩ => ?_⟩
      simp only [List.cons.injEq, Sl.l.injEq, Sl.d.injEq, PyData.list.injEq, and_true] at e3
      obtain ⟨e3, e5⟩ := e3
      subst e3 e5
      obtain ⟨r, hr, rfl⟩ := List.mem_map.mp hd
      obtain ⟨hr1, hr2⟩ := List.mem_filter.mp hr
      exact ⟨r, hr1, by simpa using hr2, e4, hG3.dw hw (by omega)⟩
    rintro s5 M4 ⟨r, hrm, hc, rfl, hG4⟩
    have hr := hrows r hrm
    obtain ⟨qs, r', cs, T⟩ := PL.told p n r hp3 hn4 hn10 hev hr hc
    have hlen := T.len
    have hql : qs.length ≤ 23 := by omega
    have hok : okRow p r := by
      refine ⟨by rw [hr.1]; omega, by rw [hr.1]; omega, by rw [hr.1]; exact hev, ?_, hclk⟩
      unfold inRow
      rw [List.all_eq_true]
      intro x hx
      have := hr.2 x hx
      simp
      omega
    have hch : chessIn r = lchess r := chessIn_eq (by rw [hr.1]; omega)
    -- its game
    refine q_asgX (Ξ := fun s M5 => s = .d (.tuple (qs.map pairN))) (ev_fldE (ev_callAll (evA_cons (Ψ := fun s M' => s = .d (.int p) ∧ M' = M4) (ev_p (evp_var rfl) ⟨rfl, rfl⟩) fun s M' ⟨e1, e2⟩ => ?_))) ?_
    · rw [e1, e2]
      refine evA_cons (Ψ := fun s M' => s = .d (rowD r) ∧ M' = M4) (ev_p (evp_var rfl) ⟨rfl, rfl⟩) fun s M' ⟨e1, e2⟩ => evA_nil ?_
      rw [e1, e2]
      refine ⟨⟨p, n, r, hok, fun _ => ⟨T.ok, ?_⟩, rfl⟩, fun s M' ⟨p', r1, e3, e4, e5⟩ => ?_⟩
      · have := congrArg List.length T.sets
        rw [List.length_map, List.length_map] at this
        omega
      · simp only [List.cons.injEq, Sl.d.injEq, PyData.int.injEq, and_true] at e3
        obtain ⟨e3, e6⟩ := e3
        have e3 : p = p' := by omega
        have e6 : r = r1 := by
          unfold rowD at e6
          injection e6 with e6
          exact ints_inj e6
        subst e3 e6
        refine ⟨M4.length, aL, lf (.tuple (qs.map pairN)), _, e4, ?_, clL, naS, lf_sets, rfl⟩
        rw [e5]
        unfold paperOf
        rw [hch, if_neg (by rw [hc]; decide), T.sets]
        simp
    rintro s10 M5 rfl
    refine q_asgT (d := .tuple [.list (r'.map .int), .list (cs.map crossD)]) (evp_is (evp_call (eva_cons (evp_var rfl) (eva_cons (evp_var rfl) (eva_cons (evp_var rfl) eva_nil))) ⟨true, p, r, qs, hp1, by omega, by rw [hr.1]; omega, by rw [hr.1]; omega, by omega, fun q hq => by rw [hr.1]; exact (T.gaps q hq).1, rfl, rfl⟩) (by rw [T.played]; rfl)) (vs := [7, 8]) (gt_tup (gts_cons (gt_name (by simp)) (gts_cons (gt_name (by simp)) gts_nil))) ?_
    refine q_if (b := false) (evt_is (evt_or (a := false) (b := false) (evt_is (evt_test (evp_isN (evp_var rfl))) rfl) fun _ => evt_is (evt_or (a := false) (b := false) (evt_is (evt_test (evp_eq (evp_call (eva_cons (evp_var rfl) eva_nil) ⟨false, r', by rw [T.row.1]; omega, by rw [T.row.1]; omega, rfl, rfl⟩) (evp_of_new (evn_lst eva_nil (Nat.zero_le _))) shaped_nats rfl)) ?_) fun _ => evt_is (evt_test (evp_I0b (evp_lenT (evp_var rfl)) (evp_I0i (evp_mul evp_int (evp_var rfl) (.inl ⟨by omega, by omega⟩)) evp_int))) ?_) rfl) rfl) (fun z => by cases z) fun _ => q_next ?_
    · rw [eqv_nil]
      cases hs : lstrange r' with
      | nil => exact absurd hs T.near
      | cons g gs => rfl
    · rw [List.length_map]
      exact decide_eq_false (by omega)
    obtain ⟨g, gs, hgs⟩ : ∃ g gs, lstrange r' = g :: gs := by
      cases hs : lstrange r' with
      | nil => exact absurd hs T.near
      | cons g gs => exact ⟨g, gs, rfl⟩
    have hgn : g < n := by
      have := (strange_mem (r := r') (by rw [T.row.1]; omega) (by rw [T.row.1]; exact hev) (g := g)).mp (by rw [hgs]; exact List.mem_cons_self)
      rw [← T.row.1]
      exact this.1
    refine q_asg (d := .int (g : Nat)) (evp_ixS (j := 0) (evs_of (evp_call (eva_cons (evp_var rfl) eva_nil) ⟨false, r', by rw [T.row.1]; omega, by rw [T.row.1]; omega, rfl, rfl⟩)) evp_int (by rw [hgs, List.map_cons, List.length_cons]; exact ixN_nat (g := 0) (by omega)) (by rw [hgs]; rfl)) ?_
    refine q_asg (d := .list ((throughOf p n xs).map fun e => .list ((crossed p e cs).map .int))) (evp_of_new (evn_lcy (throughOf p n xs) rowD (fun e => .list ((crossed p e cs).map .int)) (evw_T (evp_var rfl)) (by omega) fun e he => ⟨_, gt_name (by simp), evp_call (eva_cons (evp_var rfl) (eva_cons (evp_var rfl) (eva_cons (evp_var rfl) eva_nil))) ⟨p, e, cs, hp1, by rw [(hrows e he).1]; omega, by rw [(hrows e he).1]; omega, fun c hc => by rw [(hrows e he).1]; exact T.cgaps c hc, rfl, rfl⟩⟩)) ?_
    have hcrl : ∀ e ∈ throughOf p n xs, (crossed p e cs).length = n := fun e he => by
      rw [crossed_len, (hrows e he).1]
    refine s_ret (evp_is (evp_eq (x := .list []) (evp_of_new (evn_is (evn_lc (throughOf p n xs) (fun e => .list ((crossed p e cs).map .int)) (fun _ => false) (fun e => .list ((crossed p e cs).map .int)) (evw_L (evp_var rfl)) (by omega) fun e he => ⟨_, gt_name (by simp), evt_is (evt_test (evp_ne (evp_ixS (evs_of (evp_var rfl)) (evp_I0i (evp_var rfl) evp_int) (by rw [List.length_map, hcrl e he]; exact ixN_back hgn) (by rw [← hcrl e he]; exact cy_get (by rw [hcrl e he]; omega))) (evp_ixS (evs_of (evp_var rfl)) (evp_Ii (evp_intI (evp_add (evp_var rfl) evp_int)) (evp_var rfl) (by omega)) (by rw [List.length_map, hcrl e he]; exact ixN_fwd (by omega)) (by rw [← hcrl e he]; exact cy_get (by rw [hcrl e he]; omega))) rfl rfl)) ?_, fun z => by cases z⟩) ?_)) (evp_of_new (evn_lst eva_nil (Nat.zero_le _))) rfl rfl) ?_) rfl
    · have := hlast r hrm qs r' cs T g gs hgs e he
      rw [eqv_int, hcrl e he, this]
      simp
    · rw [List.filter_eq_nil_iff.mpr (fun _ _ => by decide)]
      rfl
    · rw [eqv_nil]
      rfl
end
end Q
end
section
set_option Elab.async false
set_option linter.all false
set_option maxRecDepth 100000
set_option maxHeartbeats 4000000
set_option autoImplicit false
/-! Pe: what the program's row_behind tells is what the law's played tells. -/
namespace Q
open PySem
theorem cy_in {p : Nat} {r : List Int} {i : Nat} (h : inR p r) (hl : 0 < r.length) : 0 ≤ cy r i ∧ cy r i < (p : Int) := by
  have := Nat.mod_lt i hl
  unfold cy
  rw [List.getD_eq_getElem?_getD, List.getElem?_eq_getElem this]
  exact h _ (List.getElem_mem _)
theorem step_zero {p : Nat} {r : List Int} {g : Nat} (h : inR p r) (hl : 0 < r.length) : stepAt r g % (p : Int) = 0 ↔ cy r (g + r.length - 1) = cy r (g + 1) := by
  have h1 := cy_in (i := g + r.length - 1) h hl
  have h2 := cy_in (i := g + 1) h hl
  unfold stepAt
  constructor
  · intro z
    obtain ⟨c, hc⟩ := Int.dvd_of_emod_eq_zero z
    rcases Int.lt_trichotomy c 0 with hcn | hcn | hcn
    · have : (p : Int) * c ≤ (p : Int) * (-1) := Int.mul_le_mul_of_nonneg_left (by omega) (by omega)
      omega
    · subst hcn
      omega
    · have : (p : Int) * 1 ≤ (p : Int) * c := Int.mul_le_mul_of_nonneg_left (by omega) (by omega)
      omega
  · intro z
    rw [z]
    simp
theorem inR_set {p : Nat} {r : List Int} {g : Nat} {x : Nat} (h : inR p r) (hx : x < p) : inR p (r.set g (x : Int)) := fun y hy => by
  rcases List.mem_or_eq_of_mem_set hy with hy | rfl
  · exact h y hy
  · omega
theorem behind_played {p : Nat} : ∀ {qs : List (Nat × Nat)} {r : List Int} {cs : List (Bool × Nat)}, inR p r → 0 < r.length → (∀ q ∈ qs, q.1 < r.length ∧ q.2 < p) → behind p r (qs.map fun q => ((q.1 : Int), (q.2 : Int))) = (played p r qs cs).map Prod.fst
  | [], r, cs, h, hl, hq => by
    unfold played
    rfl
  | (g, x) :: qs, r, cs, h, hl, hq => by
    have hg := hq (g, x) List.mem_cons_self
    have hz := step_zero (g := g) h hl
    rw [List.map_cons]
    unfold behind played
    have hip : isPair p r.length ((g : Int), (x : Int)) = true := by
      unfold isPair
      simp
      omega
    have hm : mayIn r ((g : Int), (x : Int)).1.toNat = !decide (stepAt r g % (p : Int) = 0) := by
      unfold mayIn
      rw [show ((g : Int), (x : Int)).1.toNat = g from Int.toNat_natCast g]
      by_cases e : cy r (g + r.length - 1) = cy r (g + 1)
      · rw [e, decide_eq_true (hz.mpr e)]
        simp
      · rw [decide_eq_false fun z => e (hz.mp z)]
        simp [e]
    rw [hip, hm, Bool.true_and]
    by_cases e : stepAt r g % (p : Int) = 0
    · rw [decide_eq_true e, if_pos e]
      rfl
    · rw [decide_eq_false e, if_neg e, if_pos (by rfl)]
      rw [show ((g : Int), (x : Int)).1.toNat = g from Int.toNat_natCast g]
      exact behind_played (inR_set h hg.2) (by rw [List.length_set]; exact hl) fun q hq' => by rw [List.length_set]; exact hq q (List.mem_cons_of_mem _ hq')
theorem played_len' {p : Nat} : ∀ {qs : List (Nat × Nat)} {r r' : List Int} {cs cs' : List (Bool × Nat)}, played p r qs cs = some (r', cs') → r'.length = r.length
  | [], r, r', cs, cs', h => by
    unfold played at h
    cases h
    rfl
  | q :: qs, r, r', cs, cs', h => by
    unfold played at h
    split at h
    · cases h
    · rw [played_len' h, List.length_set]
theorem shown_law {p n : Nat} {r : List Int} {qs : List (Nat × Nat)} (h4 : 4 ≤ n) (he : n % 2 = 0) (hr : RowOk p n r) (hq : ∀ q ∈ qs, q.1 < n ∧ q.2 < p) : showsB p r (qs.map fun q => ((q.1 : Int), (q.2 : Int))) = match played p r qs [] with
    | some (r', _) => !(lstrange r').isEmpty
    | none => false := by
  unfold showsB
  rw [behind_played (cs := []) hr.2 (by rw [hr.1]; omega) (by rw [hr.1]; exact hq)]
  cases hp : played p r qs [] with
  | none => rfl
  | some rc =>
    obtain ⟨r', cs⟩ := rc
    have hl := played_len' hp
    have z := near_strange (r := r') (by rw [hl, hr.1]; exact h4) (by rw [hl, hr.1]; exact he)
    show near r' = !(lstrange r').isEmpty
    rw [Bool.eq_iff_iff, z]
    cases lstrange r' <;> simp
end Q
end
section
set_option Elab.async false
set_option linter.all false
set_option maxRecDepth 100000
set_option maxHeartbeats 4000000
set_option autoImplicit false
/-! Pf: the crossings of a game do what its pairs do. -/
namespace Q
open PySem
def addOne (p : Nat) (g : Nat) (cs : List (Bool × Nat)) (m : Nat) : List (Bool × Nat) := if 2 * m < p then cs ++ List.replicate m (true, g) else cs ++ List.replicate (p - m) (false, g)
def condM (p : Nat) (a st x : Int) (m : Nat) : Bool := decide ((a + (m : Int) * st - x) % (p : Int) = 0)
theorem fold_add (p : Nat) (a st x : Int) (g : Nat) (cs : List (Bool × Nat)) (l : List Nat) : l.foldl (crossAdd p a st x g) cs = (l.filter (condM p a st x)).foldl (addOne p g) cs := by
  rw [List.foldl_filter]
  congr 1
  funext c m
  unfold crossAdd condM addOne
  by_cases h : (a + (m : Int) * st - x) % (p : Int) = 0
  · rw [if_pos h, decide_eq_true h, if_pos rfl]
  · rw [if_neg h, decide_eq_false h, if_neg (by decide)]
theorem one_m : ∀ p ∈ [3, 5, 7], ∀ a, a < p → ∀ s, s < p → ∀ x, x < p → s ≠ 0 → ((List.range p).filter (condM p (a : Nat) (s : Nat) (x : Nat))).length = 1 := by decide +kernel
theorem the_m {p : Nat} (hp : P3 p) {a st : Int} {x : Nat} (ha : 0 ≤ a ∧ a < p) (hs : 0 ≤ st ∧ st < p) (hs0 : st ≠ 0) (hx : x < p) : ∃ m, m < p ∧ (a + (m : Int) * st - (x : Int)) % (p : Int) = 0 ∧ (List.range p).filter (condM p a st x) = [m] := by
  have hp' : p ∈ [3, 5, 7] := by
    rcases hp with rfl | rfl | rfl <;> simp
  have h := one_m p hp' a.toNat (by omega) st.toNat (by omega) x hx (by omega)
  rw [show ((a.toNat : Nat) : Int) = a by omega, show ((st.toNat : Nat) : Int) = st by omega] at h
  obtain ⟨m, hm⟩ := List.length_eq_one_iff.mp h
  have hmem : m ∈ (List.range p).filter (condM p a st x) := by rw [hm]; exact List.mem_cons_self
  obtain ⟨h1, h2⟩ := List.mem_filter.mp hmem
  exact ⟨m, List.mem_range.mp h1, of_decide_eq_true h2, hm⟩
theorem step_set {r : List Int} {g : Nat} {y : Int} (h3 : 3 ≤ r.length) (hg : g < r.length) : stepAt (r.set g y) g = stepAt r g := by
  unfold stepAt cy
  rw [List.length_set]
  have h1 : (g + r.length - 1) % r.length ≠ g := by
    rcases Nat.eq_zero_or_pos g with rfl | h0
    · rw [Nat.mod_eq_of_lt (by omega)]
      omega
    · rw [show g + r.length - 1 = (g - 1) + r.length by omega, Nat.add_mod_right, Nat.mod_eq_of_lt (by omega)]
      omega
  have h2 : (g + 1) % r.length ≠ g := by
    rcases Nat.lt_or_ge (g + 1) r.length with h | h
    · rw [Nat.mod_eq_of_lt h]
      omega
    · rw [show g + 1 = r.length by omega, Nat.mod_self]
      omega
  simp only [List.getD_eq_getElem?_getD]
  rw [List.getElem?_set_ne (Ne.symm h1), List.getElem?_set_ne (Ne.symm h2)]
theorem getD_set0 {r : List Int} {g : Nat} {y : Int} (hg : g < r.length) : (r.set g y).getD g 0 = y := by
  rw [List.getD_eq_getElem?_getD, List.getElem?_set_self hg]
  rfl
/-- m like crossings at one gap -/
theorem crossed_rep {p : Nat} {b : Bool} {g : Nat} : ∀ (m : Nat) (r : List Int), 3 ≤ r.length → g < r.length → inR p r → crossed p r (List.replicate m (b, g)) = r.set g ((r.getD g 0 + (m : Int) * (if b then stepAt r g else -stepAt r g)) % (p : Int))
  | 0, r, h3, hg, hr => by
    have hx := hr (r.getD g 0) (by rw [List.getD_eq_getElem?_getD, List.getElem?_eq_getElem hg]; exact List.getElem_mem _)
    rw [show ((0 : Nat) : Int) * (if b then stepAt r g else -stepAt r g) = 0 by simp, Int.add_zero, Int.emod_eq_of_lt hx.1 hx.2]
    show r = _
    rw [List.getD_eq_getElem?_getD, List.getElem?_eq_getElem hg]
    exact (List.set_getElem_self hg).symm
  | m + 1, r, h3, hg, hr => by
    rw [List.replicate_succ]
    show crossed p (cross1 p r (b, g)) (List.replicate m (b, g)) = _
    have e1 : cross1 p r (b, g) = r.set g ((r.getD g 0 + (if b then stepAt r g else -stepAt r g)) % (p : Int)) := rfl
    have hp0 : (0 : Int) < p := by
      have hx := hr (r.getD g 0) (by rw [List.getD_eq_getElem?_getD, List.getElem?_eq_getElem hg]; exact List.getElem_mem _)
      omega
    rw [e1, crossed_rep m _ (by rw [List.length_set]; exact h3) (by rw [List.length_set]; exact hg) (fun y hy => by
      rcases List.mem_or_eq_of_mem_set hy with hy | rfl
      · exact hr y hy
      · exact ⟨Int.emod_nonneg _ (by omega), Int.emod_lt_of_pos _ hp0⟩), step_set h3 hg, getD_set0 hg, List.set_set]
    congr 1
    rw [Int.emod_add_emod]
    congr 1
    push_cast
    rw [Int.add_mul, Int.one_mul]
    omega
theorem crossed_app {p : Nat} {r : List Int} {a b : List (Bool × Nat)} : crossed p r (a ++ b) = crossed p (crossed p r a) b := List.foldl_append
theorem played_cross {p : Nat} (hp : P3 p) : ∀ {qs : List (Nat × Nat)} {r r' : List Int} {cs0 cs : List (Bool × Nat)}, 3 ≤ r.length → inR p r → (∀ q ∈ qs, q.1 < r.length ∧ q.2 < p) → played p r qs cs0 = some (r', cs) →
    ∃ cs1, cs = cs0 ++ cs1 ∧ crossed p r cs1 = r' ∧ cs1.length * 2 ≤ qs.length * (p - 1) ∧ (∀ c ∈ cs1, c.2 < r.length) ∧ inR p r'
  | [], r, r', cs0, cs, h3, hr, hq, h => by
    unfold played at h
    cases h
    exact ⟨[], (List.append_nil _).symm, rfl, Nat.zero_le _, (fun c hc => by cases hc), hr⟩
  | (g, x) :: qs, r, r', cs0, cs, h3, hr, hq, h => by
    obtain ⟨hg, hx⟩ := hq (g, x) List.mem_cons_self
    have hg : g < r.length := hg
    have hx : x < p := hx
    have hp0 : (0 : Int) < p := by rcases hp with rfl | rfl | rfl <;> omega
    unfold played at h
    by_cases e : stepAt r g % (p : Int) = 0
    · rw [if_pos e] at h
      cases h
    rw [if_neg e] at h
    have ha := hr (r.getD g 0) (by rw [List.getD_eq_getElem?_getD, List.getElem?_eq_getElem hg]; exact List.getElem_mem _)
    obtain ⟨m, hm, hc, hf⟩ := the_m hp (a := r.getD g 0) (st := stepAt r g % (p : Int)) (x := x) ha ⟨Int.emod_nonneg _ (by omega), Int.emod_lt_of_pos _ hp0⟩ e hx
    rw [fold_add, hf] at h
    obtain ⟨cs1, e1, e2, e3, e4, e5⟩ := played_cross hp (by rw [List.length_set]; exact h3) (inR_set hr hx) (fun q hq' => by rw [List.length_set]; exact hq q (List.mem_cons_of_mem _ hq')) h
    rw [List.length_set] at e4
    have hmod : (r.getD g 0 + (m : Int) * stepAt r g) % (p : Int) = (x : Int) := by
      have h1 : (r.getD g 0 + (m : Int) * stepAt r g - (x : Int)) % (p : Int) = 0 := by
        have e0 : r.getD g 0 + (m : Int) * stepAt r g - (x : Int) = (r.getD g 0 + (m : Int) * (stepAt r g % (p : Int)) - (x : Int)) + (p : Int) * ((m : Int) * (stepAt r g / (p : Int))) := by
          have e1 := Int.emod_add_mul_ediv (stepAt r g) (p : Int)
          have e2 : (m : Int) * stepAt r g = (m : Int) * (stepAt r g % (p : Int)) + (p : Int) * ((m : Int) * (stepAt r g / (p : Int))) := by
            rw [Int.mul_left_comm, ← Int.mul_add, e1]
          omega
        rw [e0, Int.add_mul_emod_self_left, hc]
      have h2 := Int.emod_emod_of_dvd (r.getD g 0 + (m : Int) * stepAt r g) (Int.dvd_refl (p : Int))
      have h3 : (r.getD g 0 + (m : Int) * stepAt r g) % (p : Int) = (x : Int) % (p : Int) := Int.emod_eq_emod_iff_emod_sub_eq_zero.mpr h1
      rw [h3, Int.emod_eq_of_lt (by omega) (by omega)]
    have key : ∃ c1, [m].foldl (addOne p g) cs0 = cs0 ++ c1 ∧ crossed p r c1 = r.set g (x : Int) ∧ c1.length * 2 ≤ p - 1 ∧ ∀ c ∈ c1, c.2 = g := by
      show ∃ c1, addOne p g cs0 m = cs0 ++ c1 ∧ _
      unfold addOne
      by_cases h2 : 2 * m < p
      · rw [if_pos h2]
        refine ⟨_, rfl, ?_, by rw [List.length_replicate]; omega, fun c hc => by rw [List.eq_of_mem_replicate hc]⟩
        rw [crossed_rep m r h3 hg hr, if_pos rfl, hmod]
      · rw [if_neg h2]
        refine ⟨_, rfl, ?_, by rw [List.length_replicate]; rcases hp with rfl | rfl | rfl <;> omega, fun c hc => by rw [List.eq_of_mem_replicate hc]⟩
        rw [crossed_rep (p - m) r h3 hg hr, if_neg (by decide)]
        congr 1
        rw [← hmod]
        have e : r.getD g 0 + ((p - m : Nat) : Int) * -stepAt r g = r.getD g 0 + (m : Int) * stepAt r g + (p : Int) * (-stepAt r g) := by
          rw [Int.ofNat_sub (by omega), Int.sub_mul, Int.mul_neg, Int.mul_neg]
          omega
        rw [e, Int.add_mul_emod_self_left]
    obtain ⟨c1, k1, k2, k3, k4⟩ := key
    rw [k1] at e1
    refine ⟨c1 ++ cs1, by rw [e1, List.append_assoc], by rw [crossed_app, k2, e2], ?_, fun c hc => ?_, e5⟩
    · rw [List.length_append, List.length_cons, Nat.add_mul, Nat.add_mul]
      omega
    · rcases List.mem_append.mp hc with hc | hc
      · rw [k4 c hc]
        exact hg
      · exact e4 c hc
end Q
end
section
set_option Elab.async false
set_option linter.all false
set_option maxRecDepth 100000
set_option maxHeartbeats 4000000
set_option autoImplicit false
/-! Pg: the game that the program tells. -/
namespace Q
open PySem
theorem played_snoc {p : Nat} {g x : Nat} : ∀ {qs : List (Nat × Nat)} {r r' : List Int} {cs0 cs : List (Bool × Nat)}, played p r qs cs0 = some (r', cs) → stepAt r' g % (p : Int) ≠ 0 → ∃ cs', played p r (qs ++ [(g, x)]) cs0 = some (r'.set g (x : Int), cs')
  | [], r, r', cs0, cs, h, hs => by
    unfold played at h
    cases h
    show ∃ cs', played p r [(g, x)] cs0 = _
    unfold played
    rw [if_neg hs]
    unfold played
    exact ⟨_, rfl⟩
  | (g', x') :: qs, r, r', cs0, cs, h, hs => by
    unfold played at h
    rw [List.cons_append]
    unfold played
    split at h
    · cases h
    · rename_i z
      rw [if_neg z]
      exact played_snoc h hs
/-- a state that a valid game of r has led to -/
structure Val (p n : Nat) (r : List Int) (s : GS) : Prop where
  len : s.row.length = n
  inr : inR p s.row
  ex : ∃ (qs : List (Nat × Nat)) (cs : List (Bool × Nat)), s.sets.map gpD = qs.map pairN ∧ (∀ q ∈ qs, q.1 < n ∧ q.2 < p) ∧ played p r qs [] = some (s.row, cs)
theorem Val.start {p n : Nat} {r : List Int} (h : RowOk p n r) : Val p n r ⟨r, []⟩ := ⟨h.1, h.2, [], [], rfl, (fun q hq => by cases hq), by unfold played; rfl⟩
theorem Val.put {p n : Nat} {r : List Int} {s : GS} {g : Nat} {x : Int} (v : Val p n r s) (hg : g < n) (hx : 0 ≤ x ∧ x < p) (hn : s.row.getD g 0 = x ∨ cy s.row (g + n - 1) ≠ cy s.row (g + 1)) : Val p n r (gput g x s) := by
  unfold gput
  by_cases e : s.row.getD g 0 = x
  · rw [if_pos e]
    exact v
  · rw [if_neg e]
    have hn := hn.resolve_left e
    obtain ⟨qs, cs, h1, h2, h3⟩ := v.ex
    have hs : stepAt s.row g % (p : Int) ≠ 0 := fun z => hn (by
      have := (step_zero v.inr (by rw [v.len]; omega)).mp z
      rwa [v.len] at this)
    obtain ⟨cs', h4⟩ := played_snoc (x := x.toNat) h3 hs
    have ex : ((x.toNat : Nat) : Int) = x := Int.toNat_of_nonneg hx.1
    rw [ex] at h4
    refine ⟨by show (s.row.set g x).length = n; rw [List.length_set]; exact v.len, ?_, qs ++ [(g, x.toNat)], cs', ?_, fun q hq => ?_, h4⟩
    · have := inR_set (x := x.toNat) (g := g) v.inr (by omega)
      rw [ex] at this
      exact this
    · show (s.sets ++ [(g, x)]).map gpD = _
      rw [List.map_append, List.map_append, h1]
      congr 1
      show [PyData.tuple [.int g, .int x]] = [PyData.tuple [.int g, .int (x.toNat : Nat)]]
      rw [ex]
    · rcases List.mem_append.mp hq with hq | hq
      · exact h2 q hq
      · rw [List.mem_singleton.mp hq]
        exact ⟨hg, by show x.toNat < p; omega⟩
theorem spare_ok {p : Nat} {os : List Int} (hp : 3 ≤ p) (ho : os.length ≤ 2) : 0 ≤ (spare p os).headD 0 ∧ (spare p os).headD 0 < (p : Int) ∧ (spare p os).headD 0 ∉ os := by
  have hne : spare p os ≠ [] := by
    intro z
    have hall : ∀ x : Nat, x < p → (x : Int) ∈ os := fun x hx => by
      have h1 : ((List.range p).filter fun (x : Nat) => !decide ((x : Int) ∈ os)) = [] := by
        unfold spare at z
        exact List.map_eq_nil_iff.mp z
      have := List.filter_eq_nil_iff.mp h1 x (List.mem_range.mpr hx)
      simpa using this
    have h0 := hall 0 (by omega)
    have h1 := hall 1 (by omega)
    have h2 := hall 2 (by omega)
    match os, ho, h0, h1, h2 with
    | [], _, h0, _, _ => cases h0
    | [a], _, h0, h1, _ =>
      rw [List.mem_singleton] at h0 h1
      omega
    | [a, b], _, h0, h1, h2 =>
      simp only [List.mem_cons, List.not_mem_nil, or_false] at h0 h1 h2
      omega
  obtain ⟨y, ys, hy⟩ := List.exists_cons_of_ne_nil hne
  have hm : y ∈ spare p os := by rw [hy]; exact List.mem_cons_self
  rw [hy]
  unfold spare at hm
  obtain ⟨x, hx, rfl⟩ := List.mem_map.mp hm
  obtain ⟨h1, h2⟩ := List.mem_filter.mp hx
  have := List.mem_range.mp h1
  refine ⟨by show (0 : Int) ≤ (x : Int); omega, by show (x : Int) < p; omega, by show (x : Int) ∉ os; simpa using h2⟩
theorem Val.part {p n : Nat} {r : List Int} {s : GS} {g : Nat} {os : List Int} (hp : 3 ≤ p) (v : Val p n r s) (hg : g < n) (ho : os.length ≤ 2) (hn : s.row.getD g 0 ∈ os → cy s.row (g + n - 1) ≠ cy s.row (g + 1)) : Val p n r (gpart p g os s) ∧ (gpart p g os s).row.getD g 0 ∉ os ∧ ∀ i, i ≠ g → (gpart p g os s).row.getD i 0 = s.row.getD i 0 := by
  unfold gpart
  by_cases e : s.row.getD g 0 ∈ os
  · rw [if_pos e]
    obtain ⟨h1, h2, h3⟩ := spare_ok (os := os) hp ho
    refine ⟨v.put hg ⟨h1, h2⟩ (.inr (hn e)), ?_, fun i hi => ?_⟩
    · rw [gput_at (by rw [v.len]; exact hg), if_pos rfl]
      exact h3
    · rw [gput_at (by rw [v.len]; exact hg), if_neg hi]
  · rw [if_neg e]
    exact ⟨v, e, fun _ _ => rfl⟩
theorem cy_mid {r : List Int} {n g : Nat} (hl : r.length = n) (h1 : 1 ≤ g) (h2 : g + 1 < n) : cy r (g + n - 1) = r.getD (g - 1) 0 ∧ cy r (g + 1) = r.getD (g + 1) 0 := by
  unfold cy
  rw [hl]
  constructor
  · rw [show g + n - 1 = (g - 1) + n by omega, Nat.add_mod_right, Nat.mod_eq_of_lt (by omega)]
  · rw [Nat.mod_eq_of_lt h2]
theorem cy_end {r : List Int} {n : Nat} (hl : r.length = n) (h2 : 2 ≤ n) : cy r (n - 1 + n - 1) = r.getD (n - 2) 0 ∧ cy r (n - 1 + 1) = r.getD 0 0 := by
  unfold cy
  rw [hl]
  constructor
  · rw [show n - 1 + n - 1 = (n - 2) + n by omega, Nat.add_mod_right, Nat.mod_eq_of_lt (by omega)]
  · rw [show n - 1 + 1 = n by omega, Nat.mod_self]
end Q
end
section
set_option Elab.async false
set_option linter.all false
set_option maxRecDepth 100000
set_option maxHeartbeats 4000000
set_option autoImplicit false
/-! Ph: whites evened, blacks evened. -/
namespace Q
open PySem
def Bad (n : Nat) (r : List Int) : Prop := ∃ a, a < n ∧ a % 2 = 1 ∧ r.getD a 0 ≠ r.getD 1 0
theorem in_getD {p : Nat} {r : List Int} {i : Nat} (h : inR p r) (hi : i < r.length) : 0 ≤ r.getD i 0 ∧ r.getD i 0 < (p : Int) := by
  rw [List.getD_eq_getElem?_getD, List.getElem?_eq_getElem hi]
  exact h _ (List.getElem_mem _)
theorem white1_ok {p n m : Nat} {r : List Int} {s : GS} (hp : 3 ≤ p) (hm : 2 * m + 4 ≤ n) (v : Val p n r s) (hw : ∀ j, j ≤ m → s.row.getD (2 * j) 0 = s.row.getD 0 0) :
    Val p n r (white1 p s m) ∧ (∀ j, j ≤ m + 1 → (white1 p s m).row.getD (2 * j) 0 = (white1 p s m).row.getD 0 0) ∧ (white1 p s m = s ∨ Bad n (white1 p s m).row) := by
  unfold white1
  by_cases e : s.row.getD (2 + 2 * m) 0 = s.row.getD 0 0
  · rw [if_pos e]
    refine ⟨v, fun j hj => ?_, .inl rfl⟩
    rcases Nat.lt_or_ge m j with h | h
    · rw [show 2 * j = 2 + 2 * m by omega]
      exact e
    · exact hw j h
  · rw [if_neg e]
    have hl := v.len
    obtain ⟨v1, a1, o1⟩ := v.part (g := 1 + 2 * m) (os := [s.row.getD (3 + 2 * m) 0]) hp (by omega) (by show 1 ≤ 2; omega) fun _ => by
      obtain ⟨c1, c2⟩ := cy_mid (r := s.row) (g := 1 + 2 * m) hl (by omega) (by omega)
      rw [c1, c2, show 1 + 2 * m - 1 = 2 * m by omega, show 1 + 2 * m + 1 = 2 + 2 * m by omega, hw m (Nat.le_refl _)]
      exact fun z => e z.symm
    generalize gpart p (1 + 2 * m) [s.row.getD (3 + 2 * m) 0] s = s1 at v1 a1 o1
    have hl1 := v1.len
    have a1' : s1.row.getD (1 + 2 * m) 0 ≠ s.row.getD (3 + 2 * m) 0 := fun z => a1 (by rw [z]; exact List.mem_cons_self)
    have v2 := v1.put (g := 2 + 2 * m) (x := s.row.getD 0 0) (by omega) (in_getD v.inr (by omega)) (.inr (by
      obtain ⟨c1, c2⟩ := cy_mid (r := s1.row) (g := 2 + 2 * m) hl1 (by omega) (by omega)
      rw [c1, c2, show 2 + 2 * m - 1 = 1 + 2 * m by omega, show 2 + 2 * m + 1 = 3 + 2 * m by omega, o1 (3 + 2 * m) (by omega)]
      exact a1'))
    have hat : ∀ i, (gput (2 + 2 * m) (s.row.getD 0 0) s1).row.getD i 0 = if i = 2 + 2 * m then s.row.getD 0 0 else s1.row.getD i 0 := fun i => gput_at (by omega)
    refine ⟨v2, fun j hj => ?_, .inr ?_⟩
    · rw [hat, hat, if_neg (by omega : ¬ (0 = 2 + 2 * m)), o1 0 (by omega)]
      rcases Nat.lt_or_ge m j with h | h
      · rw [if_pos (by omega)]
      · rw [if_neg (by omega), o1 _ (by omega)]
        exact hw j h
    · by_cases hz : (gput (2 + 2 * m) (s.row.getD 0 0) s1).row.getD (1 + 2 * m) 0 = (gput (2 + 2 * m) (s.row.getD 0 0) s1).row.getD 1 0
      · refine ⟨3 + 2 * m, by omega, by omega, ?_⟩
        rw [← hz, hat, hat, if_neg (by omega), if_neg (by omega), o1 (3 + 2 * m) (by omega)]
        exact fun z => a1' z.symm
      · exact ⟨1 + 2 * m, by omega, by omega, hz⟩
theorem whites_ok {p n : Nat} {r : List Int} (hp : 3 ≤ p) (hr : RowOk p n r) : ∀ m, 2 * m + 2 ≤ n → Val p n r ((List.range m).foldl (white1 p) ⟨r, []⟩) ∧ (∀ j, j ≤ m → ((List.range m).foldl (white1 p) ⟨r, []⟩).row.getD (2 * j) 0 = ((List.range m).foldl (white1 p) ⟨r, []⟩).row.getD 0 0) ∧
    ((List.range m).foldl (white1 p) ⟨r, []⟩ = ⟨r, []⟩ ∨ Bad n ((List.range m).foldl (white1 p) ⟨r, []⟩).row)
  | 0, _ => ⟨Val.start hr, fun j hj => by rw [show j = 0 by omega], .inl rfl⟩
  | m + 1, h => by
    obtain ⟨v, hw, hb⟩ := whites_ok hp hr m (by omega)
    rw [List.range_succ, List.foldl_append]
    show Val p n r (white1 p _ m) ∧ (∀ j, j ≤ m + 1 → (white1 p _ m).row.getD (2 * j) 0 = (white1 p _ m).row.getD 0 0) ∧ (white1 p _ m = _ ∨ Bad n (white1 p _ m).row)
    obtain ⟨v1, hw1, hb1⟩ := white1_ok hp (by omega) v hw
    refine ⟨v1, hw1, ?_⟩
    rcases hb1 with e | e
    · rw [e]
      exact hb
    · exact .inr e
/-- behind even_whites -/
theorem gwhites_ok {p n : Nat} {r : List Int} (hp : 3 ≤ p) (h4 : 4 ≤ n) (he : n % 2 = 0) (hr : RowOk p n r) (hc : lchess r = false) : Val p n r (gwhites p ⟨r, []⟩) ∧ (∀ i, i < n → i % 2 = 0 → (gwhites p ⟨r, []⟩).row.getD i 0 = (gwhites p ⟨r, []⟩).row.getD 0 0) ∧ Bad n (gwhites p ⟨r, []⟩).row ∧ (gwhites p ⟨r, []⟩).sets.length ≤ n - 2 := by
  have hl := whites_len p (n / 2 - 1) ⟨r, []⟩
  have e : gwhites p ⟨r, []⟩ = (List.range (n / 2 - 1)).foldl (white1 p) ⟨r, []⟩ := by
    unfold gwhites
    rw [show (⟨r, []⟩ : GS).row.length = n from hr.1]
  obtain ⟨v, hw, hb⟩ := whites_ok hp hr (n / 2 - 1) (by omega)
  rw [← e] at hl v hw hb
  have hw' : ∀ i, i < n → i % 2 = 0 → (gwhites p ⟨r, []⟩).row.getD i 0 = (gwhites p ⟨r, []⟩).row.getD 0 0 := fun i hi hi2 => by
    have := hw (i / 2) (by omega)
    rwa [show 2 * (i / 2) = i by omega] at this
  refine ⟨v, hw', ?_, ?_⟩
  · rcases hb with hb | hb
    · rw [hb] at hw' ⊢
      apply Classical.byContradiction
      intro z
      have : lchess r = true := (chess_iff (by rw [hr.1]; omega)).mpr ⟨fun i hi hi2 => hw' i (by rw [← hr.1]; exact hi) hi2, fun i hi hi2 => Classical.byContradiction fun z2 => z ⟨i, by rw [← hr.1]; exact hi, hi2, z2⟩⟩
      rw [hc] at this
      cases this
    · exact hb
  · have := hl.2
    have e0 : (⟨r, []⟩ : GS).sets.length = 0 := rfl
    omega
end Q
end
section
set_option Elab.async false
set_option linter.all false
set_option maxRecDepth 100000
set_option maxHeartbeats 4000000
set_option autoImplicit false
/-! Pj: blacks evened; the told game. -/
namespace Q
open PySem
/-- the strange white runs ahead of b -/
structure BI (p n : Nat) (r : List Int) (st : Int) (s : GS) (b : Nat) : Prop where
  v : Val p n r s
  odd : b % 2 = 1
  b3 : 3 ≤ b
  bn : b < n
  wh : ∀ i, i < n → i % 2 = 0 → i ≠ b - 1 → s.row.getD i 0 = s.row.getD 0 0
  hst : s.row.getD (b - 1) 0 = st
  ne : st ≠ s.row.getD 0 0
  bl : ∀ i, i < b → i % 2 = 1 → s.row.getD i 0 = s.row.getD 1 0
theorem black1_ok {p n b : Nat} {r : List Int} {st : Int} {s : GS} (hp : 3 ≤ p) (he : n % 2 = 0) (h : BI p n r st s b) (hb : b + 2 < n) : BI p n r st (black1 p st s b) (b + 2) ∧ (black1 p st s b).sets.length ≤ s.sets.length + 4 := by
  obtain ⟨v, odd, b3, bn, wh, hst, ne, bl⟩ := h
  have hl := v.len
  unfold black1
  obtain ⟨v1, a1, o1⟩ := v.part (g := b) (os := [s.row.getD 1 0, s.row.getD (b + 2) 0]) hp bn (Nat.le_refl 2) fun _ => by
    obtain ⟨c1, c2⟩ := cy_mid (r := s.row) (g := b) hl (by omega) (by omega)
    rw [c1, c2, hst, wh (b + 1) (by omega) (by omega) (by omega)]
    exact ne
  have k1 := (gpart_len p b [s.row.getD 1 0, s.row.getD (b + 2) 0] s).2
  dsimp only
  generalize gpart p b [s.row.getD 1 0, s.row.getD (b + 2) 0] s = s1 at v1 a1 o1 k1
  have hl1 := v1.len
  have a11 : s1.row.getD b 0 ≠ s.row.getD 1 0 := fun z => a1 (by rw [z]; exact List.mem_cons_self)
  have a12 : s1.row.getD b 0 ≠ s.row.getD (b + 2) 0 := fun z => a1 (by rw [z]; exact List.mem_cons_of_mem _ List.mem_cons_self)
  have hstr : 0 ≤ st ∧ st < (p : Int) := by
    rw [← hst]
    exact in_getD v.inr (by omega)
  have v2 := v1.put (g := b + 1) (x := st) (by omega) hstr (.inr (by
    obtain ⟨c1, c2⟩ := cy_mid (r := s1.row) (g := b + 1) hl1 (by omega) (by omega)
    rw [c1, c2, show b + 1 - 1 = b by omega, show b + 1 + 1 = b + 2 by omega, o1 (b + 2) (by omega)]
    exact a12))
  have k2 := (gput_len (b + 1) st s1).2
  have t2 : ∀ i, (gput (b + 1) st s1).row.getD i 0 = if i = b + 1 then st else s1.row.getD i 0 := fun i => gput_at (by omega)
  generalize gput (b + 1) st s1 = s2 at v2 k2 t2
  have hl2 := v2.len
  have v3 := v2.put (g := b - 1) (x := s2.row.getD 0 0) (by omega) (in_getD v2.inr (by omega)) (.inr (by
    obtain ⟨c1, c2⟩ := cy_mid (r := s2.row) (g := b - 1) hl2 (by omega) (by omega)
    rw [c1, c2, show b - 1 + 1 = b by omega, t2, t2, if_neg (by omega), if_neg (by omega), o1 (b - 1 - 1) (by omega), bl (b - 1 - 1) (by omega) (by omega)]
    exact fun z => a11 z.symm))
  have k3 := (gput_len (b - 1) (s2.row.getD 0 0) s2).2
  have t3 : ∀ i, (gput (b - 1) (s2.row.getD 0 0) s2).row.getD i 0 = if i = b - 1 then s2.row.getD 0 0 else s2.row.getD i 0 := fun i => gput_at (by omega)
  have e20 : s2.row.getD 0 0 = s.row.getD 0 0 := by
    rw [t2, if_neg (by omega), o1 0 (by omega)]
  rw [e20] at v3 k3 t3 ⊢
  generalize gput (b - 1) (s.row.getD 0 0) s2 = s3 at v3 k3 t3
  have hl3 := v3.len
  have e31 : s3.row.getD 1 0 = s.row.getD 1 0 := by
    rw [t3, if_neg (by omega), t2, if_neg (by omega), o1 1 (by omega)]
  rw [e31]
  have v4 := v3.put (g := b) (x := s.row.getD 1 0) bn (in_getD v.inr (by omega)) (.inr (by
    obtain ⟨c1, c2⟩ := cy_mid (r := s3.row) (g := b) hl3 (by omega) (by omega)
    rw [c1, c2, t3, t3, if_pos rfl, if_neg (by omega), t2, if_pos rfl]
    exact fun z => ne z.symm))
  have k4 := (gput_len b (s.row.getD 1 0) s3).2
  have t4 : ∀ i, (gput b (s.row.getD 1 0) s3).row.getD i 0 = if i = b then s.row.getD 1 0 else if i = b - 1 then s.row.getD 0 0 else if i = b + 1 then st else s.row.getD i 0 := fun i => by
    rw [gput_at (by omega)]
    by_cases h1 : i = b
    · rw [if_pos h1, if_pos h1]
    · rw [if_neg h1, if_neg h1, t3]
      by_cases h2 : i = b - 1
      · rw [if_pos h2, if_pos h2]
      · rw [if_neg h2, if_neg h2, t2]
        by_cases h3 : i = b + 1
        · rw [if_pos h3, if_pos h3]
        · rw [if_neg h3, if_neg h3, o1 i h1]
  have e40 : (gput b (s.row.getD 1 0) s3).row.getD 0 0 = s.row.getD 0 0 := by
    rw [t4, if_neg (by omega), if_neg (by omega), if_neg (by omega)]
  have e41 : (gput b (s.row.getD 1 0) s3).row.getD 1 0 = s.row.getD 1 0 := by
    rw [t4, if_neg (by omega), if_neg (by omega), if_neg (by omega)]
  refine ⟨⟨v4, by omega, by omega, hb, fun i hi hi2 hi3 => ?_, ?_, by rw [e40]; exact ne, fun i hi hi2 => ?_⟩, by omega⟩
  · rw [e40, t4, if_neg (by omega)]
    by_cases h2 : i = b - 1
    · rw [if_pos h2]
    · rw [if_neg h2, if_neg (by omega)]
      exact wh i hi hi2 h2
  · rw [show b + 2 - 1 = b + 1 by omega, t4, if_neg (by omega), if_neg (by omega), if_pos rfl]
  · rw [e41, t4]
    by_cases h1 : i = b
    · rw [if_pos h1]
    · rw [if_neg h1, if_neg (by omega), if_neg (by omega)]
      exact bl i (by omega) hi2
/-- the end: one strange white -/
structure Done (p n : Nat) (r : List Int) (s : GS) : Prop where
  v : Val p n r s
  wh : ∀ i, i < n → i % 2 = 0 → i ≠ n - 2 → s.row.getD i 0 = s.row.getD 0 0
  ne : s.row.getD (n - 2) 0 ≠ s.row.getD 0 0
  bl : ∀ i, i < n → i % 2 = 1 → s.row.getD i 0 = s.row.getD 1 0
theorem blackRun_ok {p n : Nat} {r : List Int} {st : Int} (hp : 3 ≤ p) (he : n % 2 = 0) : ∀ (k b : Nat) (s : GS), BI p n r st s b → b + 2 * k + 1 = n → Done p n r (blackRun p st k b s) ∧ (blackRun p st k b s).sets.length ≤ s.sets.length + 4 * k + 1
  | 0, b, s, h, hk => by
    obtain ⟨v, odd, b3, bn, wh, hst, ne, bl⟩ := h
    have hl := v.len
    have hb : b = n - 1 := by omega
    subst hb
    unfold blackRun
    have v1 := v.put (g := n - 1) (x := s.row.getD 1 0) bn (in_getD v.inr (by omega)) (.inr (by
      obtain ⟨c1, c2⟩ := cy_end (r := s.row) hl (by omega)
      rw [c1, c2, show n - 2 = n - 1 - 1 by omega, hst]
      exact ne))
    have k1 := (gput_len (n - 1) (s.row.getD 1 0) s).2
    have t1 : ∀ i, (gput (n - 1) (s.row.getD 1 0) s).row.getD i 0 = if i = n - 1 then s.row.getD 1 0 else s.row.getD i 0 := fun i => gput_at (by omega)
    refine ⟨⟨v1, fun i hi hi2 hi3 => ?_, ?_, fun i hi hi2 => ?_⟩, by omega⟩
    · rw [t1, t1, if_neg (by omega), if_neg (by omega)]
      exact wh i hi hi2 (by omega)
    · rw [t1, t1, if_neg (by omega), if_neg (by omega), show n - 2 = n - 1 - 1 by omega, hst]
      exact ne
    · rw [t1, t1, if_neg (by omega : ¬ (1 = n - 1))]
      by_cases h1 : i = n - 1
      · rw [if_pos h1]
      · rw [if_neg h1]
        exact bl i (by omega) hi2
  | k + 1, b, s, h, hk => by
    unfold blackRun
    obtain ⟨h1, k1⟩ := black1_ok hp he h (by omega)
    obtain ⟨h2, k2⟩ := blackRun_ok hp he k (b + 2) _ h1 (by omega)
    exact ⟨h2, by omega⟩
end Q
end
section
set_option Elab.async false
set_option linter.all false
set_option maxRecDepth 100000
set_option maxHeartbeats 4000000
set_option autoImplicit false
/-! Pk: the told game is right. -/
namespace Q
open PySem
theorem off_first {n : Nat} {r : List Int} (hl : r.length = n) (he : n % 2 = 0) (hb : Bad n r) : ∃ b bs, offBlacks r = b :: bs ∧ b % 2 = 1 ∧ 3 ≤ b ∧ b < n ∧ r.getD b 0 ≠ r.getD 1 0 ∧ ∀ i, i < b → i % 2 = 1 → r.getD i 0 = r.getD 1 0 := by
  have hne : offBlacks r ≠ [] := by
    obtain ⟨a, ha, ha2, ha3⟩ := hb
    intro z
    unfold offBlacks at z
    have ha1 : a ≠ 1 := fun z => ha3 (by rw [z])
    have := List.filter_eq_nil_iff.mp z a (List.mem_map.mpr ⟨(a - 3) / 2, List.mem_range.mpr (by rw [hl]; omega), by omega⟩)
    simp at this
    exact ha3 this
  obtain ⟨b, bs, hbs⟩ := List.exists_cons_of_ne_nil hne
  refine ⟨b, bs, hbs, ?_⟩
  unfold offBlacks at hbs
  obtain ⟨l1, l2, e1, e2, e3, e4⟩ := List.filter_eq_cons_iff.mp hbs
  have hat : ∀ t, t < r.length / 2 - 1 → (l1 ++ b :: l2)[t]? = some (3 + 2 * t) := fun t ht => by
    rw [← e1, List.getElem?_map, List.getElem?_range ht]
    rfl
  have hll : l1.length < r.length / 2 - 1 := by
    have := congrArg List.length e1
    rw [List.length_map, List.length_range, List.length_append, List.length_cons] at this
    omega
  have hb1 := hat l1.length hll
  rw [List.getElem?_append_right (Nat.le_refl _), Nat.sub_self] at hb1
  have hb1 : b = 3 + 2 * l1.length := Option.some.inj hb1
  refine ⟨by omega, by omega, by omega, by simpa using e3, fun i hi hi2 => ?_⟩
  rcases Nat.lt_or_ge i 3 with h | h
  · rw [show i = 1 by omega]
  · have ht := hat ((i - 3) / 2) (by omega)
    rw [List.getElem?_append_left (by omega), show 3 + 2 * ((i - 3) / 2) = i by omega] at ht
    have := e2 i (List.mem_of_getElem? ht)
    simpa using this
theorem game_done {p n : Nat} {r : List Int} (hp : 3 ≤ p) (h4 : 4 ≤ n) (he : n % 2 = 0) (hr : RowOk p n r) (hc : lchess r = false) : offBlacks (gwhites p ⟨r, []⟩).row ≠ [] ∧ Done p n r (gameIn p r) ∧ (gameIn p r).sets.length + 8 ≤ 3 * n := by
  obtain ⟨v, hw, hb, hk⟩ := gwhites_ok hp h4 he hr hc
  unfold gameIn gblacks
  generalize gwhites p ⟨r, []⟩ = s at v hw hb hk
  have hl := v.len
  obtain ⟨b, bs, hbs, b1, b3, bn, bne, bbl⟩ := off_first hl he hb
  refine ⟨by rw [hbs]; exact (fun z => by cases z), ?_⟩
  rw [hbs]
  dsimp only [List.headD_cons]
  obtain ⟨v1, a1, o1⟩ := v.part (g := b - 1) (os := [s.row.getD 0 0]) hp (by omega) (by show 1 ≤ 2; omega) fun _ => by
    obtain ⟨c1, c2⟩ := cy_mid (r := s.row) (g := b - 1) hl (by omega) (by omega)
    rw [c1, c2, show b - 1 + 1 = b by omega, bbl (b - 1 - 1) (by omega) (by omega)]
    exact fun z => bne z.symm
  have k1 := (gpart_len p (b - 1) [s.row.getD 0 0] s).2
  generalize gpart p (b - 1) [s.row.getD 0 0] s = s1 at v1 a1 o1 k1
  have hB : BI p n r (s1.row.getD (b - 1) 0) s1 b := by
    refine ⟨v1, b1, b3, bn, fun i hi hi2 hi3 => ?_, rfl, ?_, fun i hi hi2 => ?_⟩
    · rw [o1 i hi3, o1 0 (by omega)]
      exact hw i hi hi2
    · rw [o1 0 (by omega)]
      exact fun z => a1 (by rw [z]; exact List.mem_cons_self)
    · rw [o1 i (by omega), o1 1 (by omega)]
      exact bbl i hi hi2
  obtain ⟨hd, hk2⟩ := blackRun_ok hp he ((s.row.length - 1 - b) / 2) b s1 hB (by rw [hl]; omega)
  refine ⟨hd, ?_⟩
  rw [hl] at hk2 ⊢
  omega
theorem done_near {p n : Nat} {r : List Int} {s : GS} (h4 : 4 ≤ n) (he : n % 2 = 0) (d : Done p n r s) : n - 2 ∈ lstrange s.row := by
  have hl := d.v.len
  rw [strange_mem (by omega) (by omega)]
  refine ⟨by omega, fun i hi hi2 => ?_, s.row.getD 0 0, d.ne, fun i hi hi2 hi3 => d.wh i (by omega) (by omega) hi3⟩
  have e : 1 - (n - 2) % 2 = 1 := by omega
  rw [e] at hi2 ⊢
  exact d.bl i (by omega) hi2
/-- the told game -/
theorem told_law {p n : Nat} {r : List Int} (hp : P3 p) (h4 : 4 ≤ n) (h10 : n ≤ 10) (he : n % 2 = 0) (hr : RowOk p n r) (hc : lchess r = false) : GameOk p n r ∧ ∃ qs r' cs, (gameIn p r).sets.map gpD = qs.map pairN ∧ (∀ q ∈ qs, q.1 < n ∧ q.2 < p) ∧ qs.length + 7 ≤ 3 * n ∧ played p r qs [] = some (r', cs) ∧
    lstrange r' ≠ [] ∧ crossed p r cs = r' ∧ cs.length * 2 ≤ qs.length * (p - 1) ∧ RowOk p n r' ∧ ∀ c ∈ cs, c.2 < n := by
  have hp3 : 3 ≤ p := by rcases hp with rfl | rfl | rfl <;> omega
  have hp100 : p ≤ 100 := by rcases hp with rfl | rfl | rfl <;> omega
  obtain ⟨h1, hd, hk⟩ := game_done hp3 h4 he hr hc
  refine ⟨⟨hp3, hp100, h4, by omega, he, hr.1, h1⟩, ?_⟩
  have hn := done_near h4 he hd
  obtain ⟨qs, cs, e1, e2, e3⟩ := hd.v.ex
  obtain ⟨cs1, f1, f2, f3, f4, f5⟩ := played_cross hp (by rw [hr.1]; omega) hr.2 (by rw [hr.1]; exact e2) e3
  have f1 : cs = cs1 := f1
  subst f1
  have hql : qs.length = (gameIn p r).sets.length := by
    have := congrArg List.length e1
    rw [List.length_map, List.length_map] at this
    omega
  exact ⟨qs, _, cs, e1, e2, by omega, e3, (fun z => by rw [z] at hn; cases hn), f2, f3, ⟨hd.v.len, hd.v.inr⟩, by rw [hr.1] at f4; exact f4⟩
end Q
end
section
set_option Elab.async false
set_option linter.all false
set_option maxRecDepth 100000
set_option maxHeartbeats 4000000
set_option autoImplicit false
/-! Pl: the fewest pairs. -/
namespace Q
open PySem
theorem played_reach {p n : Nat} {r0 : List Int} : ∀ {qs : List (Nat × Nat)} {r r' : List Int} {cs cs' : List (Bool × Nat)} {k : Nat}, Reach p r0 k r → RowOk p n r → 0 < n → (∀ q ∈ qs, q.1 < n ∧ q.2 < p) → played p r qs cs = some (r', cs') → ∃ j, j ≤ k + qs.length ∧ Reach p r0 j r'
  | [], r, r', cs, cs', k, hR, hr, hn, hq, h => by
    unfold played at h
    cases h
    exact ⟨k, Nat.le_refl _, hR⟩
  | (g, x) :: qs, r, r', cs, cs', k, hR, hr, hn, hq, h => by
    obtain ⟨hg, hx⟩ := hq (g, x) List.mem_cons_self
    have hg : g < n := hg
    have hx : x < p := hx
    unfold played at h
    split at h
    · cases h
    · rename_i z
      have hok : RowOk p n (r.set g (x : Int)) := ⟨by rw [List.length_set]; exact hr.1, inR_set hr.2 hx⟩
      by_cases e : (x : Int) = r.getD g 0
      · have es : r.set g (x : Int) = r := by
          rw [e, List.getD_eq_getElem?_getD, List.getElem?_eq_getElem (by rw [hr.1]; exact hg)]
          exact List.set_getElem_self _
        rw [es] at h
        obtain ⟨j, hj, hR'⟩ := played_reach hR hr hn (fun q hq' => hq q (List.mem_cons_of_mem _ hq')) h
        exact ⟨j, by rw [List.length_cons]; omega, hR'⟩
      · have hm : mayIn r g = true := by
          unfold mayIn
          have := step_zero (g := g) hr.2 (by rw [hr.1]; exact hn)
          simp
          exact fun z2 => z (this.mpr z2)
        have hR2 : Reach p r0 (k + 1) (r.set g (x : Int)) := ⟨r, hR, lnext_mem.mpr ⟨g, by rw [hr.1]; exact hg, hm, x, hx, e, rfl⟩⟩
        obtain ⟨j, hj, hR'⟩ := played_reach hR2 hok hn (fun q hq' => hq q (List.mem_cons_of_mem _ hq')) h
        exact ⟨j, by rw [List.length_cons]; omega, hR'⟩
theorem least_of {P : Nat → Prop} : ∀ n, P n → ∃ k, k ≤ n ∧ P k ∧ ∀ j, P j → k ≤ j := by
  intro n
  induction n using Nat.strongRecOn with
  | _ n ih =>
    intro h
    by_cases e : ∃ j, j < n ∧ P j
    · obtain ⟨j, hj, hp⟩ := e
      obtain ⟨k, h1, h2, h3⟩ := ih j hj hp
      exact ⟨k, by omega, h2, h3⟩
    · exact ⟨n, Nat.le_refl _, h, fun j hj => Classical.byContradiction fun z => e ⟨j, by omega, hj⟩⟩
theorem six_games : ∀ a : Nat, a < 3 → ∀ b : Nat, b < 3 → ∀ c : Nat, c < 3 → ∀ d : Nat, d < 3 → ∀ e : Nat, e < 3 → ∀ f : Nat, f < 3 → (lchess [(a : Int), (b : Int), (c : Int), (d : Int), (e : Int), (f : Int)] || decide ((gameIn 3 [(a : Int), (b : Int), (c : Int), (d : Int), (e : Int), (f : Int)]).sets.length ≤ 8)) = true := by decide +kernel
theorem six_le {r : List Int} (hr : RowOk 3 6 r) (hc : lchess r = false) : (gameIn 3 r).sets.length ≤ 8 := by
  obtain ⟨hl, hi⟩ := hr
  match r, hl with
  | [a, b, c, d, e, f], _ =>
    have ha := hi a (by simp)
    have hb := hi b (by simp)
    have hcc := hi c (by simp)
    have hd := hi d (by simp)
    have he := hi e (by simp)
    have hf := hi f (by simp)
    have h := six_games a.toNat (by omega) b.toNat (by omega) c.toNat (by omega) d.toNat (by omega) e.toNat (by omega) f.toNat (by omega)
    rw [Int.toNat_of_nonneg ha.1, Int.toNat_of_nonneg hb.1, Int.toNat_of_nonneg hcc.1, Int.toNat_of_nonneg hd.1, Int.toNat_of_nonneg he.1, Int.toNat_of_nonneg hf.1, hc, Bool.false_or] at h
    exact of_decide_eq_true h
theorem few_law {p n : Nat} {r : List Int} (hp : P3 p) (h4 : 4 ≤ n) (h6 : n ≤ 6) (he : n % 2 = 0) (hr : RowOk p n r) (hc : lchess r = false) (hnp : n = 4 ∨ p = 3) : ∃ k, IsDist p r k ∧ k ≤ 8 ∧ ∀ (qs : List (Nat × Nat)) r' cs, (∀ q ∈ qs, q.1 < n ∧ q.2 < p) → played p r qs [] = some (r', cs) → lstrange r' ≠ [] → k ≤ qs.length := by
  obtain ⟨_, qs, r', cs, e1, e2, e3, e4, e5, _⟩ := told_law hp h4 (by omega) he hr hc
  obtain ⟨hnot, hdn, hk⟩ := game_done (by rcases hp with rfl | rfl | rfl <;> omega) h4 he hr hc
  have hql : qs.length = (gameIn p r).sets.length := by
    have := congrArg List.length e1
    rw [List.length_map, List.length_map] at this
    omega
  have h8 : qs.length ≤ 8 := by
    rcases hnp with rfl | rfl
    · omega
    · have : n = 4 ∨ n = 6 := by omega
      rcases this with rfl | rfl
      · omega
      · rw [hql]
        exact six_le hr hc
  obtain ⟨j, hj, hR⟩ := played_reach (r0 := r) (k := 0) (show Reach p r 0 r from rfl) hr (by omega) e2 e4
  obtain ⟨k, k1, ⟨x, k2, k3⟩, k4⟩ := least_of (P := fun k => ∃ x, Reach p r k x ∧ lstrange x ≠ []) j ⟨r', hR, e5⟩
  refine ⟨k, ⟨⟨x, k2, k3⟩, fun j x h1 h2 => k4 j ⟨x, h1, h2⟩⟩, by omega, fun qs2 r2 cs2 h1 h2 h3 => ?_⟩
  obtain ⟨j2, hj2, hR2⟩ := played_reach (r0 := r) (k := 0) (show Reach p r 0 r from rfl) hr (by omega) h1 h2
  have := k4 j2 ⟨r2, hR2, h3⟩
  omega
end Q
end
section
set_option Elab.async false
set_option linter.all false
set_option maxRecDepth 100000
set_option maxHeartbeats 4000000
set_option autoImplicit false
/-! Pm: the alternating product of two rows read around, as one list of pairs. -/
namespace Q
abbrev Pr := Int × Int
def cr (a b : Pr) : Int := a.1 * b.2 - b.1 * a.2
/-- along a path from a, then to z -/
def wlk (z : Pr) : Pr → List Pr → Int
  | a, [] => cr a z
  | a, b :: l => cr a b + wlk z b l
def cyc : List Pr → Int
  | [] => 0
  | a :: l => wlk a a l
theorem wlk_app (z : Pr) : ∀ (l : List Pr) (a b : Pr) (m : List Pr), wlk z a (l ++ b :: m) = wlk b a l + wlk z b m
  | [], a, b, m => rfl
  | c :: l, a, b, m => by
    show cr a c + wlk z c (l ++ b :: m) = cr a c + wlk b c l + wlk z b m
    rw [wlk_app z l c b m, Int.add_assoc]
/-- read from any place -/
theorem cyc_rot (l m : List Pr) : cyc (l ++ m) = cyc (m ++ l) := by
  cases l with
  | nil => rw [List.nil_append, List.append_nil]
  | cons a l =>
    cases m with
    | nil => rw [List.nil_append, List.append_nil]
    | cons b m =>
      show wlk a a (l ++ b :: m) = wlk b b (m ++ a :: l)
      rw [wlk_app, wlk_app, Int.add_comm]
theorem cr_self (a : Pr) : cr a a = 0 := by
  unfold cr
  omega
theorem cr_anti (a b : Pr) : cr a b = - cr b a := by
  unfold cr
  omega
/-- there and back -/
theorem cyc_join (a b : Pr) (w : List Pr) : cyc (a :: b :: a :: w) = cyc (a :: w) := by
  show cr a b + (cr b a + wlk a a w) = wlk a a w
  rw [cr_anti a b]
  omega
theorem cyc_two (a b : Pr) : cyc [a, b] = 0 := by
  show cr a b + cr b a = 0
  rw [cr_anti a b]
  omega
theorem cyc_one (a : Pr) : cyc [a] = 0 := cr_self a
/-- a crossing -/
def xo (e : Int) (a b c : Pr) : Pr := (b.1 + e * (a.1 - c.1), b.2 + e * (a.2 - c.2))
theorem cyc_cross (e : Int) (a b c : Pr) (w : List Pr) : cyc (a :: xo e a b c :: c :: w) = cyc (a :: b :: c :: w) := by
  show cr a (xo e a b c) + (cr (xo e a b c) c + wlk a c w) = cr a b + (cr b c + wlk a c w)
  have : cr a (xo e a b c) + cr (xo e a b c) c = cr a b + cr b c := by
    unfold cr xo
    simp only [Int.mul_add, Int.add_mul, Int.mul_sub, Int.sub_mul]
    have h1 : a.1 * (e * a.2) = e * a.1 * a.2 := by rw [Int.mul_left_comm, Int.mul_assoc]
    have h2 : a.1 * (e * c.2) = e * a.1 * c.2 := by rw [Int.mul_left_comm, Int.mul_assoc]
    have h3 : c.1 * (e * a.2) = e * c.1 * a.2 := by rw [Int.mul_left_comm, Int.mul_assoc]
    have h4 : c.1 * (e * c.2) = e * c.1 * c.2 := by rw [Int.mul_left_comm, Int.mul_assoc]
    rw [h1, h2, h3, h4]
    omega
  omega
/-! round the clock -/
def red (p : Nat) (q : Pr) : Pr := (q.1 % (p : Int), q.2 % (p : Int))
theorem cr_red (p : Nat) (a b : Pr) : cr (red p a) (red p b) % (p : Int) = cr a b % (p : Int) := by
  unfold cr red
  dsimp only
  rw [Int.sub_emod, ← Int.mul_emod, ← Int.mul_emod, ← Int.sub_emod]
theorem wlk_red (p : Nat) (z : Pr) : ∀ (l : List Pr) (a : Pr), wlk (red p z) (red p a) (l.map (red p)) % (p : Int) = wlk z a l % (p : Int)
  | [], a => cr_red p a z
  | b :: l, a => by
    show (cr (red p a) (red p b) + wlk (red p z) (red p b) (l.map (red p))) % (p : Int) = (cr a b + wlk z b l) % (p : Int)
    rw [Int.add_emod, cr_red, wlk_red p z l b, ← Int.add_emod]
theorem cyc_red (p : Nat) : ∀ l : List Pr, cyc (l.map (red p)) % (p : Int) = cyc l % (p : Int)
  | [] => rfl
  | a :: l => wlk_red p a l a
/-- two lists alike round the clock -/
theorem cyc_cong {p : Nat} {l m : List Pr} (h : l.map (red p) = m.map (red p)) : cyc l % (p : Int) = cyc m % (p : Int) := by
  rw [← cyc_red p l, h, cyc_red p m]
/-- the product of two rows -/
def om (r s : List Int) : Int := cyc (r.zip s)
theorem om_rot {r s : List Int} {g : Nat} (h : r.length = s.length) : om (r.drop g ++ r.take g) (s.drop g ++ s.take g) = om r s := by
  unfold om
  rw [List.zip_append (by rw [List.length_drop, List.length_drop, h]), cyc_rot, ← List.zip_append (by rw [List.length_take, List.length_take, h]), List.take_append_drop, List.take_append_drop]
theorem split3 {α : Type} {r : List α} {g : Nat} (h1 : 1 ≤ g) (h2 : g + 1 < r.length) : ∃ u a b c w, r = u ++ a :: b :: c :: w ∧ u.length + 1 = g := by
  refine ⟨r.take (g - 1), r[g - 1], r[g], r[g + 1], r.drop (g + 2), ?_, by rw [List.length_take]; omega⟩
  have e1 : r.drop (g - 1) = r[g - 1] :: r.drop g := by
    rw [List.drop_eq_getElem_cons (by omega)]
    congr 2
    omega
  have e2 : r.drop g = r[g] :: r.drop (g + 1) := List.drop_eq_getElem_cons (by omega)
  have e3 : r.drop (g + 1) = r[g + 1] :: r.drop (g + 2) := List.drop_eq_getElem_cons (by omega)
  rw [← e3, ← e2, ← e1, List.take_append_drop]
end Q
end
section
set_option Elab.async false
set_option linter.all false
set_option maxRecDepth 100000
set_option maxHeartbeats 4000000
set_option autoImplicit false
/-! Pn: the product under crossings. -/
namespace Q
def rot (r : List Int) (k : Nat) : List Int := r.drop k ++ r.take k
theorem rot_len {r : List Int} {k : Nat} : (rot r k).length = r.length := by
  unfold rot
  rw [List.length_append, List.length_drop, List.length_take]
  omega
theorem rot_at {r : List Int} {k i : Nat} (hk : k < r.length) (hi : i < r.length) : (rot r k).getD i 0 = cy r (k + i) := by
  unfold rot cy
  simp only [List.getD_eq_getElem?_getD]
  rcases Nat.lt_or_ge i (r.length - k) with h | h
  · rw [List.getElem?_append_left (by rw [List.length_drop]; exact h), List.getElem?_drop, Nat.mod_eq_of_lt (by omega)]
  · rw [List.getElem?_append_right (by rw [List.length_drop]; exact h), List.length_drop, List.getElem?_take_of_lt (by omega), show k + i = (k + i - r.length) + r.length by omega, Nat.add_mod_right, Nat.mod_eq_of_lt (by omega)]
    congr 2
    omega
theorem list_ext {r s : List Int} (hl : r.length = s.length) (h : ∀ i, i < r.length → r.getD i 0 = s.getD i 0) : r = s := by
  apply List.ext_getElem hl
  intro i h1 h2
  have := h i h1
  rw [List.getD_eq_getElem?_getD, List.getD_eq_getElem?_getD, List.getElem?_eq_getElem h1, List.getElem?_eq_getElem h2] at this
  exact this
theorem om_rot' {r s : List Int} {k : Nat} (h : r.length = s.length) : om (rot r k) (rot s k) = om r s := om_rot h
theorem rot_set {r : List Int} {k g : Nat} {y : Int} (hk : k < r.length) (hg : g < r.length) : rot (r.set g y) k = (rot r k).set ((g + r.length - k) % r.length) y := by
  apply list_ext
  · rw [rot_len, List.length_set, List.length_set, rot_len]
  · intro i hi
    rw [rot_len, List.length_set] at hi
    rw [rot_at (by rw [List.length_set]; exact hk) (by rw [List.length_set]; exact hi)]
    unfold cy
    rw [List.length_set]
    have hm := Nat.mod_lt (g + r.length - k) (show 0 < r.length by omega)
    have hki : (k + i) % r.length = if k + i < r.length then k + i else k + i - r.length := by
      split
      · exact Nat.mod_eq_of_lt (by assumption)
      · rw [show k + i = (k + i - r.length) + r.length by omega, Nat.add_mod_right, Nat.mod_eq_of_lt (by omega)]
        omega
    have hgk : (g + r.length - k) % r.length = if k ≤ g then g - k else g + r.length - k := by
      split
      · rw [show g + r.length - k = (g - k) + r.length by omega, Nat.add_mod_right, Nat.mod_eq_of_lt (by omega)]
      · exact Nat.mod_eq_of_lt (by omega)
    have hiff : (k + i) % r.length = g ↔ i = (g + r.length - k) % r.length := by
      rw [hki, hgk]
      split <;> split <;> omega
    have hb := Nat.mod_lt (k + i) (show 0 < r.length by omega)
    by_cases e : (k + i) % r.length = g
    · have e2 := hiff.mp e
      rw [e, ← e2, List.getD_eq_getElem?_getD, List.getElem?_set_self hg, List.getD_eq_getElem?_getD, List.getElem?_set_self (by rw [rot_len]; exact hi)]
    · have e2 : ¬ i = (g + r.length - k) % r.length := fun z => e (hiff.mpr z)
      have hz := rot_at (r := r) hk hi
      unfold cy at hz
      rw [List.getD_eq_getElem?_getD, List.getElem?_set_ne (Ne.symm e), List.getD_eq_getElem?_getD, List.getElem?_set_ne (Ne.symm e2), ← List.getD_eq_getElem?_getD, ← List.getD_eq_getElem?_getD, hz]
theorem rot_three {r : List Int} {g : Nat} (h3 : 3 ≤ r.length) (hg : g < r.length) : ∃ w, rot r ((g + r.length - 1) % r.length) = cy r (g + r.length - 1) :: r.getD g 0 :: cy r (g + 1) :: w ∧ w.length + 3 = r.length := by
  have hk := Nat.mod_lt (g + r.length - 1) (show 0 < r.length by omega)
  have hl := rot_len (r := r) (k := (g + r.length - 1) % r.length)
  have a0 := rot_at (r := r) (i := 0) hk (by omega)
  have a1 := rot_at (r := r) (i := 1) hk (by omega)
  have a2 := rot_at (r := r) (i := 2) hk (by omega)
  have c0 : cy r ((g + r.length - 1) % r.length + 0) = cy r (g + r.length - 1) := by
    unfold cy
    rw [Nat.add_zero, Nat.mod_mod]
  have c1 : cy r ((g + r.length - 1) % r.length + 1) = r.getD g 0 := by
    unfold cy
    rw [Nat.mod_add_mod, show g + r.length - 1 + 1 = g + r.length by omega, Nat.add_mod_right, Nat.mod_eq_of_lt hg]
  have c2 : cy r ((g + r.length - 1) % r.length + 2) = cy r (g + 1) := by
    unfold cy
    rw [Nat.mod_add_mod, show g + r.length - 1 + 2 = (g + 1) + r.length by omega, Nat.add_mod_right]
  rw [c0] at a0
  rw [c1] at a1
  rw [c2] at a2
  match hr : rot r ((g + r.length - 1) % r.length), hl, a0, a1, a2 with
  | a :: b :: c :: w, hl, a0, a1, a2 =>
    refine ⟨w, ?_, by simpa using hl⟩
    rw [← a0, ← a1, ← a2]
    rfl
  | [], hl, _, _, _ => simp at hl; omega
  | [a], hl, _, _, _ => simp at hl; omega
  | [a, b], hl, _, _, _ => simp at hl; omega
theorem om_cross {p : Nat} {r s : List Int} {q : Bool × Nat} (h3 : 3 ≤ r.length) (hl : r.length = s.length) (hg : q.2 < r.length) : om (cross1 p r q) (cross1 p s q) % (p : Int) = om r s % (p : Int) := by
  obtain ⟨b, g⟩ := q
  have hg : g < r.length := hg
  obtain ⟨w, hw, hwl⟩ := rot_three h3 hg
  obtain ⟨w', hw', hwl'⟩ := rot_three (r := s) (g := g) (by omega) (by omega)
  have hk := Nat.mod_lt (g + r.length - 1) (show 0 < r.length by omega)
  have hone : (g + r.length - (g + r.length - 1) % r.length) % r.length = 1 := by
    rcases Nat.eq_zero_or_pos g with rfl | h0
    · rw [show (0 + r.length - 1) % r.length = r.length - 1 by rw [Nat.zero_add]; exact Nat.mod_eq_of_lt (by omega), show 0 + r.length - (r.length - 1) = 1 by omega, Nat.mod_eq_of_lt (by omega)]
    · rw [show (g + r.length - 1) % r.length = g - 1 by rw [show g + r.length - 1 = (g - 1) + r.length by omega, Nat.add_mod_right]; exact Nat.mod_eq_of_lt (by omega), show g + r.length - (g - 1) = 1 + r.length by omega, Nat.add_mod_right, Nat.mod_eq_of_lt (by omega)]
  have hw2 := hw'
  rw [← hl] at hw2
  have e : ∀ t : List Int, t.length = r.length → cross1 p t (b, g) = t.set g ((t.getD g 0 + (if b then (1 : Int) else -1) * (cy t (g + t.length - 1) - cy t (g + 1))) % (p : Int)) := fun t _ => by
    unfold cross1 stepAt
    cases b
    · show t.set g ((t.getD g 0 + -(cy t (g + t.length - 1) - cy t (g + 1))) % (p : Int)) = _
      rw [if_neg (by decide), Int.neg_mul, Int.one_mul]
    · show t.set g ((t.getD g 0 + (cy t (g + t.length - 1) - cy t (g + 1))) % (p : Int)) = _
      rw [if_pos rfl, Int.one_mul]
  rw [e r rfl, e s hl.symm, ← hl, ← om_rot' (k := (g + r.length - 1) % r.length) (by rw [List.length_set, List.length_set, hl]), ← om_rot' (r := r) (s := s) (k := (g + r.length - 1) % r.length) hl, rot_set hk hg, rot_set (by rw [← hl]; exact hk) (by rw [← hl]; exact hg), ← hl, hone, hw, hw2]
  generalize (if b then (1 : Int) else -1) = ε
  show cyc ((_, _) :: (_, _) :: (_, _) :: w.zip w') % (p : Int) = cyc ((_, _) :: (_, _) :: (_, _) :: w.zip w') % (p : Int)
  rw [← cyc_cross ε (cy r (g + r.length - 1), cy s (g + r.length - 1)) (r.getD g 0, s.getD g 0) (cy r (g + 1), cy s (g + 1)) (w.zip w')]
  apply cyc_cong
  rw [List.map_cons, List.map_cons, List.map_cons, List.map_cons, List.map_cons, List.map_cons]
  congr 2
  unfold red xo
  dsimp only
  rw [Int.emod_emod_of_dvd _ (Int.dvd_refl _), Int.emod_emod_of_dvd _ (Int.dvd_refl _)]
end Q
end
section
set_option Elab.async false
set_option linter.all false
set_option maxRecDepth 100000
set_option maxHeartbeats 4000000
set_option autoImplicit false
/-! Po: the product with a nearly chess row. -/
namespace Q
theorem om_crossed {p : Nat} : ∀ {cs : List (Bool × Nat)} {r s : List Int}, 3 ≤ r.length → r.length = s.length → (∀ c ∈ cs, c.2 < r.length) → om (crossed p r cs) (crossed p s cs) % (p : Int) = om r s % (p : Int)
  | [], r, s, h3, hl, hc => rfl
  | c :: cs, r, s, h3, hl, hc => by
    have l1 : ∀ t : List Int, (cross1 p t c).length = t.length := fun t => List.length_set
    show om (crossed p (cross1 p r c) cs) (crossed p (cross1 p s c) cs) % (p : Int) = _
    rw [om_crossed (by rw [l1]; exact h3) (by rw [l1, l1]; exact hl) (fun d hd => by rw [l1]; exact hc d (List.mem_cons_of_mem _ hd)), om_cross h3 hl (hc c List.mem_cons_self)]
theorem om_set {r s : List Int} {g : Nat} {x : Int} (h3 : 3 ≤ r.length) (hl : r.length = s.length) (hg : g < r.length) : om (r.set g x) s = om r s + (x - r.getD g 0) * (cy s (g + 1) - cy s (g + s.length - 1)) := by
  obtain ⟨w, hw, hwl⟩ := rot_three h3 hg
  obtain ⟨w', hw', hwl'⟩ := rot_three (r := s) (g := g) (by omega) (by omega)
  have hk := Nat.mod_lt (g + r.length - 1) (show 0 < r.length by omega)
  have hone : (g + r.length - (g + r.length - 1) % r.length) % r.length = 1 := by
    rcases Nat.eq_zero_or_pos g with rfl | h0
    · rw [show (0 + r.length - 1) % r.length = r.length - 1 by rw [Nat.zero_add]; exact Nat.mod_eq_of_lt (by omega), show 0 + r.length - (r.length - 1) = 1 by omega, Nat.mod_eq_of_lt (by omega)]
    · rw [show (g + r.length - 1) % r.length = g - 1 by rw [show g + r.length - 1 = (g - 1) + r.length by omega, Nat.add_mod_right]; exact Nat.mod_eq_of_lt (by omega), show g + r.length - (g - 1) = 1 + r.length by omega, Nat.add_mod_right, Nat.mod_eq_of_lt (by omega)]
  rw [← hl] at hw' ⊢
  rw [← om_rot' (k := (g + r.length - 1) % r.length) (by rw [List.length_set, hl]), ← om_rot' (r := r) (s := s) (k := (g + r.length - 1) % r.length) hl, rot_set hk hg, hone, hw, hw']
  generalize cy r (g + r.length - 1) = a
  generalize cy s (g + r.length - 1) = a'
  generalize r.getD g 0 = b
  generalize s.getD g 0 = b'
  generalize cy r (g + 1) = c
  generalize cy s (g + 1) = c'
  show cr (a, a') (x, b') + (cr (x, b') (c, c') + wlk (a, a') (c, c') (w.zip w')) = cr (a, a') (b, b') + (cr (b, b') (c, c') + wlk (a, a') (c, c') (w.zip w')) + (x - b) * (c' - a')
  unfold cr
  simp only [Int.sub_mul, Int.mul_sub]
  omega
/-- a chess row along another one -/
def alt : Int → Int → List Int → List Pr
  | _, _, [] => []
  | a, b, s :: l => (a, s) :: alt b a l
theorem wlk_alt (a b z : Int) : ∀ (k : Nat) (l : List Int) (s : Int), l.length = 2 * k + 1 → wlk (a, z) (a, s) (alt b a l) = b * (z - s)
  | 0, [t], s, _ => by
    show cr (a, s) (b, t) + cr (b, t) (a, z) = b * (z - s)
    unfold cr
    simp only [Int.mul_sub]
    omega
  | k + 1, t :: u :: l, s, h => by
    show cr (a, s) (b, t) + (cr (b, t) (a, u) + wlk (a, z) (a, u) (alt b a l)) = b * (z - s)
    rw [wlk_alt a b z k l u (by simp at h; omega)]
    unfold cr
    simp only [Int.mul_sub]
    omega
  | 0, [], s, h => by simp at h
  | 0, _ :: _ :: _, s, h => by simp at h
  | k + 1, [], s, h => by simp at h
  | k + 1, [_], s, h => by simp at h
theorem cyc_alt (a b : Int) {s : List Int} (he : s.length % 2 = 0) : cyc (alt a b s) = 0 := by
  cases s with
  | nil => rfl
  | cons x l =>
    show wlk (a, x) (a, x) (alt b a l) = 0
    rw [List.length_cons] at he
    rw [wlk_alt a b x (l.length / 2) l x (by omega)]
    simp
end Q
end
section
set_option Elab.async false
set_option linter.all false
set_option maxRecDepth 100000
set_option maxHeartbeats 4000000
set_option autoImplicit false
/-! Pq: rows that pass deeds. -/
namespace Q
/-- the ring behind a deed, f the fresh number -/
def nxRow (p : Nat) (f : Int) (r : List Int) : Deed → List Int
  | .cross b g => cross1 p r (b, g)
  | .join g => if 2 < r.length then r.take g ++ r.drop (g + 2) else r.take 1
  | .opn g => r.take (g + 1) ++ f :: r.drop g
  | .turn g => r.drop g ++ r.take g
def mayPass (r : List Int) : Deed → Prop
  | .join g => 2 < r.length → r.getD (g - 1) 0 = r.getD (g + 1) 0
  | _ => True
/-- a row that deeds let through -/
def Thr (p : Nat) : List Deed → List Int → Prop
  | [], _ => True
  | x :: xs, r => mayPass r x ∧ ∃ f : Int, 0 ≤ f ∧ f < (p : Int) ∧ Thr p xs (nxRow p f r x)
theorem om_join {r s : List Int} {g : Nat} (hl : r.length = s.length) (h1 : 1 ≤ g) (h2 : g + 1 < r.length) (hr : r.getD (g - 1) 0 = r.getD (g + 1) 0) (hs : s.getD (g - 1) 0 = s.getD (g + 1) 0) : om (r.take g ++ r.drop (g + 2)) (s.take g ++ s.drop (g + 2)) = om r s := by
  obtain ⟨u, a, b, c, w, e, hu⟩ := split3 h1 h2
  obtain ⟨u', a', b', c', w', e', hu'⟩ := split3 (r := s) h1 (by omega)
  have key : ∀ (u : List Int) (a b c : Int) (w : List Int), u.length + 1 = g → ((u ++ a :: b :: c :: w).getD (g - 1) 0 = a ∧ (u ++ a :: b :: c :: w).getD (g + 1) 0 = c ∧ (u ++ a :: b :: c :: w).take g ++ (u ++ a :: b :: c :: w).drop (g + 2) = u ++ a :: w) := fun u a b c w hu => by
    subst hu
    refine ⟨?_, ?_, ?_⟩
    · rw [List.getD_eq_getElem?_getD, Nat.add_sub_cancel, List.getElem?_append_right (Nat.le_refl _), Nat.sub_self]
      rfl
    · rw [List.getD_eq_getElem?_getD, List.getElem?_append_right (by omega), show u.length + 1 + 1 - u.length = 2 by omega]
      rfl
    · rw [List.take_append, List.take_of_length_le (by omega), show u.length + 1 - u.length = 1 by omega, List.drop_append, List.drop_eq_nil_of_le (by omega), show u.length + 1 + 2 - u.length = 3 by omega]
      simp
  obtain ⟨k1, k2, k3⟩ := key u a b c w hu
  obtain ⟨k1', k2', k3'⟩ := key u' a' b' c' w' hu'
  rw [e] at hr ⊢
  rw [e'] at hs ⊢
  rw [k1, k2] at hr
  rw [k1', k2'] at hs
  rw [k3, k3', ← hr, ← hs]
  have huu : u.length = u'.length := by omega
  unfold om
  rw [List.zip_append huu, List.zip_append huu, cyc_rot, cyc_rot (u.zip u')]
  exact (cyc_join (a, a') (b, b') (w.zip w' ++ u.zip u')).symm
theorem om_open {r s : List Int} {g : Nat} {f f' : Int} (hl : r.length = s.length) (hg : g < r.length) : om (r.take (g + 1) ++ f :: r.drop g) (s.take (g + 1) ++ f' :: s.drop g) = om r s := by
  have e1 : r.drop g = r[g] :: r.drop (g + 1) := List.drop_eq_getElem_cons hg
  have e2 : s.drop g = s[g]'(by omega) :: s.drop (g + 1) := List.drop_eq_getElem_cons (by omega)
  have t1 : r.take (g + 1) = r.take g ++ [r[g]] := by rw [List.take_add_one, List.getElem?_eq_getElem hg]; rfl
  have t2 : s.take (g + 1) = s.take g ++ [s[g]'(by omega)] := by rw [List.take_add_one, List.getElem?_eq_getElem (by omega)]; rfl
  have hr : r = r.take g ++ r[g] :: r.drop (g + 1) := by rw [← e1, List.take_append_drop]
  have hs : s = s.take g ++ s[g]'(by omega) :: s.drop (g + 1) := by rw [← e2, List.take_append_drop]
  have huu : (r.take g).length = (s.take g).length := by rw [List.length_take, List.length_take, hl]
  rw [e1, e2, t1, t2, List.append_assoc, List.append_assoc]
  have hz : om r s = om (r.take g ++ r[g] :: r.drop (g + 1)) (s.take g ++ s[g]'(by omega) :: s.drop (g + 1)) := by
    rw [← hr, ← hs]
  rw [hz]
  unfold om
  rw [List.zip_append huu, List.zip_append huu, cyc_rot, cyc_rot ((r.take g).zip (s.take g))]
  exact cyc_join (r[g], s[g]'(by omega)) (f, f') ((r.drop (g + 1)).zip (s.drop (g + 1)) ++ (r.take g).zip (s.take g))
theorem om_small {r s : List Int} (h : r.length ≤ 2) (hl : r.length = s.length) : om r s = 0 := by
  match r, s, h, hl with
  | [], [], _, _ => rfl
  | [a], [b], _, _ => exact cyc_one (a, b)
  | [a, c], [b, d], _, _ => exact cyc_two (a, b) (c, d)
/-- any two rows that pass are upright on each other -/
theorem thr_iso {p : Nat} : ∀ {xs : List Deed} {n : Nat} {r s : List Int}, Lv n xs 0 → r.length = n → s.length = n → Thr p xs r → Thr p xs s → om r s % (p : Int) = 0
  | [], n, r, s, hv, hr, hs, _, _ => by
    have : n = 0 := hv
    rw [om_small (by omega) (by omega)]
    rfl
  | x :: xs, n, r, s, hv, hr, hs, ⟨m1, f1, _, _, t1⟩, ⟨m2, f2, _, _, t2⟩ => by
    obtain ⟨h2, ho, hv'⟩ := hv
    rcases Nat.lt_or_ge 2 n with h3 | h3
    · cases x with
      | cross b g =>
        have hg : g < n := ho
        have := thr_iso (n := n) hv' (by show (cross1 p r (b, g)).length = n; unfold cross1; rw [List.length_set, hr]) (by show (cross1 p s (b, g)).length = n; unfold cross1; rw [List.length_set, hs]) t1 t2
        rw [← om_cross (p := p) (q := (b, g)) (by omega) (by omega) (by omega)]
        exact this
      | join g =>
        obtain ⟨hg1, hg2⟩ := ho h3
        have e1 : nxRow p f1 r (.join g) = r.take g ++ r.drop (g + 2) := if_pos (by omega)
        have e2 : nxRow p f2 s (.join g) = s.take g ++ s.drop (g + 2) := if_pos (by omega)
        rw [e1] at t1
        rw [e2] at t2
        have := thr_iso (n := n - 2) hv' (by rw [List.length_append, List.length_take, List.length_drop]; omega) (by rw [List.length_append, List.length_take, List.length_drop]; omega) t1 t2
        rw [om_join (by omega) hg1 (by omega) (m1 (by omega)) (m2 (by omega))] at this
        exact this
      | opn g =>
        have hg : g < n := ho
        have := thr_iso (n := n + 2) hv' (by show (r.take (g + 1) ++ f1 :: r.drop g).length = n + 2; rw [List.length_append, List.length_cons, List.length_take, List.length_drop]; omega) (by show (s.take (g + 1) ++ f2 :: s.drop g).length = n + 2; rw [List.length_append, List.length_cons, List.length_take, List.length_drop]; omega) t1 t2
        have e := om_open (r := r) (s := s) (g := g) (f := f1) (f' := f2) (by omega) (by omega)
        rw [← e]
        exact this
      | turn g =>
        have := thr_iso (n := n) hv' (by show (r.drop g ++ r.take g).length = n; rw [List.length_append, List.length_take, List.length_drop]; omega) (by show (s.drop g ++ s.take g).length = n; rw [List.length_append, List.length_take, List.length_drop]; omega) t1 t2
        have e := om_rot (r := r) (s := s) (g := g) (by omega)
        rw [← e]
        exact this
    · rw [om_small (by omega) (by omega)]
      rfl
end Q
end
section
set_option Elab.async false
set_option linter.all false
set_option maxRecDepth 100000
set_option maxHeartbeats 4000000
set_option autoImplicit false
/-! Pr: a chess row is upright on every row. -/
namespace Q
theorem zip_alt : ∀ (s c : List Int) (a b : Int), c.length = s.length → (∀ i, i < c.length → c.getD i 0 = if i % 2 = 0 then a else b) → c.zip s = alt a b s
  | [], [], a, b, _, _ => rfl
  | y :: s, x :: c, a, b, hl, h => by
    have h0 := h 0 (by simp)
    have h0 : x = a := h0
    show (x, y) :: c.zip s = (a, y) :: alt b a s
    rw [h0, zip_alt s c b a (by simpa using hl) fun i hi => ?_]
    have := h (i + 1) (by simp; omega)
    have e : (x :: c).getD (i + 1) 0 = c.getD i 0 := rfl
    rw [e] at this
    rw [this]
    by_cases hz : i % 2 = 0
    · rw [if_pos hz, if_neg (by omega)]
    · rw [if_neg hz, if_pos (by omega)]
  | [], _ :: _, _, _, hl, _ => by simp at hl
  | _ :: _, [], _, _, hl, _ => by simp at hl
theorem om_chess {c s : List Int} (h2 : 2 ≤ c.length) (he : c.length % 2 = 0) (hl : c.length = s.length) (hc : lchess c = true) : om c s = 0 := by
  obtain ⟨h0, h1⟩ := (chess_iff h2).mp hc
  unfold om
  rw [zip_alt s c (c.getD 0 0) (c.getD 1 0) hl fun i hi => ?_, cyc_alt _ _ (by omega)]
  rcases Nat.mod_two_eq_zero_or_one i with e | e
  · rw [e, if_pos rfl]
    exact h0 i hi e
  · rw [e, if_neg (by decide)]
    exact h1 i hi e
end Q
end
section
set_option Elab.async false
set_option linter.all false
set_option maxRecDepth 100000
set_option maxHeartbeats 4000000
set_option autoImplicit false
/-! Ps: led rows have alike neighbours at the strange gap. -/
namespace Q
theorem mul_zero_mod {p : Nat} (hp : P3 p) : ∀ {d e : Int}, d * e % (p : Int) = 0 → d % (p : Int) = 0 ∨ e % (p : Int) = 0 := by
  intro d e h
  rw [Int.mul_emod] at h
  have hd := Int.emod_nonneg d (b := (p : Int)) (by rcases hp with rfl | rfl | rfl <;> omega)
  have hd2 := Int.emod_lt_of_pos d (b := (p : Int)) (by rcases hp with rfl | rfl | rfl <;> omega)
  have he := Int.emod_nonneg e (b := (p : Int)) (by rcases hp with rfl | rfl | rfl <;> omega)
  have he2 := Int.emod_lt_of_pos e (b := (p : Int)) (by rcases hp with rfl | rfl | rfl <;> omega)
  generalize d % (p : Int) = a at *
  generalize e % (p : Int) = b at *
  have key : ∀ p : Nat, p ∈ [3, 5, 7] → ∀ a : Nat, a < p → ∀ b : Nat, b < p → (a : Int) * (b : Int) % (p : Int) = 0 → a = 0 ∨ b = 0 := by decide +kernel
  have hp' : p ∈ [3, 5, 7] := by rcases hp with rfl | rfl | rfl <;> simp
  have := key p hp' a.toNat (by omega) b.toNat (by omega) (by rw [Int.toNat_of_nonneg hd, Int.toNat_of_nonneg he]; exact h)
  omega
theorem led_alike {p n : Nat} {r' s : List Int} (hp : P3 p) (h4 : 4 ≤ n) (he : n % 2 = 0) (hr : RowOk p n r') (hs : RowOk p n s) {g : Nat} (hg : g ∈ lstrange r') (ho : om r' s % (p : Int) = 0) : cy s (g + n - 1) = cy s (g + 1) := by
  have hl := hr.1
  obtain ⟨hgn, hall, x, hx, hxs⟩ := (strange_mem (by omega) (by omega)).mp hg
  have hgn' : g < n := by omega
  have hch : lchess (r'.set g x) = true := by
    have hz : ∀ i, i < n → (r'.set g x).getD i 0 = if i = g then x else r'.getD i 0 := fun i _ => set_getD hgn
    have hA : ∀ c, c < 2 → allC (r'.set g x) c := fun c hc2 i hi hic => by
      rw [List.length_set, hl] at hi
      rw [hz i hi, hz c (by omega)]
      by_cases hcg : c = g % 2
      · have hv : ∀ j, j < n → j % 2 = g % 2 → (if j = g then x else r'.getD j 0) = x := fun j hj hj2 => by
          by_cases e : j = g
          · rw [if_pos e]
          · rw [if_neg e]
            exact hxs j (by omega) hj2 e
        rw [hv i hi (by omega), hv c (by omega) (by omega)]
      · have h1g : c = 1 - g % 2 := by omega
        have a := hall i (by omega) (by omega)
        rw [← h1g] at a
        rw [if_neg (by omega), if_neg (by omega)]
        exact a
    exact (chess_iff (by rw [List.length_set]; omega)).mpr ⟨hA 0 (by omega), hA 1 (by omega)⟩
  have h0 := om_chess (c := r'.set g x) (s := s) (by rw [List.length_set]; omega) (by rw [List.length_set]; omega) (by rw [List.length_set, hl, hs.1]) hch
  rw [om_set (by omega) (by rw [hl, hs.1]) hgn] at h0
  have h1 : (x - r'.getD g 0) * (cy s (g + 1) - cy s (g + s.length - 1)) % (p : Int) = 0 := by
    have : (x - r'.getD g 0) * (cy s (g + 1) - cy s (g + s.length - 1)) = - om r' s := by omega
    rw [this]
    exact Int.emod_eq_zero_of_dvd (Int.dvd_neg.mpr (Int.dvd_of_emod_eq_zero ho))
  have ho2 : ∃ i, i < n ∧ i % 2 = g % 2 ∧ i ≠ g := by
    rcases Nat.lt_or_ge g 2 with z | z
    · exact ⟨g + 2, by omega, by omega, by omega⟩
    · exact ⟨g - 2, by omega, by omega, by omega⟩
  obtain ⟨i, hi, hi2, hi3⟩ := ho2
  have hxi := hxs i (by omega) hi2 hi3
  have rx := in_getD hr.2 (i := i) (by omega)
  have rg := in_getD hr.2 (i := g) hgn
  have c1 := cy_in (i := g + 1) hs.2 (by rw [hs.1]; omega)
  have c2 := cy_in (i := g + s.length - 1) hs.2 (by rw [hs.1]; omega)
  have small : ∀ a b : Int, 0 ≤ a ∧ a < (p : Int) → 0 ≤ b ∧ b < (p : Int) → (a - b) % (p : Int) = 0 → a = b := fun a b ha hb hz => by
    have := Int.emod_eq_emod_iff_emod_sub_eq_zero.mpr hz
    rwa [Int.emod_eq_of_lt ha.1 ha.2, Int.emod_eq_of_lt hb.1 hb.2] at this
  rcases mul_zero_mod hp h1 with z | z
  · exact absurd (small _ _ (hxi ▸ rx) rg z).symm hx
  · have := small _ _ c1 c2 z
    rw [hs.1] at this
    exact this.symm
end Q
end
section
set_option Elab.async false
set_option linter.all false
set_option maxRecDepth 100000
set_option maxHeartbeats 4000000
set_option autoImplicit false
/-! Pt: combinations round the clock. -/
namespace Q
def cmb (p : Nat) (t : Int) (a b : List Int) : List Int := (a.zip b).map fun q => (q.1 + t * q.2) % (p : Int)
/-- a property that combinations keep -/
def Closed (p : Nat) (Pz : List Int → Prop) : Prop := ∀ t a b, Pz a → Pz b → Pz (cmb p t a b)
theorem subRow_cmb {p : Nat} {t : Int} {a b : List Int} : subRow p t a b = cmb p (-t) a b := by
  unfold subRow cmb
  congr 1
  funext q
  rw [Int.neg_mul]
  congr 1
theorem scale_cmb {p : Nat} {t : Int} : ∀ {a : List Int}, scale p t a = cmb p (t - 1) a a
  | [] => rfl
  | x :: a => by
    show (t * x) % (p : Int) :: scale p t a = (x + (t - 1) * x) % (p : Int) :: cmb p (t - 1) a a
    rw [scale_cmb (a := a), Int.sub_mul, Int.one_mul, show x + (t * x - x) = t * x by omega]
theorem mem_srtF {q : Nat × List Int} {l : List (Nat × List Int)} : q ∈ srtF l ↔ q ∈ l := by
  unfold srtF
  exact List.mem_mergeSort
theorem red_cl {p : Nat} {Pz : List Int → Prop} (hc : Closed p Pz) : ∀ (found : List (Nat × List Int)) (row : List Int), (∀ q ∈ found, Pz q.2) → Pz row → Pz (found.foldl (redStep p) row)
  | [], row, _, h => h
  | q :: found, row, hf, h => by
    refine red_cl hc found _ (fun q' hq => hf q' (List.mem_cons_of_mem _ hq)) ?_
    unfold redStep
    rw [subRow_cmb]
    exact hc _ _ _ h (hf q List.mem_cons_self)
theorem add_cl {p : Nat} {Pz : List Int → Prop} (hc : Closed p Pz) {found : List (Nat × List Int)} {left : List Int} (hf : ∀ q ∈ found, Pz q.2) (h : Pz left) : ∀ q ∈ addRow p found left, Pz q.2 := by
  intro q hq
  unfold addRow at hq
  split at hq
  · exact hf q hq
  · have hn : ∀ t, Pz (scale p t left) := fun t => by
      rw [scale_cmb]
      exact hc _ _ _ h h
    rw [mem_srtF] at hq
    rcases List.mem_append.mp hq with hq | hq
    · obtain ⟨q', hq', rfl⟩ := List.mem_map.mp hq
      unfold clearIn
      rw [subRow_cmb]
      exact hc _ _ _ (hf q' hq') (hn _)
    · rw [List.mem_singleton.mp hq]
      exact hn _
/-- G1 -/
theorem leastF_cl {p : Nat} {Pz : List Int → Prop} (hc : Closed p Pz) {rows : List (List Int)} (h : ∀ r ∈ rows, Pz r) : ∀ q ∈ leastF p rows, Pz q.2 := by
  unfold leastF
  have : ∀ (rows : List (List Int)) (found : List (Nat × List Int)), (∀ r ∈ rows, Pz r) → (∀ q ∈ found, Pz q.2) → ∀ q ∈ rows.foldl (add1 p) found, Pz q.2 := by
    intro rows
    induction rows with
    | nil => exact fun found _ hf => hf
    | cons r rows ih =>
      intro found hr hf
      exact ih _ (fun r' hr' => hr r' (List.mem_cons_of_mem _ hr')) (add_cl hc hf (red_cl hc found r hf (hr r List.mem_cons_self)))
  exact this rows [] h fun q hq => by cases hq
end Q
end
section
set_option Elab.async false
set_option linter.all false
set_option maxRecDepth 100000
set_option maxHeartbeats 4000000
set_option autoImplicit false
/-! Pu: back from the reduced rows. -/
namespace Q
theorem sub_back {p : Nat} {t : Int} : ∀ {a b : List Int}, inR p a → a.length = b.length → cmb p t (subRow p t a b) b = a
  | [], [], _, _ => rfl
  | x :: a, y :: b, h, hl => by
    have hx := h x List.mem_cons_self
    show ((x - t * y) % (p : Int) + t * y) % (p : Int) :: cmb p t (subRow p t a b) b = x :: a
    rw [sub_back (fun z hz => h z (List.mem_cons_of_mem _ hz)) (by simpa using hl), Int.emod_add_emod, show x - t * y + t * y = x by omega, Int.emod_eq_of_lt hx.1 hx.2]
theorem scale_back {p : Nat} {t u : Int} (h : (t * u) % (p : Int) = 1 % (p : Int)) : ∀ {a : List Int}, inR p a → scale p t (scale p u a) = a
  | [], _ => rfl
  | x :: a, hi => by
    have hx := hi x List.mem_cons_self
    show (t * ((u * x) % (p : Int))) % (p : Int) :: scale p t (scale p u a) = x :: a
    rw [scale_back h fun z hz => hi z (List.mem_cons_of_mem _ hz)]
    congr 1
    rw [Int.mul_emod, Int.emod_emod_of_dvd _ (Int.dvd_refl _), ← Int.mul_emod, ← Int.mul_assoc, Int.mul_emod, h, ← Int.mul_emod, Int.one_mul, Int.emod_eq_of_lt hx.1 hx.2]
theorem lead_ne {left : List Int} {lead : Nat} {rest : List Nat} (h : leadsOf left = lead :: rest) : lead < left.length ∧ left.getD lead 0 ≠ 0 := by
  have hm : lead ∈ leadsOf left := by rw [h]; exact List.mem_cons_self
  unfold leadsOf at hm
  obtain ⟨h1, h2⟩ := List.mem_filter.mp hm
  exact ⟨List.mem_range.mp h1, by simpa using h2⟩
theorem add_back {p m : Nat} (hp : P3 p) {Pz : List Int → Prop} (hc : Closed p Pz) (hz : ∀ r : List Int, RowOk p m r → leadsOf r = [] → Pz r) {found : List (Nat × List Int)} {left : List Int} (hf : ∀ q ∈ found, RowOk p m q.2) (hl : RowOk p m left) (h : ∀ q ∈ addRow p found left, Pz q.2) :
    (∀ q ∈ found, Pz q.2) ∧ Pz left := by
  unfold addRow at h
  split at h
  · rename_i e
    exact ⟨h, hz left hl e⟩
  · rename_i lead rest e
    obtain ⟨hlt, hne⟩ := lead_ne e
    have hx := hl.2 (left.getD lead 0) (by rw [List.getD_eq_getElem?_getD, List.getElem?_eq_getElem hlt]; exact List.getElem_mem _)
    obtain ⟨n, l, hn, hnp, hn1⟩ := invs_ne hp hx.1 hx.2 hne
    rw [hn] at h
    dsimp only [List.headD_cons] at h
    have hnew : Pz (scale p (n : Int) left) := h (lead, scale p (n : Int) left) (mem_srtF.mpr (List.mem_append_right _ List.mem_cons_self))
    refine ⟨fun q hq => ?_, ?_⟩
    · have := h (clearIn p lead (scale p (n : Int) left) q) (mem_srtF.mpr (List.mem_append_left _ (List.mem_map.mpr ⟨q, hq, rfl⟩)))
      unfold clearIn at this
      have e2 := sub_back (t := q.2.getD lead 0) (b := scale p (n : Int) left) (hf q hq).2 (by unfold scale; rw [List.length_map, (hf q hq).1, hl.1])
      rw [← e2]
      exact hc _ _ _ this hnew
    · have e2 := scale_back (t := left.getD lead 0) (u := (n : Int)) (p := p) (by rw [Int.mul_comm, hn1]; rcases hp with rfl | rfl | rfl <;> rfl) hl.2
      rw [← e2, scale_cmb]
      exact hc _ _ _ hnew hnew
theorem red_back {p m : Nat} (hp : P3 p) {Pz : List Int → Prop} (hc : Closed p Pz) : ∀ (found : List (Nat × List Int)) (row : List Int), (∀ q ∈ found, RowOk p m q.2) → RowOk p m row → (∀ q ∈ found, Pz q.2) → Pz (found.foldl (redStep p) row) → Pz row
  | [], row, _, _, _, h => h
  | q :: found, row, hf, hr, hq, h => by
    have hl := (hf q List.mem_cons_self).1
    have h1 := red_back hp hc found (redStep p row q) (fun q' hq' => hf q' (List.mem_cons_of_mem _ hq')) (subRow_ok hp hr.1 hl) (fun q' hq' => hq q' (List.mem_cons_of_mem _ hq')) h
    unfold redStep at h1
    rw [← sub_back (t := row.getD q.1 0) (b := q.2) hr.2 (by rw [hr.1, hl])]
    exact hc _ _ _ h1 (hq q List.mem_cons_self)
/-- G2 -/
theorem leastF_back {p m : Nat} (hp : P3 p) {Pz : List Int → Prop} (hc : Closed p Pz) (hz : ∀ r : List Int, RowOk p m r → leadsOf r = [] → Pz r) : ∀ (rows : List (List Int)) (found : List (Nat × List Int)), Red p m found → (∀ r ∈ rows, RowOk p m r) → (∀ q ∈ rows.foldl (add1 p) found, Pz q.2) → (∀ q ∈ found, Pz q.2) ∧ ∀ r ∈ rows, Pz r
  | [], found, _, _, h => ⟨h, fun r hr => by cases hr⟩
  | r :: rows, found, R, hr, h => by
    have hr0 := hr r List.mem_cons_self
    obtain ⟨h1, h2⟩ := leastF_back hp hc hz rows (add1 p found r) (add1_red hp R hr0) (fun r' hr' => hr r' (List.mem_cons_of_mem _ hr')) h
    have hf : ∀ q ∈ found, RowOk p m q.2 := fun q hq => (R.ok q hq).2
    obtain ⟨h3, h4⟩ := add_back hp hc hz hf (red_ok hp (fun q hq => (hf q hq).1) hr0) h1
    refine ⟨h3, fun r' hr' => ?_⟩
    rcases List.mem_cons.mp hr' with rfl | hr'
    · exact red_back hp hc found r' hf hr0 h3 h4
    · exact h2 r' hr'
end Q
end
section
set_option Elab.async false
set_option linter.all false
set_option maxRecDepth 100000
set_option maxHeartbeats 4000000
set_option autoImplicit false
/-! Pv: upright rows. -/
namespace Q
def dot : List Int → List Int → Int
  | x :: a, y :: b => x * y + dot a b
  | _, _ => 0
theorem dot_cmb {p : Nat} {t : Int} : ∀ {a b v : List Int}, a.length = v.length → b.length = v.length → dot (cmb p t a b) v % (p : Int) = (dot a v + t * dot b v) % (p : Int)
  | [], [], [], _, _ => by simp [dot, cmb]
  | x :: a, y :: b, z :: v, h1, h2 => by
    show ((x + t * y) % (p : Int) * z + dot (cmb p t a b) v) % (p : Int) = (x * z + dot a v + t * (y * z + dot b v)) % (p : Int)
    have ih := dot_cmb (p := p) (t := t) (a := a) (b := b) (v := v) (by simpa using h1) (by simpa using h2)
    rw [Int.add_emod, ih, Int.mul_emod, Int.emod_emod_of_dvd _ (Int.dvd_refl _), ← Int.mul_emod, ← Int.add_emod]
    congr 1
    rw [Int.mul_add, Int.add_mul, Int.mul_assoc]
    omega
  | [], _ :: _, [], _, h2 => by simp at h2
  | [], _, _ :: _, h1, _ => by simp at h1
  | _ :: _, _, [], h1, _ => by simp at h1
  | _ :: _, [], _ :: _, _, h2 => by simp at h2
/-- upright on v -/
def Up (p m : Nat) (v r : List Int) : Prop := r.length = m ∧ dot r v % (p : Int) = 0
theorem up_closed {p m : Nat} {v : List Int} (hv : v.length = m) : Closed p (Up p m v) := fun t a b ⟨h1, h2⟩ ⟨h3, h4⟩ => by
  refine ⟨by unfold cmb; rw [List.length_map, List.length_zip, h1, h3, Nat.min_self], ?_⟩
  rw [dot_cmb (by omega) (by omega), Int.add_emod, h2, Int.mul_emod, h4]
  simp
def sumTo (f : Nat → Int) : Nat → Int
  | 0 => 0
  | n + 1 => sumTo f n + f n
theorem sumTo_shift (f : Nat → Int) : ∀ n, sumTo f (n + 1) = f 0 + sumTo (fun i => f (i + 1)) n
  | 0 => by show 0 + f 0 = f 0 + 0; omega
  | n + 1 => by
    show sumTo f (n + 1) + f (n + 1) = f 0 + (sumTo (fun i => f (i + 1)) n + f (n + 1))
    rw [sumTo_shift f n]
    omega
theorem dot_sum : ∀ {a v : List Int}, a.length = v.length → dot a v = sumTo (fun i => a.getD i 0 * v.getD i 0) a.length
  | [], [], _ => rfl
  | x :: a, y :: v, h => by
    rw [List.length_cons, sumTo_shift]
    show x * y + dot a v = x * y + sumTo (fun i => a.getD i 0 * v.getD i 0) a.length
    rw [dot_sum (by simpa using h)]
  | [], _ :: _, h => by simp at h
  | _ :: _, [], h => by simp at h
theorem sumTo_zero {f : Nat → Int} : ∀ n, (∀ i, i < n → f i = 0) → sumTo f n = 0
  | 0, _ => rfl
  | n + 1, h => by
    show sumTo f n + f n = 0
    rw [sumTo_zero n fun i hi => h i (by omega), h n (by omega)]
    rfl
theorem sumTo_one {f : Nat → Int} {k : Nat} : ∀ n, k < n → (∀ i, i < n → i ≠ k → f i = 0) → sumTo f n = f k
  | 0, hk, _ => by omega
  | n + 1, hk, h => by
    show sumTo f n + f n = f k
    by_cases e : k = n
    · subst e
      rw [sumTo_zero k fun i hi => h i (by omega) (by omega)]
      omega
    · rw [sumTo_one n (by omega) fun i hi => h i (by omega), h n (by omega) (by omega)]
      omega
theorem sumTo_two {f : Nat → Int} {k j : Nat} (hkj : k < j) : ∀ n, j < n → (∀ i, i < n → i ≠ k → i ≠ j → f i = 0) → sumTo f n = f k + f j
  | 0, hk, _ => by omega
  | n + 1, hk, h => by
    show sumTo f n + f n = f k + f j
    by_cases e : j = n
    · subst e
      rw [sumTo_one j hkj fun i hi h1 => h i (by omega) h1 (by omega)]
    · rw [sumTo_two hkj n (by omega) fun i hi => h i (by omega), h n (by omega) (by omega) (by omega)]
      omega
end Q
end
section
set_option Elab.async false
set_option linter.all false
set_option maxRecDepth 100000
set_option maxHeartbeats 4000000
set_option autoImplicit false
/-! Pw: the product is linear; deeds keep combinations. -/
namespace Q
theorem meq {p x y : Int} (k : Int) (h : x - y = p * k) : x % p = y % p := by
  rw [show x = y + p * k by omega, Int.add_mul_emod_self_left]
def swp (q : Pr) : Pr := (q.2, q.1)
theorem cr_swp (a b : Pr) : cr (swp a) (swp b) = - cr a b := by
  unfold cr swp
  grind
theorem wlk_swp (z : Pr) : ∀ (l : List Pr) (a : Pr), wlk (swp z) (swp a) (l.map swp) = - wlk z a l
  | [], a => cr_swp a z
  | b :: l, a => by
    show cr (swp a) (swp b) + wlk (swp z) (swp b) (l.map swp) = - (cr a b + wlk z b l)
    rw [cr_swp, wlk_swp z l b]
    omega
theorem zip_swp : ∀ (r s : List Int), s.zip r = (r.zip s).map swp
  | [], [] => rfl
  | x :: r, y :: s => by
    show (y, x) :: s.zip r = (y, x) :: (r.zip s).map swp
    rw [zip_swp r s]
  | [], _ :: _ => rfl
  | _ :: _, [] => rfl
theorem om_anti (r s : List Int) : om s r = - om r s := by
  unfold om
  rw [zip_swp r s]
  cases r.zip s with
  | nil => rfl
  | cons a l => exact wlk_swp a l a
/-! linear in the second row -/
abbrev Tr := Int × Int × Int
def f1 (q : Tr) : Pr := (q.1, q.2.1)
def f2 (q : Tr) : Pr := (q.1, q.2.2)
def f3 (t : Int) (q : Tr) : Pr := (q.1, q.2.1 + t * q.2.2)
theorem cr_lin (t : Int) (a b : Tr) : cr (f3 t a) (f3 t b) = cr (f1 a) (f1 b) + t * cr (f2 a) (f2 b) := by
  unfold cr f1 f2 f3
  grind
theorem wlk_lin (t : Int) (z : Tr) : ∀ (l : List Tr) (a : Tr), wlk (f3 t z) (f3 t a) (l.map (f3 t)) = wlk (f1 z) (f1 a) (l.map f1) + t * wlk (f2 z) (f2 a) (l.map f2)
  | [], a => cr_lin t a z
  | b :: l, a => by
    show cr (f3 t a) (f3 t b) + wlk (f3 t z) (f3 t b) (l.map (f3 t)) = cr (f1 a) (f1 b) + wlk (f1 z) (f1 b) (l.map f1) + t * (cr (f2 a) (f2 b) + wlk (f2 z) (f2 b) (l.map f2))
    rw [cr_lin, wlk_lin t z l b]
    grind
theorem cyc_lin (t : Int) : ∀ (l : List Tr), cyc (l.map (f3 t)) = cyc (l.map f1) + t * cyc (l.map f2)
  | [] => by
    show (0 : Int) = 0 + t * 0
    omega
  | a :: l => wlk_lin t a l a
theorem zip_f1 : ∀ (r a b : List Int), r.length = a.length → r.length = b.length → (r.zip (a.zip b)).map f1 = r.zip a
  | [], [], [], _, _ => rfl
  | x :: r, y :: a, z :: b, h1, h2 => by
    show (x, y) :: (r.zip (a.zip b)).map f1 = (x, y) :: r.zip a
    rw [zip_f1 r a b (by simpa using h1) (by simpa using h2)]
  | [], _ :: _, _, h, _ => by simp at h
  | _ :: _, [], _, h, _ => by simp at h
  | [], _, _ :: _, _, h => by simp at h
  | _ :: _, _, [], _, h => by simp at h
theorem zip_f2 : ∀ (r a b : List Int), r.length = a.length → r.length = b.length → (r.zip (a.zip b)).map f2 = r.zip b
  | [], [], [], _, _ => rfl
  | x :: r, y :: a, z :: b, h1, h2 => by
    show (x, z) :: (r.zip (a.zip b)).map f2 = (x, z) :: r.zip b
    rw [zip_f2 r a b (by simpa using h1) (by simpa using h2)]
  | [], _ :: _, _, h, _ => by simp at h
  | _ :: _, [], _, h, _ => by simp at h
  | [], _, _ :: _, _, h => by simp at h
  | _ :: _, _, [], _, h => by simp at h
theorem zip_f3 (p : Nat) (t : Int) : ∀ (r a b : List Int), r.length = a.length → r.length = b.length → ((r.zip (a.zip b)).map (f3 t)).map (red p) = (r.zip (cmb p t a b)).map (red p)
  | [], [], [], _, _ => rfl
  | x :: r, y :: a, z :: b, h1, h2 => by
    show (x % (p : Int), (y + t * z) % (p : Int)) :: ((r.zip (a.zip b)).map (f3 t)).map (red p) = (x % (p : Int), (y + t * z) % (p : Int) % (p : Int)) :: (r.zip (cmb p t a b)).map (red p)
    rw [zip_f3 p t r a b (by simpa using h1) (by simpa using h2), Int.emod_emod_of_dvd _ (Int.dvd_refl _)]
  | [], _ :: _, _, h, _ => by simp at h
  | _ :: _, [], _, h, _ => by simp at h
  | [], _, _ :: _, _, h => by simp at h
  | _ :: _, _, [], _, h => by simp at h
theorem om_cmb {p : Nat} {t : Int} {r a b : List Int} (h1 : r.length = a.length) (h2 : r.length = b.length) : om r (cmb p t a b) % (p : Int) = (om r a + t * om r b) % (p : Int) := by
  unfold om
  rw [← cyc_cong (zip_f3 p t r a b h1 h2), cyc_lin, zip_f1 r a b h1 h2, zip_f2 r a b h1 h2]
/-! combinations -/
theorem cmb_len {p : Nat} {t : Int} {a b : List Int} (h : a.length = b.length) : (cmb p t a b).length = a.length := by
  unfold cmb
  rw [List.length_map, List.length_zip, h, Nat.min_self]
theorem cmb_ok {p n : Nat} {t : Int} {a b : List Int} (hp : 0 < p) (ha : a.length = n) (hb : b.length = n) : RowOk p n (cmb p t a b) := by
  refine ⟨by rw [cmb_len (by omega), ha], fun x hx => ?_⟩
  obtain ⟨q, _, rfl⟩ := List.mem_map.mp hx
  exact mod_in hp _
theorem cmb_get {p : Nat} {t : Int} : ∀ {a b : List Int} {i : Nat}, a.length = b.length → (cmb p t a b).getD i 0 = (a.getD i 0 + t * b.getD i 0) % (p : Int)
  | [], [], i, _ => by simp [cmb]
  | x :: a, y :: b, 0, h => rfl
  | x :: a, y :: b, i + 1, h => cmb_get (a := a) (b := b) (i := i) (by simpa using h)
  | [], _ :: _, _, h => by simp at h
  | _ :: _, [], _, h => by simp at h
theorem cmb_app {p : Nat} {t : Int} {a b a' b' : List Int} (h : a.length = b.length) : cmb p t (a ++ a') (b ++ b') = cmb p t a b ++ cmb p t a' b' := by
  unfold cmb
  rw [List.zip_append h, List.map_append]
theorem cmb_take {p : Nat} {t : Int} : ∀ {k : Nat} {a b : List Int}, (cmb p t a b).take k = cmb p t (a.take k) (b.take k)
  | 0, _, _ => rfl
  | k + 1, [], [] => rfl
  | k + 1, [], _ :: _ => rfl
  | k + 1, _ :: _, [] => rfl
  | k + 1, x :: a, y :: b => by
    show (x + t * y) % (p : Int) :: (cmb p t a b).take k = (x + t * y) % (p : Int) :: cmb p t (a.take k) (b.take k)
    rw [cmb_take]
theorem cmb_drop {p : Nat} {t : Int} : ∀ {k : Nat} {a b : List Int}, a.length = b.length → (cmb p t a b).drop k = cmb p t (a.drop k) (b.drop k)
  | 0, _, _, _ => rfl
  | k + 1, [], [], _ => rfl
  | k + 1, [], _ :: _, h => by simp at h
  | k + 1, _ :: _, [], h => by simp at h
  | k + 1, x :: a, y :: b, h => cmb_drop (k := k) (by simpa using h)
theorem cmb_cy {p : Nat} {t : Int} {a b : List Int} {i : Nat} (h : a.length = b.length) : cy (cmb p t a b) i = (cy a i + t * cy b i) % (p : Int) := by
  unfold cy
  rw [cmb_get h, cmb_len h, h]
theorem crossGet {p : Nat} {r : List Int} {b : Bool} {g i : Nat} (hg : g < r.length) : (cross1 p r (b, g)).getD i 0 = if i = g then (r.getD g 0 + (if b then (1 : Int) else -1) * (cy r (g + r.length - 1) - cy r (g + 1))) % (p : Int) else r.getD i 0 := by
  unfold cross1
  rw [set_getD hg]
  split
  · unfold stepAt
    cases b
    · show (r.getD g 0 + -(cy r (g + r.length - 1) - cy r (g + 1))) % (p : Int) = _
      rw [if_neg (by decide), Int.neg_mul, Int.one_mul]
    · show (r.getD g 0 + (cy r (g + r.length - 1) - cy r (g + 1))) % (p : Int) = _
      rw [if_pos rfl, Int.one_mul]
  · rfl
theorem crossLen {p : Nat} {r : List Int} {q : Bool × Nat} : (cross1 p r q).length = r.length := by
  unfold cross1
  rw [List.length_set]
theorem cross_cmb {p : Nat} {t : Int} {a b : List Int} {q : Bool × Nat} (h : a.length = b.length) (hg : q.2 < a.length) : cross1 p (cmb p t a b) q = cmb p t (cross1 p a q) (cross1 p b q) := by
  obtain ⟨w, g⟩ := q
  have hg : g < a.length := hg
  have hl := cmb_len (p := p) (t := t) h
  apply list_ext
  · rw [crossLen, hl, cmb_len (by rw [crossLen, crossLen, h]), crossLen]
  · intro i _
    have hcl : (cross1 p a (w, g)).length = (cross1 p b (w, g)).length := by rw [crossLen, crossLen, h]
    rw [crossGet (by rw [hl]; exact hg), cmb_get hcl, crossGet hg, crossGet (by omega), hl, cmb_cy h, cmb_cy h, cmb_get h, cmb_get h]
    by_cases e : i = g
    · rw [if_pos e, if_pos e, if_pos e, ← h]
      generalize (if w then (1 : Int) else -1) = ε
      generalize cy a (g + a.length - 1) = x1
      generalize cy b (g + a.length - 1) = y1
      generalize cy a (g + 1) = x2
      generalize cy b (g + 1) = y2
      generalize a.getD g 0 = x
      generalize b.getD g 0 = y
      have e1 := Int.emod_def (x + t * y) (p : Int)
      have e2 := Int.emod_def (x1 + t * y1) (p : Int)
      have e3 := Int.emod_def (x2 + t * y2) (p : Int)
      have e4 := Int.emod_def (x + ε * (x1 - x2)) (p : Int)
      have e5 := Int.emod_def (y + ε * (y1 - y2)) (p : Int)
      rw [e1, e2, e3, e4, e5]
      refine meq (-((x + t * y) / (p : Int)) - ε * (((x1 + t * y1) / (p : Int)) - ((x2 + t * y2) / (p : Int))) + (x + ε * (x1 - x2)) / (p : Int) + t * ((y + ε * (y1 - y2)) / (p : Int))) ?_
      grind
    · rw [if_neg e, if_neg e, if_neg e]
/-- deeds and combinations -/
theorem nx_cmb {p n : Nat} {t : Int} {a b : List Int} {fa fb : Int} {x : Deed} (ha : a.length = n) (hb : b.length = n) (ho : ok1 n x) : nxRow p ((fa + t * fb) % (p : Int)) (cmb p t a b) x = cmb p t (nxRow p fa a x) (nxRow p fb b x) := by
  have hl : a.length = b.length := by omega
  cases x with
  | cross w g => exact cross_cmb hl (by have : g < n := ho; omega)
  | join g =>
    unfold nxRow
    dsimp only
    rw [cmb_len hl, ← hl]
    split
    · rw [cmb_take, cmb_drop hl, ← cmb_app (by rw [List.length_take, List.length_take, hl])]
    · rw [cmb_take]
  | opn g =>
    show (cmb p t a b).take (g + 1) ++ (fa + t * fb) % (p : Int) :: (cmb p t a b).drop g = cmb p t (a.take (g + 1) ++ fa :: a.drop g) (b.take (g + 1) ++ fb :: b.drop g)
    rw [cmb_take, cmb_drop hl, cmb_app (by rw [List.length_take, List.length_take, hl])]
    rfl
  | turn g =>
    show (cmb p t a b).drop g ++ (cmb p t a b).take g = cmb p t (a.drop g ++ a.take g) (b.drop g ++ b.take g)
    rw [cmb_take, cmb_drop hl, cmb_app (by rw [List.length_drop, List.length_drop, hl])]
theorem may_cmb {p : Nat} {t : Int} {a b : List Int} {x : Deed} (hl : a.length = b.length) (ha : mayPass a x) (hb : mayPass b x) : mayPass (cmb p t a b) x := by
  cases x with
  | join g =>
    intro h
    rw [cmb_len hl] at h
    rw [cmb_get hl, cmb_get hl, ha h, hb (by omega)]
  | _ => trivial
theorem nx_len {p n : Nat} {r : List Int} {f : Int} {x : Deed} (hr : r.length = n) (h2 : 2 ≤ n) (ho : ok1 n x) : (nxRow p f r x).length = nx n x := by
  cases x with
  | cross w g =>
    show (cross1 p r (w, g)).length = n
    rw [crossLen, hr]
  | join g =>
    show (if 2 < r.length then r.take g ++ r.drop (g + 2) else r.take 1).length = if 2 < n then n - 2 else 1
    rw [hr]
    split
    · have := ho (by assumption)
      rw [List.length_append, List.length_take, List.length_drop]
      omega
    · rw [List.length_take]
      omega
  | opn g =>
    have hg : g < n := ho
    show (r.take (g + 1) ++ f :: r.drop g).length = n + 2
    rw [List.length_append, List.length_cons, List.length_take, List.length_drop]
    omega
  | turn g =>
    have hg : g < n := ho
    show (r.drop g ++ r.take g).length = n
    rw [List.length_append, List.length_take, List.length_drop]
    omega
/-- behind a join of two ends stands nothing -/
theorem lv_nil {xs : List Deed} (h : Lv 0 xs 0) : xs = [] := by
  cases xs with
  | nil => rfl
  | cons x xs =>
    have := h.1
    omega
theorem nx_nl {n : Nat} {x : Deed} {xs : List Deed} (h2 : 2 ≤ n) (h : Lv (nl n x) xs 0) : xs = [] ∨ nx n x = nl n x := by
  cases x with
  | join g =>
    by_cases h3 : 2 < n
    · exact .inr (if_pos h3)
    · have : nl n (.join g) = 0 := by
        show n - 2 = 0
        omega
      rw [this] at h
      exact .inl (lv_nil h)
  | _ => exact .inr rfl
theorem thr_cmb {p : Nat} (hp : 0 < p) {t : Int} : ∀ {xs : List Deed} {n : Nat} {a b : List Int}, Lv n xs 0 → a.length = n → b.length = n → Thr p xs a → Thr p xs b → Thr p xs (cmb p t a b)
  | [], _, _, _, _, _, _, _, _ => trivial
  | x :: xs, n, a, b, hv, ha, hb, ⟨m1, fa, a0, a1, t1⟩, ⟨m2, fb, b0, b1, t2⟩ => by
    obtain ⟨h2, ho, hv⟩ := hv
    refine ⟨may_cmb (by omega) m1 m2, (fa + t * fb) % (p : Int), (mod_in hp _).1, (mod_in hp _).2, ?_⟩
    rw [nx_cmb ha hb ho]
    rcases nx_nl h2 hv with rfl | e
    · trivial
    · rw [← e] at hv
      exact thr_cmb hp hv (nx_len ha h2 ho) (nx_len hb h2 ho) t1 t2
end Q
end
section
set_option Elab.async false
set_option linter.all false
set_option maxRecDepth 100000
set_option maxHeartbeats 4000000
set_option autoImplicit false
/-! Px: what is upright on all rows that pass, passes. -/
namespace Q
def Zr (r : List Int) : Prop := ∀ x ∈ r, x = 0
theorem zr_get {r : List Int} (h : Zr r) (i : Nat) : r.getD i 0 = 0 := by
  rw [List.getD_eq_getElem?_getD]
  cases e : r[i]? with
  | none => rfl
  | some x => exact h x (List.mem_of_getElem? e)
theorem zr_rep (n : Nat) : Zr (List.replicate n 0) := fun x hx => (List.mem_replicate.mp hx).2
theorem zr_nx {p : Nat} {r : List Int} {x : Deed} (h : Zr r) : Zr (nxRow p 0 r x) := by
  cases x with
  | cross w g =>
    intro y hy
    have hy : y ∈ cross1 p r (w, g) := hy
    unfold cross1 at hy
    rcases List.mem_or_eq_of_mem_set hy with hy | rfl
    · exact h y hy
    · unfold stepAt cy
      dsimp only
      rw [zr_get h, zr_get h, zr_get h]
      cases w <;> rfl
  | join g =>
    intro y hy
    have hy : y ∈ (if 2 < r.length then r.take g ++ r.drop (g + 2) else r.take 1) := hy
    split at hy
    · rcases List.mem_append.mp hy with hy | hy
      · exact h y (List.mem_of_mem_take hy)
      · exact h y (List.mem_of_mem_drop hy)
    · exact h y (List.mem_of_mem_take hy)
  | opn g =>
    intro y hy
    have hy : y ∈ r.take (g + 1) ++ 0 :: r.drop g := hy
    rcases List.mem_append.mp hy with hy | hy
    · exact h y (List.mem_of_mem_take hy)
    · rcases List.mem_cons.mp hy with rfl | hy
      · rfl
      · exact h y (List.mem_of_mem_drop hy)
  | turn g =>
    intro y hy
    have hy : y ∈ r.drop g ++ r.take g := hy
    rcases List.mem_append.mp hy with hy | hy
    · exact h y (List.mem_of_mem_drop hy)
    · exact h y (List.mem_of_mem_take hy)
theorem thr_zero {p : Nat} (hp : 0 < p) : ∀ {xs : List Deed} {r : List Int}, Zr r → Thr p xs r
  | [], _, _ => trivial
  | x :: xs, r, h => by
    refine ⟨?_, 0, Int.le_refl _, by omega, thr_zero hp (zr_nx h)⟩
    cases x with
    | join g =>
      intro _
      rw [zr_get h, zr_get h]
    | _ => trivial
theorem om_zero {p : Nat} {r z : List Int} (hl : r.length = z.length) (hz : Zr z) : om r z % (p : Int) = 0 := by
  have e : om r (cmb p (-1) z z) % (p : Int) = (om r z + -1 * om r z) % (p : Int) := om_cmb hl hl
  have e2 : cmb p (-1) z z = z := by
    apply list_ext
    · rw [cmb_len rfl]
    · intro i _
      rw [cmb_get rfl, zr_get hz]
      rfl
  rw [e2] at e
  rw [e, show om r z + -1 * om r z = 0 by omega]
  rfl
theorem step_set2 {r : List Int} {g : Nat} {y : Int} (h2 : 2 ≤ r.length) (hg : g < r.length) : stepAt (r.set g y) g = stepAt r g := by
  rcases Nat.lt_or_ge 2 r.length with h3 | h3
  · exact step_set h3 hg
  · match r, h2, h3, hg with
    | [a, b], _, _, hg =>
      have hg : g < 2 := hg
      have : g = 0 ∨ g = 1 := by omega
      rcases this with rfl | rfl <;> simp [stepAt, cy]
theorem cross_back {p : Nat} {r : List Int} {b : Bool} {g : Nat} (h2 : 2 ≤ r.length) (hg : g < r.length) (hr : inR p r) : cross1 p (cross1 p r (!b, g)) (b, g) = r := by
  have hx := hr (r.getD g 0) (by rw [List.getD_eq_getElem?_getD, List.getElem?_eq_getElem hg]; exact List.getElem_mem _)
  unfold cross1
  dsimp only
  rw [step_set2 h2 hg, List.set_set, getD_set0 hg]
  have e : (((r.getD g 0 + if (!b) = true then stepAt r g else -stepAt r g) % (p : Int)) + if b = true then stepAt r g else -stepAt r g) % (p : Int) = r.getD g 0 := by
    rw [Int.emod_add_emod]
    cases b
    · show (r.getD g 0 + stepAt r g + -stepAt r g) % (p : Int) = _
      rw [show r.getD g 0 + stepAt r g + -stepAt r g = r.getD g 0 by omega, Int.emod_eq_of_lt hx.1 hx.2]
    · show (r.getD g 0 + -stepAt r g + stepAt r g) % (p : Int) = _
      rw [show r.getD g 0 + -stepAt r g + stepAt r g = r.getD g 0 by omega, Int.emod_eq_of_lt hx.1 hx.2]
  rw [e, List.getD_eq_getElem?_getD, List.getElem?_eq_getElem hg]
  exact List.set_getElem_self hg
theorem crossOk {p n : Nat} (hp : 0 < p) {r : List Int} {q : Bool × Nat} (h : RowOk p n r) : RowOk p n (cross1 p r q) := by
  refine ⟨by rw [crossLen, h.1], fun x hx => ?_⟩
  unfold cross1 at hx
  rcases List.mem_or_eq_of_mem_set hx with hx | rfl
  · exact h.2 x hx
  · exact mod_in hp _
theorem app_ok {p : Nat} {a b : List Int} (ha : inR p a) (hb : inR p b) : inR p (a ++ b) := fun x hx => by
  rcases List.mem_append.mp hx with h | h
  · exact ha x h
  · exact hb x h
theorem take_ok {p k : Nat} {a : List Int} (ha : inR p a) : inR p (a.take k) := fun x hx => ha x (List.mem_of_mem_take hx)
theorem drop_ok {p k : Nat} {a : List Int} (ha : inR p a) : inR p (a.drop k) := fun x hx => ha x (List.mem_of_mem_drop hx)
theorem cons_ok {p : Nat} {x : Int} {a : List Int} (hx : 0 ≤ x ∧ x < (p : Int)) (ha : inR p a) : inR p (x :: a) := fun y hy => by
  rcases List.mem_cons.mp hy with rfl | h
  · exact hx
  · exact ha y h
theorem tri {u w : List Int} {a b c : Int} {g : Nat} (hu : u.length + 1 = g) : (u ++ a :: b :: c :: w).getD (g - 1) 0 = a ∧ (u ++ a :: b :: c :: w).getD g 0 = b ∧ (u ++ a :: b :: c :: w).getD (g + 1) 0 = c ∧ (u ++ a :: b :: c :: w).take g ++ (u ++ a :: b :: c :: w).drop (g + 2) = u ++ a :: w := by
  subst hu
  refine ⟨?_, ?_, ?_, ?_⟩
  · rw [List.getD_eq_getElem?_getD, Nat.add_sub_cancel, List.getElem?_append_right (Nat.le_refl _), Nat.sub_self]
    rfl
  · rw [List.getD_eq_getElem?_getD, List.getElem?_append_right (by omega), show u.length + 1 - u.length = 1 by omega]
    rfl
  · rw [List.getD_eq_getElem?_getD, List.getElem?_append_right (by omega), show u.length + 1 + 1 - u.length = 2 by omega]
    rfl
  · rw [List.take_append, List.take_of_length_le (by omega), show u.length + 1 - u.length = 1 by omega, List.drop_append, List.drop_eq_nil_of_le (by omega), show u.length + 1 + 2 - u.length = 3 by omega]
    simp
theorem opn_app {p : Nat} {u w : List Int} {a f : Int} : nxRow p f (u ++ a :: w) (.opn u.length) = u ++ a :: f :: a :: w := by
  show (u ++ a :: w).take (u.length + 1) ++ f :: (u ++ a :: w).drop u.length = _
  rw [List.take_append, List.take_of_length_le (by omega), show u.length + 1 - u.length = 1 by omega, List.drop_left]
  simp
theorem split1 {r : List Int} {g : Nat} (h : g < r.length) : ∃ u a w, r = u ++ a :: w ∧ u.length = g :=
  ⟨r.take g, r[g], r.drop (g + 1), by rw [← List.drop_eq_getElem_cons h, List.take_append_drop], by rw [List.length_take]; omega⟩
theorem small_eq {p : Nat} {a b : Int} (ha : 0 ≤ a ∧ a < (p : Int)) (hb : 0 ≤ b ∧ b < (p : Int)) (hz : (a - b) % (p : Int) = 0) : a = b := by
  have := Int.emod_eq_emod_iff_emod_sub_eq_zero.mpr hz
  rwa [Int.emod_eq_of_lt ha.1 ha.2, Int.emod_eq_of_lt hb.1 hb.2] at this
theorem inv_of {p : Nat} (hp : P3 p) {x : Int} (h : x % (p : Int) ≠ 0) : ∃ m : Int, m * x % (p : Int) = 1 := by
  have hb := mod_in hp.pos x
  obtain ⟨n, l, _, _, h1⟩ := invs_ne hp hb.1 hb.2 h
  exact ⟨n, by rw [Int.mul_emod, Int.emod_emod_of_dvd _ (Int.dvd_refl _), ← Int.mul_emod] at h1; exact h1⟩
theorem dvd_z {p x : Int} : x % p = 0 ↔ ∃ k, x = p * k := ⟨fun h => ⟨x / p, by have := Int.emod_def x p; omega⟩, fun ⟨k, h⟩ => by rw [h, Int.mul_emod_right]⟩
theorem thr_co {p : Nat} (hp : P3 p) : ∀ {xs : List Deed} {n : Nat} {r : List Int}, Lv n xs 0 → RowOk p n r → (∀ s, RowOk p n s → Thr p xs s → om r s % (p : Int) = 0) → Thr p xs r
  | [], _, _, _, _, _ => trivial
  | x :: xs, n, r, hv, hr, H => by
    have hpp := hp.pos
    obtain ⟨h2, ho, hv⟩ := hv
    have hl := hr.1
    cases x with
    | cross b g =>
      have hg : g < n := ho
      refine ⟨trivial, 0, Int.le_refl _, by omega, thr_co hp hv (crossOk hpp hr) fun s hs ht => ?_⟩
      have hs : RowOk p n s := hs
      have hsl := hs.1
      have e := cross_back (p := p) (r := s) (b := b) (g := g) (by omega) (by omega) hs.2
      have h0 := H (cross1 p s (!b, g)) (crossOk hpp hs) ⟨trivial, 0, Int.le_refl _, by omega, by show Thr p xs (cross1 p (cross1 p s (!b, g)) (b, g)); rw [e]; exact ht⟩
      rcases Nat.lt_or_ge 2 n with h3 | h3
      · have h1 := om_cross (p := p) (r := r) (s := cross1 p s (!b, g)) (q := (b, g)) (by omega) (by rw [crossLen]; omega) (by show g < r.length; omega)
        rw [e] at h1
        exact h1.trans h0
      · show om (cross1 p r (b, g)) s % (p : Int) = 0
        rw [om_small (by rw [crossLen]; omega) (by rw [crossLen]; omega)]
        rfl
    | turn g =>
      have hg : g < n := ho
      refine ⟨trivial, 0, Int.le_refl _, by omega, thr_co hp hv (n := n) ⟨?_, app_ok (drop_ok hr.2) (take_ok hr.2)⟩ fun s hs ht => ?_⟩
      · show (r.drop g ++ r.take g).length = n
        rw [List.length_append, List.length_take, List.length_drop]
        omega
      have hsl := hs.1
      have e : (s.drop (n - g) ++ s.take (n - g)).drop g ++ (s.drop (n - g) ++ s.take (n - g)).take g = s := by
        have e1 : (s.drop (n - g)).length = g := by
          rw [List.length_drop]
          omega
        rw [List.drop_append, List.take_append, List.drop_eq_nil_of_le (Nat.le_of_eq e1), List.take_of_length_le (i := g) (l := s.drop (n - g)) (Nat.le_of_eq e1), e1, Nat.sub_self, List.take_zero, List.drop_zero, List.append_nil, List.nil_append, List.take_append_drop]
      have h0 := H (s.drop (n - g) ++ s.take (n - g)) ⟨by rw [List.length_append, List.length_take, List.length_drop]; omega, app_ok (drop_ok hs.2) (take_ok hs.2)⟩ ⟨trivial, 0, Int.le_refl _, by omega, by show Thr p xs (List.drop g _ ++ List.take g _); rw [e]; exact ht⟩
      have h1 := om_rot (r := r) (s := s.drop (n - g) ++ s.take (n - g)) (g := g) (by rw [List.length_append, List.length_take, List.length_drop]; omega)
      rw [e] at h1
      show om (r.drop g ++ r.take g) s % (p : Int) = 0
      rw [h1, h0]
    | join g =>
      rcases Nat.lt_or_ge 2 n with h3 | h3
      · obtain ⟨hg1, hg2⟩ := ho h3
        -- alike neighbours
        have hzr := zr_rep n
        have hu : RowOk p n ((List.replicate n 0).set g 1) := ⟨by rw [List.length_set, List.length_replicate], fun x hx => by
          rcases List.mem_or_eq_of_mem_set hx with hx | rfl
          · rw [hzr x hx]
            omega
          · rcases hp with rfl | rfl | rfl <;> omega⟩
        have hugd : ∀ i, ((List.replicate n (0 : Int)).set g 1).getD i 0 = if i = g then 1 else 0 := fun i => by
          rw [set_getD (by rw [List.length_replicate]; omega)]
          split
          · rfl
          · exact zr_get hzr i
        have hut : Thr p (.join g :: xs) ((List.replicate n 0).set g 1) := by
          refine ⟨fun _ => ?_, 0, Int.le_refl _, by omega, thr_zero hpp ?_⟩
          · rw [hugd, hugd, if_neg (by omega), if_neg (by omega)]
          · have e : nxRow p 0 ((List.replicate n 0).set g 1) (.join g) = ((List.replicate n 0).set g 1).take g ++ ((List.replicate n 0).set g 1).drop (g + 2) := if_pos (by rw [List.length_set, List.length_replicate]; exact h3)
            rw [e, List.take_set_of_le (Nat.le_refl _), List.drop_set_of_lt (by omega)]
            intro y hy
            rcases List.mem_append.mp hy with hy | hy
            · exact hzr y (List.mem_of_mem_take hy)
            · exact hzr y (List.mem_of_mem_drop hy)
        have h0 := H _ hu hut
        rw [om_anti ((List.replicate n 0).set g 1) r, om_set (by rw [List.length_replicate]; omega) (by rw [List.length_replicate, hl]) (by rw [List.length_replicate]; omega), zr_get hzr g] at h0
        have h00 := om_zero (p := p) (r := r) (z := List.replicate n 0) (by rw [List.length_replicate, hl]) hzr
        rw [om_anti (List.replicate n 0) r] at h00
        have c1 : cy r (g + 1) = r.getD (g + 1) 0 := by
          unfold cy
          rw [Nat.mod_eq_of_lt (by omega)]
        have c2 : cy r (g + r.length - 1) = r.getD (g - 1) 0 := by
          unfold cy
          rw [show g + r.length - 1 = (g - 1) + r.length by omega, Nat.add_mod_right, Nat.mod_eq_of_lt (by omega)]
        rw [c1, c2] at h0
        have hmay : r.getD (g - 1) 0 = r.getD (g + 1) 0 := by
          refine small_eq (p := p) (in_getD hr.2 (by omega)) (in_getD hr.2 (by omega)) ?_
          obtain ⟨k1, h0⟩ := dvd_z.mp h0
          obtain ⟨k2, h00⟩ := dvd_z.mp h00
          exact dvd_z.mpr ⟨k1 - k2, by rw [Int.mul_sub, ← h0, ← h00]; omega⟩
        have e1 : ∀ f, nxRow p f r (.join g) = r.take g ++ r.drop (g + 2) := fun f => if_pos (by omega)
        refine ⟨fun _ => hmay, 0, Int.le_refl _, by omega, ?_⟩
        rw [e1]
        refine thr_co hp hv (n := n - 2) ⟨?_, app_ok (take_ok hr.2) (drop_ok hr.2)⟩ fun s hs ht => ?_
        · rw [List.length_append, List.length_take, List.length_drop]
          omega
        have hsl := hs.1
        obtain ⟨u, a, w, rfl, hul⟩ := split1 (r := s) (g := g - 1) (by omega)
        have ha := hs.2 a (List.mem_append_right _ List.mem_cons_self)
        obtain ⟨k1, _, k3, k4⟩ := tri (u := u) (w := w) (a := a) (b := 0) (c := a) (g := g) (by omega)
        have hsl2 : (u ++ a :: 0 :: a :: w).length = n := by
          rw [List.length_append, List.length_cons] at hsl
          rw [List.length_append, List.length_cons, List.length_cons, List.length_cons]
          omega
        have h5 := H (u ++ a :: 0 :: a :: w) ⟨hsl2, app_ok (fun x hx => hs.2 x (List.mem_append_left _ hx)) (cons_ok ha (cons_ok (by omega) fun x hx => hs.2 x (List.mem_append_right _ hx)))⟩ ⟨fun _ => by rw [k1, k3], 0, Int.le_refl _, by omega, by
          have e2 : nxRow p 0 (u ++ a :: 0 :: a :: w) (.join g) = (u ++ a :: 0 :: a :: w).take g ++ (u ++ a :: 0 :: a :: w).drop (g + 2) := if_pos (by omega)
          rw [e2, k4]
          exact ht⟩
        have h6 := om_join (r := r) (s := u ++ a :: 0 :: a :: w) (g := g) (by omega) hg1 (by omega) hmay (by rw [k1, k3])
        rw [k4] at h6
        rw [h6, h5]
      · have hn : n = 2 := by omega
        subst hn
        have hx : xs = [] := lv_nil hv
        subst hx
        exact ⟨fun h => by omega, 0, Int.le_refl _, by omega, trivial⟩
    | opn g =>
      have hg : g < n := ho
      have hv : Lv (n + 2) xs 0 := hv
      have ok : ∀ f : Int, 0 ≤ f ∧ f < (p : Int) → RowOk p (n + 2) (nxRow p f r (.opn g)) := fun f hf => ⟨nx_len hl h2 ho, app_ok (take_ok hr.2) (cons_ok hf (drop_ok hr.2))⟩
      have key : ∀ (f : Int) (s : List Int), s.length = n + 2 → om (nxRow p f r (.opn g)) s = om (nxRow p 0 r (.opn g)) s + f * (s.getD (g + 2) 0 - s.getD g 0) := fun f s hs => by
        obtain ⟨u, a, w, rfl, hul⟩ := split1 (r := r) (g := g) (by omega)
        subst hul
        rw [List.length_append, List.length_cons] at hl
        rw [opn_app, opn_app]
        have e : u ++ a :: f :: a :: w = (u ++ a :: 0 :: a :: w).set (u.length + 1) f := by
          rw [List.set_append_right _ _ (by omega), show u.length + 1 - u.length = 1 by omega]
          rfl
        have hl2 : (u ++ a :: (0 : Int) :: a :: w).length = n + 2 := by
          rw [List.length_append, List.length_cons, List.length_cons, List.length_cons]
          omega
        rw [e, om_set (by omega) (by omega) (by omega), (tri (u := u) (w := w) (a := a) (b := 0) (c := a) (g := u.length + 1) rfl).2.1]
        have c1 : cy s (u.length + 1 + 1) = s.getD (u.length + 2) 0 := by
          unfold cy
          rw [Nat.mod_eq_of_lt (by omega)]
        have c2 : cy s (u.length + 1 + s.length - 1) = s.getD u.length 0 := by
          unfold cy
          rw [show u.length + 1 + s.length - 1 = u.length + s.length by omega, Nat.add_mod_right, Nat.mod_eq_of_lt (by omega)]
        rw [c1, c2, Int.sub_zero]
      have ker : ∀ s, RowOk p (n + 2) s → Thr p xs s → (s.getD (g + 2) 0 - s.getD g 0) % (p : Int) = 0 → om (nxRow p 0 r (.opn g)) s % (p : Int) = 0 := fun s hs ht hz => by
        have hsl := hs.1
        have hz := small_eq (p := p) (in_getD hs.2 (by omega)) (in_getD hs.2 (by omega)) hz
        obtain ⟨u, a, b, c, w, rfl, hul⟩ := split3 (r := s) (g := g + 1) (by omega) (by omega)
        have hul : u.length = g := by omega
        subst hul
        obtain ⟨k1, k2, k3, k4⟩ := tri (u := u) (w := w) (a := a) (b := b) (c := c) (g := u.length + 1) rfl
        rw [Nat.add_sub_cancel] at k1
        rw [k1, k3] at hz
        subst hz
        have hb := hs.2 b (by simp)
        have ha := hs.2 c (by simp)
        have hok : RowOk p n (u ++ c :: w) := by
          refine ⟨?_, app_ok (fun x hx => hs.2 x (List.mem_append_left _ hx)) (cons_ok ha fun x hx => hs.2 x (by simp [hx]))⟩
          rw [List.length_append, List.length_cons, List.length_cons, List.length_cons] at hsl
          rw [List.length_append, List.length_cons]
          omega
        have h0 := H (u ++ c :: w) hok ⟨trivial, b, hb.1, hb.2, by rw [opn_app]; exact ht⟩
        have h1 := om_open (r := r) (s := u ++ c :: w) (g := u.length) (f := 0) (f' := b) (by rw [hok.1, hl]) (by omega)
        have e : (u ++ c :: w).take (u.length + 1) ++ b :: (u ++ c :: w).drop u.length = u ++ c :: b :: c :: w := opn_app (p := p)
        rw [e] at h1
        show om (r.take (u.length + 1) ++ 0 :: r.drop u.length) _ % (p : Int) = 0
        rw [h1, h0]
      by_cases hE : ∃ s0, RowOk p (n + 2) s0 ∧ Thr p xs s0 ∧ (s0.getD (g + 2) 0 - s0.getD g 0) % (p : Int) ≠ 0
      · obtain ⟨s0, hs0, ht0, hn0⟩ := hE
        obtain ⟨m, hm⟩ := inv_of hp hn0
        have hf := mod_in hpp (-(om (nxRow p 0 r (.opn g)) s0) * m)
        refine ⟨trivial, (-(om (nxRow p 0 r (.opn g)) s0) * m) % (p : Int), hf.1, hf.2, thr_co hp hv (ok _ hf) fun s hs ht => ?_⟩
        have hsl := hs.1
        have hsl0 := hs0.1
        have hc := thr_cmb hpp (t := -(s.getD (g + 2) 0 - s.getD g 0) * m) hv hsl hsl0 ht ht0
        have hll : s.length = s0.length := by omega
        have hk := ker _ (cmb_ok hpp hsl hsl0) hc (by
          rw [cmb_get hll, cmb_get hll]
          generalize s.getD (g + 2) 0 = x1 at *
          generalize s.getD g 0 = x2 at *
          generalize s0.getD (g + 2) 0 = y1 at *
          generalize s0.getD g 0 = y2 at *
          have e1 := Int.emod_def (x1 + -(x1 - x2) * m * y1) (p : Int)
          have e2 := Int.emod_def (x2 + -(x1 - x2) * m * y2) (p : Int)
          have e3 := Int.emod_def (m * (y1 - y2)) (p : Int)
          rw [e1, e2]
          refine dvd_z.mpr ⟨-((x1 + -(x1 - x2) * m * y1) / (p : Int)) + ((x2 + -(x1 - x2) * m * y2) / (p : Int)) - (x1 - x2) * (m * (y1 - y2) / (p : Int)), ?_⟩
          rw [hm] at e3
          generalize (x1 + -(x1 - x2) * m * y1) / (p : Int) = k1 at *
          generalize (x2 + -(x1 - x2) * m * y2) / (p : Int) = k2 at *
          generalize (m * (y1 - y2) / (p : Int)) = k3 at *
          grind)
        rw [om_cmb (by rw [nx_len hl h2 ho, hsl]; rfl) (by rw [nx_len hl h2 ho, hsl0]; rfl)] at hk
        rw [key _ _ hsl]
        generalize om (nxRow p 0 r (.opn g)) s = y at *
        generalize om (nxRow p 0 r (.opn g)) s0 = y0 at *
        generalize (s.getD (g + 2) 0 - s.getD g 0) = z at *
        obtain ⟨k, hk⟩ := dvd_z.mp hk
        have e1 := Int.emod_def (-y0 * m) (p : Int)
        rw [e1]
        refine dvd_z.mpr ⟨k - (-y0 * m / (p : Int)) * z, ?_⟩
        generalize (-y0 * m / (p : Int)) = q at *
        grind
      · refine ⟨trivial, 0, Int.le_refl _, by omega, thr_co hp hv (ok 0 (by omega)) fun s hs ht => ker s hs ht ?_⟩
        exact Classical.byContradiction fun z => hE ⟨s, hs, ht, z⟩
end Q
end
section
set_option Elab.async false
set_option linter.all false
set_option maxRecDepth 100000
set_option maxHeartbeats 4000000
set_option autoImplicit false
/-! Py: solved rows. -/
namespace Q
theorem dot_comm : ∀ (a b : List Int), dot a b = dot b a
  | [], [] => rfl
  | x :: a, y :: b => by
    show x * y + dot a b = y * x + dot b a
    rw [dot_comm a b, Int.mul_comm]
  | [], _ :: _ => rfl
  | _ :: _, [] => rfl
def setV (p : Nat) (place : Nat) (row : List Int) (q : Nat × List Int) : List Int := row.set q.1 ((-(q.2.getD place 0)) % (p : Int))
theorem sv_len {p place : Nat} : ∀ (form : List (Nat × List Int)) (row : List Int), (form.foldl (setV p place) row).length = row.length
  | [], _ => rfl
  | q :: form, row => by
    show (form.foldl (setV p place) (setV p place row q)).length = _
    rw [sv_len form]
    exact List.length_set
theorem sv_out {p place i : Nat} : ∀ (form : List (Nat × List Int)) (row : List Int), i ∉ form.map Prod.fst → (form.foldl (setV p place) row).getD i 0 = row.getD i 0
  | [], _, _ => rfl
  | q :: form, row, h => by
    show (form.foldl (setV p place) (setV p place row q)).getD i 0 = _
    rw [List.map_cons, List.mem_cons, not_or] at h
    rw [sv_out form _ h.2]
    unfold setV
    rw [List.getD_eq_getElem?_getD, List.getElem?_set_ne (Ne.symm h.1), List.getD_eq_getElem?_getD]
theorem sv_in {p place : Nat} : ∀ (form : List (Nat × List Int)) (row : List Int) (q : Nat × List Int), q ∈ form → (form.map Prod.fst).Nodup → q.1 < row.length → (form.foldl (setV p place) row).getD q.1 0 = (-(q.2.getD place 0)) % (p : Int)
  | [], _, _, h, _, _ => by cases h
  | c :: form, row, q, h, hn, hl => by
    show (form.foldl (setV p place) (setV p place row c)).getD q.1 0 = _
    rw [List.map_cons, List.nodup_cons] at hn
    rcases List.mem_cons.mp h with rfl | h
    · rw [sv_out form _ hn.1]
      exact getD_set0 hl
    · exact sv_in form _ q h hn.2 (by unfold setV; rw [List.length_set]; exact hl)
theorem unit_get {m place i : Nat} (hi : i < m) : ((List.range m).map fun i => if i = place then (1 : Int) else 0).getD i 0 = if i = place then 1 else 0 := by
  rw [List.getD_eq_getElem?_getD, List.getElem?_map, List.getElem?_range hi]
  rfl
section
variable {p m : Nat} {F : List (Nat × List Int)}
theorem sol_len {place : Nat} : (solvedRow p m F place).length = m := by
  show (F.foldl (setV p place) _).length = m
  rw [sv_len, List.length_map, List.length_range]
theorem sol_free {place i : Nat} (hi : i < m) (h : i ∉ F.map Prod.fst) : (solvedRow p m F place).getD i 0 = if i = place then 1 else 0 := by
  show (F.foldl (setV p place) _).getD i 0 = _
  rw [sv_out F _ h, unit_get hi]
theorem sol_lead {place : Nat} (R : Red p m F) {q : Nat × List Int} (h : q ∈ F) : (solvedRow p m F place).getD q.1 0 = (-(q.2.getD place 0)) % (p : Int) := by
  show (F.foldl (setV p place) _).getD q.1 0 = _
  exact sv_in F _ q h R.nd (by rw [List.length_map, List.length_range]; exact (R.ok q h).1)
theorem sol_ok {place : Nat} (hp : P3 p) (R : Red p m F) : RowOk p m (solvedRow p m F place) := by
  refine ⟨sol_len, fun x hx => ?_⟩
  obtain ⟨i, hi, rfl⟩ := List.mem_iff_getElem.mp hx
  have hi' : i < m := by rw [sol_len] at hi; exact hi
  have e : (solvedRow p m F place)[i] = (solvedRow p m F place).getD i 0 := by
    rw [List.getD_eq_getElem?_getD, List.getElem?_eq_getElem hi]
    rfl
  rw [e]
  by_cases h : i ∈ F.map Prod.fst
  · obtain ⟨q, hq, rfl⟩ := List.mem_map.mp h
    rw [sol_lead R hq]
    exact mod_in hp.pos _
  · rw [sol_free hi' h]
    rcases hp with rfl | rfl | rfl <;> split <;> omega
/-- S1 -/
theorem sol_up {place : Nat} (R : Red p m F) (hpl : place < m) (hf : place ∉ F.map Prod.fst) {q : Nat × List Int} (hq : q ∈ F) : dot q.2 (solvedRow p m F place) % (p : Int) = 0 := by
  obtain ⟨hq1, hq2⟩ := R.ok q hq
  have hne : q.1 ≠ place := fun z => hf (z ▸ List.mem_map_of_mem hq)
  rw [dot_sum (by rw [hq2.1, sol_len]), hq2.1]
  have hz : ∀ i, i < m → i ≠ q.1 → i ≠ place → q.2.getD i 0 * (solvedRow p m F place).getD i 0 = 0 := fun i hi h1 h2 => by
    by_cases h : i ∈ F.map Prod.fst
    · obtain ⟨c, hc, rfl⟩ := List.mem_map.mp h
      rw [R.zero c hc q hq h1, Int.zero_mul]
    · rw [sol_free hi h, if_neg h2, Int.mul_zero]
  have e : sumTo (fun i => q.2.getD i 0 * (solvedRow p m F place).getD i 0) m = q.2.getD q.1 0 * (solvedRow p m F place).getD q.1 0 + q.2.getD place 0 * (solvedRow p m F place).getD place 0 := by
    rcases Nat.lt_or_ge q.1 place with z | z
    · exact sumTo_two z m hpl fun i hi h1 h2 => hz i hi h1 h2
    · rw [sumTo_two (k := place) (j := q.1) (by omega) m hq1 fun i hi h1 h2 => hz i hi h2 h1, Int.add_comm]
  rw [e, R.one q hq, sol_lead R hq, sol_free hpl hf, if_pos rfl, Int.one_mul, Int.mul_one, Int.emod_add_emod, show -(q.2.getD place 0) + q.2.getD place 0 = 0 by omega]
  rfl
/-- S2 -/
theorem up_sol (hp : P3 p) (R : Red p m F) {Pz : List Int → Prop} (hc : Closed p Pz) (h0 : Pz (List.replicate m 0)) (hs : ∀ place, place < m → place ∉ F.map Prod.fst → Pz (solvedRow p m F place)) : ∀ (places : List Nat) (v : List Int), (∀ i ∈ places, i < m ∧ i ∉ F.map Prod.fst) → RowOk p m v → (∀ q ∈ F, dot q.2 v % (p : Int) = 0) → (∀ i, i < m → i ∉ F.map Prod.fst → i ∉ places → v.getD i 0 = 0) → Pz v
  | [], v, _, hv, hu, hz => by
    have : v = List.replicate m 0 := by
      apply list_ext
      · rw [hv.1, List.length_replicate]
      · intro i hi
        rw [hv.1] at hi
        rw [zr_get (zr_rep m)]
        by_cases h : i ∈ F.map Prod.fst
        · obtain ⟨q, hq, rfl⟩ := List.mem_map.mp h
          have h1 := hu q hq
          rw [dot_sum (by rw [(R.ok q hq).2.1, hv.1]), (R.ok q hq).2.1, sumTo_one (k := q.1) m (R.ok q hq).1 fun i hi hne => ?_, R.one q hq, Int.one_mul] at h1
          · have hb := in_getD hv.2 (i := q.1) (by rw [hv.1]; exact hi)
            rw [Int.emod_eq_of_lt hb.1 hb.2] at h1
            exact h1
          · by_cases h : i ∈ F.map Prod.fst
            · obtain ⟨c, hc, rfl⟩ := List.mem_map.mp h
              rw [R.zero c hc q hq hne, Int.zero_mul]
            · rw [hz i hi h List.not_mem_nil, Int.mul_zero]
        · exact hz i hi h List.not_mem_nil
    rw [this]
    exact h0
  | pl :: places, v, hpl, hv, hu, hz => by
    obtain ⟨hp1, hp2⟩ := hpl pl List.mem_cons_self
    have hsl : v.length = (solvedRow p m F pl).length := by rw [sol_len, hv.1]
    have hw := sub_back (p := p) (t := v.getD pl 0) (a := v) (b := solvedRow p m F pl) hv.2 hsl
    rw [subRow_cmb] at hw
    rw [← hw]
    refine hc _ _ _ (up_sol hp R hc h0 hs places _ (fun i hi => hpl i (List.mem_cons_of_mem _ hi)) (cmb_ok hp.pos hv.1 sol_len) (fun q hq => ?_) fun i hi hif hin => ?_) (hs pl hp1 hp2)
    · have hql := (R.ok q hq).2.1
      rw [dot_comm, dot_cmb (by rw [hv.1, hql]) (by rw [sol_len, hql]), dot_comm, dot_comm (solvedRow p m F pl)]
      obtain ⟨k1, h1⟩ := dvd_z.mp (hu q hq)
      obtain ⟨k2, h2⟩ := dvd_z.mp (sol_up R hp1 hp2 hq)
      rw [h1, h2]
      refine dvd_z.mpr ⟨k1 + -(v.getD pl 0) * k2, ?_⟩
      grind
    · rw [cmb_get hsl, sol_free hi hif]
      by_cases e : i = pl
      · rw [if_pos e, e, Int.mul_one, show v.getD pl 0 + -v.getD pl 0 = 0 by omega]
        rfl
      · rw [if_neg e, Int.mul_zero, Int.add_zero, hz i hi hif (by rw [List.mem_cons, not_or]; exact ⟨e, hin⟩)]
        rfl
end
theorem form_eq {p m : Nat} (hp : P3 p) {rows : List (List Int)} (h : ∀ r ∈ rows, RowOk p m r) : ((least p rows).map fun r => (leadOf r, r)) = leastF p rows := by
  unfold least
  rw [List.map_map]
  refine (List.map_congr_left fun q hq => ?_).trans (List.map_id _)
  show (leadOf q.2, q.2) = q
  rw [red_lead (least_red hp h) hq]
theorem leads_eq {p m : Nat} (hp : P3 p) {rows : List (List Int)} (h : ∀ r ∈ rows, RowOk p m r) : (least p rows).map leadOf = (leastF p rows).map Prod.fst := by
  unfold least
  rw [List.map_map]
  exact List.map_congr_left fun q hq => red_lead (least_red hp h) hq
theorem solved_mem {p m : Nat} (hp : P3 p) {rows : List (List Int)} (h : ∀ r ∈ rows, RowOk p m r) {w : List Int} : w ∈ solved p rows m ↔ ∃ place, place < m ∧ place ∉ (leastF p rows).map Prod.fst ∧ solvedRow p m (leastF p rows) place = w := by
  unfold solved
  rw [form_eq hp h, leads_eq hp h, List.mem_map]
  constructor
  · rintro ⟨place, hpl, rfl⟩
    obtain ⟨h1, h2⟩ := List.mem_filter.mp hpl
    exact ⟨place, List.mem_range.mp h1, by simpa using h2, rfl⟩
  · rintro ⟨place, h1, h2, rfl⟩
    exact ⟨place, List.mem_filter.mpr ⟨List.mem_range.mpr h1, by simpa using h2⟩, rfl⟩
/-- solved rows are upright on the rows -/
theorem solved_up {p m : Nat} (hp : P3 p) {rows : List (List Int)} (h : ∀ r ∈ rows, RowOk p m r) {w : List Int} (hw : w ∈ solved p rows m) : RowOk p m w ∧ ∀ r ∈ rows, dot r w % (p : Int) = 0 := by
  obtain ⟨place, h1, h2, rfl⟩ := (solved_mem hp h).mp hw
  have R := least_red hp h
  have hok := sol_ok (place := place) hp R
  refine ⟨hok, fun r hr => ?_⟩
  have := (leastF_back hp (up_closed (p := p) (v := solvedRow p m (leastF p rows) place) hok.1) (fun r hr hl => ⟨hr.1, ?_⟩) rows [] (red_nil p m) h fun q hq => ⟨(R.ok q hq).2.1, sol_up R h1 h2 hq⟩).2 r hr
  · exact this.2
  · rw [dot_sum (by rw [hr.1, hok.1]), sumTo_zero]
    · rfl
    · intro i hi
      have : r.getD i 0 = 0 := Classical.byContradiction fun z => by
        have : i ∈ leadsOf r := List.mem_filter.mpr ⟨List.mem_range.mpr hi, by simpa using z⟩
        rw [hl] at this
        cases this
      rw [this, Int.zero_mul]
/-- and give all that are -/
theorem solved_all {p m : Nat} (hp : P3 p) {rows : List (List Int)} (h : ∀ r ∈ rows, RowOk p m r) {Pz : List Int → Prop} (hc : Closed p Pz) (h0 : Pz (List.replicate m 0)) (hs : ∀ w ∈ solved p rows m, Pz w) {v : List Int} (hv : RowOk p m v) (hu : ∀ r ∈ rows, dot r v % (p : Int) = 0) : Pz v := by
  have R := least_red hp h
  refine up_sol hp R hc h0 (fun place h1 h2 => hs _ ((solved_mem hp h).mpr ⟨place, h1, h2, rfl⟩)) ((List.range m).filter fun i => !decide (i ∈ (leastF p rows).map Prod.fst)) v (fun i hi => ?_) hv (fun q hq => ?_) fun i hi h1 h2 => ?_
  · obtain ⟨h1, h2⟩ := List.mem_filter.mp hi
    exact ⟨List.mem_range.mp h1, by simpa using h2⟩
  · exact (leastF_cl (up_closed (p := p) hv.1) (fun r hr => ⟨(h r hr).1, hu r hr⟩) q hq).2
  · exact absurd (List.mem_filter.mpr ⟨List.mem_range.mpr hi, by simpa using h1⟩) h2
end Q
end
section
set_option Elab.async false
set_option linter.all false
set_option maxRecDepth 100000
set_option maxHeartbeats 4000000
set_option autoImplicit false
/-! Pz: what is let through, and the rows that pass. -/
namespace Q
/-- rows that pass, the fresh numbers told -/
def ThrL (p : Nat) : List Deed → List Int → List Int → Prop
  | [], _, _ => True
  | x :: xs, r, fs => mayPass r x ∧ ThrL p xs (nxRow p (fs.headD 0) r x) (if x.isOpn then fs.tail else fs)
theorem thr_of_L {p : Nat} (hp : 0 < p) : ∀ {xs : List Deed} {r fs : List Int}, inR p fs → ThrL p xs r fs → Thr p xs r
  | [], _, _, _, _ => trivial
  | x :: xs, r, fs, hf, ⟨h1, h2⟩ => by
    have hb : 0 ≤ fs.headD 0 ∧ fs.headD 0 < (p : Int) := by
      cases fs with
      | nil => exact ⟨Int.le_refl _, by show (0 : Int) < p; omega⟩
      | cons a l => exact hf a List.mem_cons_self
    refine ⟨h1, fs.headD 0, hb.1, hb.2, thr_of_L hp ?_ h2⟩
    split
    · exact fun y hy => hf y (List.mem_of_mem_tail hy)
    · exact hf
theorem L_of_thr {p : Nat} : ∀ {xs : List Deed} {r : List Int}, Thr p xs r → ∃ fs, fs.length = opens xs ∧ inR p fs ∧ ThrL p xs r fs
  | [], _, _ => ⟨[], rfl, (fun x hx => by cases hx), trivial⟩
  | x :: xs, r, ⟨h1, f, f0, f1, h2⟩ => by
    obtain ⟨fs, hl, hi, h3⟩ := L_of_thr h2
    cases x with
    | opn g => exact ⟨f :: fs, by rw [opens_cons, List.length_cons, hl, if_pos (show (Deed.opn g).isOpn = true from rfl)]; omega, cons_ok ⟨f0, f1⟩ hi, h1, h3⟩
    | cross b g => exact ⟨fs, by rw [opens_cons, hl]; simp [Deed.isOpn], hi, h1, h3⟩
    | join g => exact ⟨fs, by rw [opens_cons, hl]; simp [Deed.isOpn], hi, h1, h3⟩
    | turn g => exact ⟨fs, by rw [opens_cons, hl]; simp [Deed.isOpn], hi, h1, h3⟩
def evR (p : Nat) (v : List Int) (ring : List (List Int)) : List Int := ring.map fun r => dot r v % (p : Int)
theorem evR_get {p : Nat} {v : List Int} {ring : List (List Int)} {i : Nat} (hi : i < ring.length) : (evR p v ring).getD i 0 = dot (ring.getD i []) v % (p : Int) := by
  unfold evR
  rw [List.getD_eq_getElem?_getD, List.getElem?_map, List.getElem?_eq_getElem hi, List.getD_eq_getElem?_getD, List.getElem?_eq_getElem hi]
  rfl
theorem evR_cy {p : Nat} {v : List Int} {ring : List (List Int)} {i : Nat} (hi : 0 < ring.length) : cy (evR p v ring) i = dot (cyR ring i) v % (p : Int) := by
  have hl : (evR p v ring).length = ring.length := List.length_map _
  unfold cy cyR
  rw [hl, evR_get (Nat.mod_lt _ hi)]
theorem mod_sub {p x y : Int} (h : x % p = y % p) : ∃ k, x - y = p * k := dvd_z.mp (Int.emod_eq_emod_iff_emod_sub_eq_zero.mp h)
theorem dot_cross {p : Nat} : ∀ {a u d v : List Int}, a.length = v.length → u.length = v.length → d.length = v.length → dot (crossRow p a u d) v % (p : Int) = (dot a v + dot u v - dot d v) % (p : Int)
  | [], [], [], [], _, _, _ => by simp [dot, crossRow]
  | x :: a, y :: u, z :: d, w :: v, h1, h2, h3 => by
    show ((x + y - z) % (p : Int) * w + dot (crossRow p a u d) v) % (p : Int) = (x * w + dot a v + (y * w + dot u v) - (z * w + dot d v)) % (p : Int)
    obtain ⟨k, ih⟩ := mod_sub (dot_cross (p := p) (a := a) (u := u) (d := d) (v := v) (by simpa using h1) (by simpa using h2) (by simpa using h3))
    have e := Int.emod_def (x + y - z) (p : Int)
    rw [e]
    generalize (x + y - z) / (p : Int) = q at *
    refine meq (k - q * w) ?_
    grind
  | [], [], [], _ :: _, h, _, _ => by simp at h
  | [], [], _ :: _, [], _, _, h => by simp at h
  | [], [], _ :: _, _ :: _, h, _, _ => by simp at h
  | [], _ :: _, _, [], _, h, _ => by simp at h
  | [], _ :: _, _, _ :: _, h, _, _ => by simp at h
  | _ :: _, _, _, [], h, _, _ => by simp at h
  | _ :: _, [], _, _ :: _, _, h, _ => by simp at h
  | _ :: _, _ :: _, [], _ :: _, _, _, h => by simp at h
theorem subR_cmb {p : Nat} {a b : List Int} : subR p a b = cmb p (-1) a b := by
  unfold subR cmb
  congr 1
  funext q
  rw [show q.1 + -1 * q.2 = q.1 - q.2 by omega]
theorem dot_unit {p m i : Nat} {v : List Int} (hv : RowOk p m v) (hi : i < m) : dot (unitRow m i) v % (p : Int) = v.getD i 0 := by
  have hl : (unitRow m i).length = m := by simp [unitRow]
  have hg : ∀ j, j < m → (unitRow m i).getD j 0 = if j = i then 1 else 0 := fun j hj => unit_get hj
  rw [dot_sum (by rw [hl, hv.1]), hl, sumTo_one (k := i) m hi fun j hj hne => by rw [hg j hj, if_neg hne, Int.zero_mul], hg i hi, if_pos rfl, Int.one_mul]
  have hb := in_getD hv.2 (i := i) (by rw [hv.1]; exact hi)
  exact Int.emod_eq_of_lt hb.1 hb.2
/-- the ring's numbers behind a deed -/
theorem ev_form {p m n fr : Nat} (hp : 1 < p) {f : Form} {x : Deed} {ds : List Deed} {v : List Int} (F : FOk p m n fr f) (h : Vd m n fr (x :: ds)) (hv : RowOk p m v) : evR p v (form1 p m f x).ring = nxRow p ((v.drop fr).headD 0) (evR p v f.ring) x := by
  have h2 := h.two
  have hlen := F.len
  have hpos : 0 < f.ring.length := by omega
  have hel : (evR p v f.ring).length = f.ring.length := List.length_map _
  cases x with
  | cross b g =>
    have hg : g < n := h.2.1
    have r1 := F.ring _ (cyR_mem (i := g + f.ring.length - 1) hpos)
    have r2 := F.ring _ (cyR_mem (i := g + 1) hpos)
    have r3 := F.ring _ (getD_mem (i := g) (by omega : g < f.ring.length))
    show evR p v (f.ring.set g _) = cross1 p (evR p v f.ring) (b, g)
    unfold cross1 stepAt
    dsimp only
    rw [hel, evR_cy hpos, evR_cy hpos, evR_get (by omega)]
    unfold evR
    rw [List.map_set]
    congr 1
    generalize hA : cyR f.ring (g + f.ring.length - 1) = A at *
    generalize hB : cyR f.ring (g + 1) = B at *
    generalize f.ring.getD g [] = C at *
    cases b
    · show dot (crossRow p C B A) v % (p : Int) = (dot C v % (p : Int) + -(dot A v % (p : Int) - dot B v % (p : Int))) % (p : Int)
      rw [dot_cross (by rw [r3.1, hv.1]) (by rw [r2.1, hv.1]) (by rw [r1.1, hv.1])]
      have e1 := Int.emod_def (dot C v) (p : Int)
      have e2 := Int.emod_def (dot A v) (p : Int)
      have e3 := Int.emod_def (dot B v) (p : Int)
      rw [e1, e2, e3]
      exact meq (dot C v / (p : Int) - dot A v / (p : Int) + dot B v / (p : Int)) (by grind)
    · show dot (crossRow p C A B) v % (p : Int) = (dot C v % (p : Int) + (dot A v % (p : Int) - dot B v % (p : Int))) % (p : Int)
      rw [dot_cross (by rw [r3.1, hv.1]) (by rw [r1.1, hv.1]) (by rw [r2.1, hv.1])]
      have e1 := Int.emod_def (dot C v) (p : Int)
      have e2 := Int.emod_def (dot A v) (p : Int)
      have e3 := Int.emod_def (dot B v) (p : Int)
      rw [e1, e2, e3]
      exact meq (dot C v / (p : Int) + dot A v / (p : Int) - dot B v / (p : Int)) (by grind)
  | join g =>
    show evR p v (if 2 < f.ring.length then _ else _ : Form).ring = if 2 < (evR p v f.ring).length then (evR p v f.ring).take g ++ (evR p v f.ring).drop (g + 2) else (evR p v f.ring).take 1
    rw [hel]
    unfold evR
    split
    · show (f.ring.take g ++ f.ring.drop (g + 2)).map _ = _
      rw [List.map_append, List.map_take, List.map_drop]
    · show (f.ring.take 1).map _ = _
      rw [List.map_take]
  | opn g =>
    have hfr : fr < m := h.2.2.1
    show evR p v (f.ring.take (g + 1) ++ [unitRow m f.fresh] ++ (if 1 < f.ring.length then f.ring.drop g else [])) = (evR p v f.ring).take (g + 1) ++ (v.drop fr).headD 0 :: (evR p v f.ring).drop g
    rw [if_pos (by omega)]
    unfold evR
    rw [List.map_append, List.map_append, List.map_take, List.map_drop, List.append_assoc]
    congr 1
    show dot (unitRow m f.fresh) v % (p : Int) :: _ = _
    rw [F.fr, dot_unit hv hfr]
    congr 1
    rw [List.drop_eq_getElem_cons (by rw [hv.1]; exact hfr), List.getD_eq_getElem?_getD, List.getElem?_eq_getElem (by rw [hv.1]; exact hfr)]
    rfl
  | turn g =>
    show (f.ring.drop g ++ f.ring.take g).map _ = (f.ring.map _).drop g ++ (f.ring.map _).take g
    rw [List.map_append, List.map_take, List.map_drop]
theorem zero_form {p m n fr : Nat} (hp : 1 < p) {f : Form} {x : Deed} {ds : List Deed} {v : List Int} (F : FOk p m n fr f) (h : Vd m n fr (x :: ds)) (hv : RowOk p m v) : (∀ z ∈ (form1 p m f x).zero, dot z v % (p : Int) = 0) ↔ (∀ z ∈ f.zero, dot z v % (p : Int) = 0) ∧ mayPass (evR p v f.ring) x := by
  have h2 := h.two
  have hlen := F.len
  have hpos : 0 < f.ring.length := by omega
  have hel : (evR p v f.ring).length = f.ring.length := List.length_map _
  cases x with
  | cross b g => exact ⟨fun z => ⟨z, trivial⟩, fun z => z.1⟩
  | opn g => exact ⟨fun z => ⟨z, trivial⟩, fun z => z.1⟩
  | turn g => exact ⟨fun z => ⟨z, trivial⟩, fun z => z.1⟩
  | join g =>
    by_cases hn : 2 < n
    · have hg := h.2.1 hn
      have e : form1 p m f (.join g) = { f with ring := f.ring.take g ++ f.ring.drop (g + 2), zero := f.zero ++ [subR p (cyR f.ring (g + f.ring.length - 1)) (f.ring.getD (g + 1) [])] } := if_pos (by omega)
      have r1 := F.ring _ (cyR_mem (i := g + f.ring.length - 1) hpos)
      have r2 := F.ring _ (getD_mem (i := g + 1) (by omega : g + 1 < f.ring.length))
      have ec : cyR f.ring (g + f.ring.length - 1) = f.ring.getD (g - 1) [] := by
        unfold cyR
        rw [show g + f.ring.length - 1 = (g - 1) + f.ring.length by omega, Nat.add_mod_right, Nat.mod_eq_of_lt (by omega)]
      have key : dot (subR p (cyR f.ring (g + f.ring.length - 1)) (f.ring.getD (g + 1) [])) v % (p : Int) = 0 ↔ mayPass (evR p v f.ring) (.join g) := by
        rw [subR_cmb, dot_cmb (by rw [r1.1, hv.1]) (by rw [r2.1, hv.1])]
        unfold mayPass
        dsimp only
        rw [hel, evR_get (by omega), evR_get (by omega), ec, show dot (f.ring.getD (g - 1) []) v + -1 * dot (f.ring.getD (g + 1) []) v = dot (f.ring.getD (g - 1) []) v - dot (f.ring.getD (g + 1) []) v by omega, ← Int.emod_eq_emod_iff_emod_sub_eq_zero]
        exact ⟨fun z _ => z, fun z => z (by omega)⟩
      rw [e, ← key]
      constructor
      · intro z
        exact ⟨fun y hy => z y (List.mem_append_left _ hy), z _ (List.mem_append_right _ List.mem_cons_self)⟩
      · rintro ⟨z1, z2⟩ y hy
        rcases List.mem_append.mp hy with hy | hy
        · exact z1 y hy
        · rw [List.mem_singleton.mp hy]
          exact z2
    · have e : form1 p m f (.join g) = { f with ring := f.ring.take 1 } := if_neg (by omega)
      rw [e]
      refine ⟨fun z => ⟨z, fun hh => by omega⟩, fun z => z.1⟩
theorem link {p m : Nat} (hp : 1 < p) {v : List Int} (hv : RowOk p m v) : ∀ {xs : List Deed} {f : Form} {n fr : Nat}, FOk p m n fr f → Vd m n fr xs → ((∀ z ∈ (xs.foldl (form1 p m) f).zero, dot z v % (p : Int) = 0) ↔ (∀ z ∈ f.zero, dot z v % (p : Int) = 0) ∧ ThrL p xs (evR p v f.ring) (v.drop fr))
  | [], f, n, fr, F, h => ⟨fun z => ⟨z, trivial⟩, fun z => z.1⟩
  | x :: xs, f, n, fr, F, h => by
    have ih := link hp hv (form1_ok hp F h) h.tl
    have e : (if x.isOpn then (v.drop fr).tail else v.drop fr) = v.drop (nf fr x) := by
      cases x with
      | opn g =>
        show (v.drop fr).tail = v.drop (fr + 1)
        rw [List.tail_drop]
      | _ => rfl
    rw [List.foldl_cons, ih, zero_form hp F h hv, ev_form hp F h hv, ← e]
    show _ ↔ _ ∧ mayPass _ _ ∧ ThrL _ _ _ _
    exact and_assoc
theorem forms_zero_ok {p m : Nat} (hp : 1 < p) : ∀ {xs : List Deed} {f : Form} {n fr : Nat}, FOk p m n fr f → Vd m n fr xs → ∀ z ∈ (xs.foldl (form1 p m) f).zero, RowOk p m z
  | [], f, n, fr, F, _ => F.zero
  | x :: xs, f, n, fr, F, h => forms_zero_ok hp (xs := xs) (form1_ok hp F h) h.tl
theorem ev_units {p m n : Nat} {v : List Int} (hv : RowOk p m v) (hn : n ≤ m) : evR p v ((List.range n).map (unitRow m)) = v.take n := by
  have hl := hv.1
  apply list_ext
  · unfold evR
    rw [List.length_map, List.length_map, List.length_range, List.length_take]
    omega
  · intro i hi
    unfold evR at hi ⊢
    rw [List.length_map, List.length_map, List.length_range] at hi
    rw [List.map_map, List.getD_eq_getElem?_getD, List.getElem?_map, List.getElem?_range hi]
    show dot (unitRow m i) v % (p : Int) = _
    rw [dot_unit hv (by omega), List.getD_eq_getElem?_getD, List.getD_eq_getElem?_getD, List.getElem?_take_of_lt hi]
section
variable {p n : Nat} {xs : List Deed}
theorem start_ok (hp : 1 < p) : FOk p (manyOf n xs) n n { ring := (List.range n).map (unitRow (manyOf n xs)), fresh := n, zero := [] } := by
  refine ⟨by show ((List.range n).map _).length = n; rw [List.length_map, List.length_range], rfl, fun r hr => ?_, fun r hr => by cases hr⟩
  obtain ⟨i, _, rfl⟩ := List.mem_map.mp hr
  exact unitRow_ok hp
theorem zero_ok (hp : 1 < p) (he : n % 2 = 0) (h2 : 2 ≤ n) (hv : Lv n xs 0) : ∀ z ∈ (formsOf p n xs).zero, RowOk p (manyOf n xs) z := forms_zero_ok hp (start_ok hp) (Lv.vd he h2 hv)
theorem forms_link (hp : 1 < p) (he : n % 2 = 0) (h2 : 2 ≤ n) (hv : Lv n xs 0) {v : List Int} (hok : RowOk p (manyOf n xs) v) : (∀ z ∈ (formsOf p n xs).zero, dot z v % (p : Int) = 0) ↔ ThrL p xs (v.take n) (v.drop n) := by
  have h := link hp hok (start_ok hp) (Lv.vd he h2 hv)
  rw [ev_units hok (by unfold manyOf; omega)] at h
  exact h.trans ⟨fun z => z.2, fun z => ⟨(fun y hy => by cases hy), z⟩⟩
theorem P3.one {p : Nat} (h : P3 p) : 1 < p := by
  rcases h with h | h | h <;> omega
theorem solved_thr (hp : P3 p) (he : n % 2 = 0) (h2 : 2 ≤ n) (hv : Lv n xs 0) {w : List Int} (hw : w ∈ solved p (formsOf p n xs).zero (manyOf n xs)) : RowOk p n (w.take n) ∧ Thr p xs (w.take n) := by
  obtain ⟨h1, h3⟩ := solved_up hp (zero_ok hp.one he h2 hv) hw
  have h4 := (forms_link hp.one he h2 hv h1).mp h3
  refine ⟨⟨?_, take_ok h1.2⟩, thr_of_L hp.pos (drop_ok h1.2) h4⟩
  rw [List.length_take, h1.1]
  unfold manyOf
  omega
theorem thr_closed (hp : P3 p) (hv : Lv n xs 0) : Closed p fun r => RowOk p n r ∧ Thr p xs r := fun t a b ⟨a1, a2⟩ ⟨b1, b2⟩ => ⟨cmb_ok hp.pos a1.1 b1.1, thr_cmb hp.pos hv a1.1 b1.1 a2 b2⟩
/-- what is let through passes -/
theorem through_thr (hp : P3 p) (he : n % 2 = 0) (h2 : 2 ≤ n) (hv : Lv n xs 0) : ∀ e ∈ throughOf p n xs, RowOk p n e ∧ Thr p xs e := by
  intro e h
  unfold throughOf least at h
  obtain ⟨q, hq, rfl⟩ := List.mem_map.mp h
  refine leastF_cl (thr_closed hp hv) (fun r hr => ?_) q hq
  obtain ⟨w, hw, rfl⟩ := List.mem_map.mp hr
  exact solved_thr hp he h2 hv hw
theorem chess_cmb {t : Int} {a b : List Int} (hl : a.length = b.length) (ha : lchess a = true) (hb : lchess b = true) : lchess (cmb p t a b) = true := by
  unfold lchess at *
  rw [List.all_eq_true] at *
  intro i hi
  rw [cmb_len hl] at hi
  have h1 := ha i hi
  have h2 := hb i (by rw [← hl]; exact hi)
  rw [beq_iff_eq] at *
  rw [cmb_get hl, cmb_get hl, h1, h2]
theorem chess_zero {r : List Int} (h : Zr r) : lchess r = true := by
  unfold lchess
  rw [List.all_eq_true]
  intro i hi
  rw [zr_get h, zr_get h]
  rfl
theorem leads_zero {r : List Int} (h : leadsOf r = []) : Zr r := fun x hx => Classical.byContradiction fun z => by
  obtain ⟨i, hi, rfl⟩ := List.mem_iff_getElem.mp hx
  have : i ∈ leadsOf r := List.mem_filter.mpr ⟨List.mem_range.mpr hi, by rw [List.getD_eq_getElem?_getD, List.getElem?_eq_getElem hi]; simpa using z⟩
  rw [h] at this
  cases this
/-- if all rows let through are chess, so are all that pass -/
theorem through_chess (hp : P3 p) (he : n % 2 = 0) (h2 : 2 ≤ n) (hv : Lv n xs 0) (hall : ∀ e ∈ throughOf p n xs, lchess e = true) {r : List Int} (hr : RowOk p n r) (ht : Thr p xs r) : lchess r = true := by
  have hz := zero_ok hp.one he h2 hv
  have hnm : n ≤ manyOf n xs := by
    unfold manyOf
    omega
  have hrows : ∀ r ∈ ((solved p (formsOf p n xs).zero (manyOf n xs)).map fun r => r.take n), RowOk p n r := fun r hr => by
    obtain ⟨w, hw, rfl⟩ := List.mem_map.mp hr
    exact (solved_thr hp he h2 hv hw).1
  have h1 := (leastF_back (m := n) hp (Pz := fun r => r.length = n ∧ lchess r = true) (fun t a b ha hb => ⟨by rw [cmb_len (by omega), ha.1], chess_cmb (by omega) ha.2 hb.2⟩) (fun r hr hl => ⟨hr.1, chess_zero (leads_zero hl)⟩) _ [] (red_nil p n) hrows fun q hq => ⟨((least_red hp hrows).ok q hq).2.1, hall q.2 (List.mem_map_of_mem hq)⟩).2
  obtain ⟨fs, hfl, hfi, hL⟩ := L_of_thr ht
  have hok : RowOk p (manyOf n xs) (r ++ fs) := ⟨by rw [List.length_append, hr.1, hfl]; rfl, app_ok hr.2 hfi⟩
  have htk : (r ++ fs).take n = r := by
    rw [← hr.1, List.take_left]
  have hdr : (r ++ fs).drop n = fs := by
    rw [← hr.1, List.drop_left]
  have hu := (forms_link hp.one he h2 hv hok).mpr (by rw [htk, hdr]; exact hL)
  have h5 := solved_all hp hz (Pz := fun w => w.length = manyOf n xs ∧ lchess (w.take n) = true) (fun t a b ha hb => ⟨by rw [cmb_len (by omega), ha.1], by rw [cmb_take]; exact chess_cmb (by rw [List.length_take, List.length_take, ha.1, hb.1]) ha.2 hb.2⟩) ⟨List.length_replicate, chess_zero fun x hx => zr_rep _ x (List.mem_of_mem_take hx)⟩ (fun w hw => ⟨(solved_up hp hz hw).1.1, (h1 (w.take n) (List.mem_map_of_mem hw)).2⟩) hok hu
  rw [htk] at h5
  exact h5.2
/-- some row that is let through is no chess row -/
theorem through_some (hp : P3 p) (he : n % 2 = 0) (h4 : 4 ≤ n) (hv : Lv n xs 0) : ∃ e ∈ throughOf p n xs, lchess e = false := by
  apply Classical.byContradiction
  intro hno
  have hall : ∀ e ∈ throughOf p n xs, lchess e = true := fun e hm => by
    cases hc : lchess e with
    | true => rfl
    | false => exact absurd ⟨e, hm, hc⟩ hno
  have hu : RowOk p n (unitRow n 0) := unitRow_ok hp.one
  have ht : Thr p xs (unitRow n 0) := by
    refine thr_co hp hv hu fun s hs hts => ?_
    have hc := through_chess hp he (by omega) hv hall hs hts
    rw [om_anti s, om_chess (by rw [hs.1]; omega) (by rw [hs.1]; exact he) (by rw [hs.1, hu.1]) hc]
    rfl
  have hc := through_chess hp he (by omega) hv hall hu ht
  unfold lchess at hc
  rw [List.all_eq_true] at hc
  have h2 := hc 2 (List.mem_range.mpr (by rw [hu.1]; omega))
  have g2 : (unitRow n 0).getD 2 0 = 0 := unit_get (by omega)
  have g0 : (unitRow n 0).getD (2 % 2) 0 = 1 := unit_get (by omega)
  rw [g2, g0] at h2
  exact absurd h2 (by decide)
theorem opens_le : ∀ xs : List Deed, opens xs ≤ xs.length := fun xs => List.length_filter_le _ _
theorem through_len (hl : xs.length ≤ 30) (hn : n ≤ 10) : (throughOf p n xs).length ≤ 100 := by
  have h1 := fold_len p ((solved p (formsOf p n xs).zero (manyOf n xs)).map fun r => r.take n) []
  have h2 : (solved p (formsOf p n xs).zero (manyOf n xs)).length ≤ manyOf n xs := by
    unfold solved
    rw [List.length_map]
    exact Nat.le_trans (List.length_filter_le _ _) (Nat.le_of_eq List.length_range)
  have h3 := opens_le xs
  have h4 : (throughOf p n xs).length = (leastF p ((solved p (formsOf p n xs).zero (manyOf n xs)).map fun r => r.take n)).length := by
    unfold throughOf least
    rw [List.length_map]
  unfold leastF at h4
  rw [List.length_map, List.length_nil] at h1
  unfold manyOf at *
  omega
/-- rows led alike have alike neighbours -/
theorem through_alike (hp : P3 p) (he : n % 2 = 0) (h4 : 4 ≤ n) (hv : Lv n xs 0) {e e2 r' : List Int} {cs : List (Bool × Nat)} {g : Nat} {gs : List Nat} (h1 : e ∈ throughOf p n xs) (h2 : e2 ∈ throughOf p n xs) (hcs : ∀ c ∈ cs, c.2 < n) (hc : crossed p e cs = r') (hr : RowOk p n r') (hg : lstrange r' = g :: gs) : cy (crossed p e2 cs) (g + n - 1) = cy (crossed p e2 cs) (g + 1) := by
  obtain ⟨o1, t1⟩ := through_thr hp he (by omega) hv e h1
  obtain ⟨o2, t2⟩ := through_thr hp he (by omega) hv e2 h2
  have l1 := o1.1
  have l2 := o2.1
  have hok : ∀ (cs : List (Bool × Nat)) (s : List Int), RowOk p n s → RowOk p n (crossed p s cs) := by
    intro cs
    induction cs with
    | nil => exact fun s h => h
    | cons c cs ih => exact fun s h => ih _ (crossOk hp.pos h)
  refine led_alike hp h4 he hr (hok cs e2 o2) (by rw [hg]; exact List.mem_cons_self) ?_
  rw [← hc, om_crossed (by omega) (by omega) (by rw [l1]; exact hcs)]
  exact thr_iso hv l1 l2 t1 t2
end
end Q
end
section
set_option Elab.async false
set_option linter.all false
set_option maxRecDepth 100000
set_option maxHeartbeats 4000000
set_option autoImplicit false
/-! Wv: the plain law. -/
namespace Q
theorem plain_law : PlainLaw where
  told := fun p n r hp h4 h10 he hr hc => by
    obtain ⟨ok, qs, r', cs, a1, a2, a3, a4, a5, a6, a7, a8, a9⟩ := told_law hp h4 h10 he hr hc
    exact ⟨qs, r', cs, ok, a1, a2, a3, a4, a5, a6, a7, a8, a9⟩
  few := fun p n r hp hf hc hn => by
    obtain ⟨_, _, h4, h6, he, _, hr⟩ := hf
    exact few_law hp h4 h6 he hr hc hn
  shown := fun p n r qs hp h4 h10 he hr hq => shown_law h4 he hr hq
  rim := fun p n xs hp h4 h10 he hv hl => by
    refine ⟨through_some hp he h4 hv, fun e h => (through_thr hp he (by omega) hv e h).1, through_len hl h10, fun e h qs r' cs T g gs hg e2 h2 => ?_⟩
    exact through_alike hp he h4 hv h h2 T.cgaps T.crossed T.row hg
end Q
end
section
set_option Elab.async false
set_option linter.all false
set_option maxRecDepth 100000
set_option maxHeartbeats 4000000
/-! Xa: all together. -/
namespace Q
open PySem PySem.Spec PyProof.Rows L2 NdefX PySem.W
theorem paper_binds {kV doc pm cdv ct : Value} {an : Option Addr} : ∀ {us rest : List Value}, us.length = 2 → bindArgs (PySem.W.fnOf "__init__" "Paper.__init__" (defArgs s_Paper___init__) (defBody s_Paper___init__) (defScope s_Paper___init__) .none kV doc pm an cdv ct) ⟨us ++ rest, []⟩ = (newTuple rest >>= fun t => pure ((["self", "word"] : List Str).zip us ++ [(("parts" : Str), t)]))
  | [u, v], rest, _ => by
    have hv : (PySem.W.fnOf "__init__" "Paper.__init__" (defArgs s_Paper___init__) (defBody s_Paper___init__) (defScope s_Paper___init__) .none kV doc pm an cdv ct).params.vararg.isNone = false := rfl
    unfold bindArgs
    simp only [hv, Bool.and_false, Bool.false_eq_true, if_false]
    rfl
theorem sized_binds {K : PySem.W.Frag} {kV doc pm cdv ct d : Value} {an : Option Addr} {T : Addr} {oc : Value} {od : Option Addr} {n : Nat} {sl : Array (Option Value)} (lT : K.lookup T = some ⟨oc, od, .seq #[d] n, sl⟩) : Binds K (PySem.W.fnOf "need_sized" "need_sized" (defArgs s_need_sized) (defBody s_need_sized) (defScope s_need_sized) (.ref T) kV doc pm an cdv ct) ["value", "clock", "part", "least", "most", "step"] [] := fun s us X hl => by
  match us, hl with
  | [u0, u1, u2, u3, u4, u5], _ =>
    obtain ⟨k, e1, e2⟩ : ∃ k, bindArgs (PySem.W.fnOf "need_sized" "need_sized" (defArgs s_need_sized) (defBody s_need_sized) (defScope s_need_sized) (.ref T) kV doc pm an cdv ct) ⟨[u0, u1, u2, u3, u4, u5], []⟩ = seqItems? (.ref T) >>= k ∧ k (some #[d]) = pure ((["value", "clock", "part", "least", "most", "step"] : List Str).zip [u0, u1, u2, u3, u4, u5]) := ⟨_, rfl, rfl⟩
    refine L2.BindsTo.of_looks fun M => ?_
    rw [e1]
    exact looks_items X lT rfl (.of_pure e2)
theorem all_mk {w : World} {K : PySem.W.Frag} {h : Heap} {mg : Str → Option Value} {fa : Addr} (X : K.In h) (G : h.Ns mainGlobals mg) (hfa : mg "law" = some (.ref fa))
    {f_is_integer f_is_within f_is_clock f_is_row f_need_clock f_need_row f_need_sized f_need_ring f_are_alike f_is_one_off f_is_chess_in f_is_near f_may_in f_with_number f_need_few f_is_pair f_row_behind f_rows_next f_fewest_from f__law_is_chess f__law_strange f__law_next f__law_played f__law_crossed f__law_least f__law_solved f__law_forms f__law_through f__law_draughts f__law_man f__law_pick f__law_deed f__law_deeds f__law_fewest f_fewest_sets f_fixed f_game_in f_judged_ring f_shows_ring f_law aG aL aX f_Game___init__ f_Game_put f_Game_part f_Game_even_whites f_Game_even_blacks aP f_Paper___init__ f_Paper___bool__ f_Denial___bool__ cc_Led___init__ cda_Led___init__ f_Led___init__ cc_Chess___init__ cda_Chess___init__ f_Chess___init__ aN aC : Addr}
    {oc_is_integer kV_is_integer doc_is_integer pm_is_integer ct_is_integer cd_is_integer oc_is_within kV_is_within doc_is_within pm_is_within ct_is_within cd_is_within oc_is_clock kV_is_clock doc_is_clock pm_is_clock ct_is_clock cd_is_clock oc_is_row kV_is_row doc_is_row pm_is_row ct_is_row cd_is_row oc_need_clock kV_need_clock doc_need_clock pm_need_clock ct_need_clock cd_need_clock oc_need_row kV_need_row doc_need_row pm_need_row ct_need_row cd_need_row oc_need_sized kV_need_sized doc_need_sized pm_need_sized ct_need_sized cd_need_sized oc_need_ring kV_need_ring doc_need_ring pm_need_ring ct_need_ring cd_need_ring oc_are_alike kV_are_alike doc_are_alike pm_are_alike ct_are_alike cd_are_alike oc_is_one_off kV_is_one_off doc_is_one_off pm_is_one_off ct_is_one_off cd_is_one_off oc_is_chess_in kV_is_chess_in doc_is_chess_in pm_is_chess_in ct_is_chess_in cd_is_chess_in oc_is_near kV_is_near doc_is_near pm_is_near ct_is_near cd_is_near oc_may_in kV_may_in doc_may_in pm_may_in ct_may_in cd_may_in oc_with_number kV_with_number doc_with_number pm_with_number ct_with_number cd_with_number oc_need_few kV_need_few doc_need_few pm_need_few ct_need_few cd_need_few oc_is_pair kV_is_pair doc_is_pair pm_is_pair ct_is_pair cd_is_pair oc_row_behind kV_row_behind doc_row_behind pm_row_behind ct_row_behind cd_row_behind oc_rows_next kV_rows_next doc_rows_next pm_rows_next ct_rows_next cd_rows_next oc_fewest_from kV_fewest_from doc_fewest_from pm_fewest_from ct_fewest_from cd_fewest_from oc__law_is_chess kV__law_is_chess doc__law_is_chess pm__law_is_chess ct__law_is_chess cd__law_is_chess oc__law_strange kV__law_strange doc__law_strange pm__law_strange ct__law_strange cd__law_strange oc__law_next kV__law_next doc__law_next pm__law_next ct__law_next cd__law_next oc__law_played kV__law_played doc__law_played pm__law_played ct__law_played cd__law_played oc__law_crossed kV__law_crossed doc__law_crossed pm__law_crossed ct__law_crossed cd__law_crossed oc__law_least kV__law_least doc__law_least pm__law_least ct__law_least cd__law_least oc__law_solved kV__law_solved doc__law_solved pm__law_solved ct__law_solved cd__law_solved oc__law_forms kV__law_forms doc__law_forms pm__law_forms ct__law_forms cd__law_forms oc__law_through kV__law_through doc__law_through pm__law_through ct__law_through cd__law_through oc__law_draughts kV__law_draughts doc__law_draughts pm__law_draughts ct__law_draughts cd__law_draughts oc__law_man kV__law_man doc__law_man pm__law_man ct__law_man cd__law_man oc__law_pick kV__law_pick doc__law_pick pm__law_pick ct__law_pick cd__law_pick oc__law_deed kV__law_deed doc__law_deed pm__law_deed ct__law_deed cd__law_deed oc__law_deeds kV__law_deeds doc__law_deeds pm__law_deeds ct__law_deeds cd__law_deeds oc__law_fewest kV__law_fewest doc__law_fewest pm__law_fewest ct__law_fewest cd__law_fewest oc_fewest_sets kV_fewest_sets doc_fewest_sets pm_fewest_sets ct_fewest_sets cd_fewest_sets oc_fixed kV_fixed doc_fixed pm_fixed ct_fixed cd_fixed oc_game_in kV_game_in doc_game_in pm_game_in ct_game_in cd_game_in oc_judged_ring kV_judged_ring doc_judged_ring pm_judged_ring ct_judged_ring cd_judged_ring oc_shows_ring kV_shows_ring doc_shows_ring pm_shows_ring ct_shows_ring cd_shows_ring oc_law kV_law doc_law pm_law ct_law cd_law oc_Game___init__ kV_Game___init__ doc_Game___init__ pm_Game___init__ ct_Game___init__ cd_Game___init__ oc_Game_put kV_Game_put doc_Game_put pm_Game_put ct_Game_put cd_Game_put oc_Game_part kV_Game_part doc_Game_part pm_Game_part ct_Game_part cd_Game_part oc_Game_even_whites kV_Game_even_whites doc_Game_even_whites pm_Game_even_whites ct_Game_even_whites cd_Game_even_whites oc_Game_even_blacks kV_Game_even_blacks doc_Game_even_blacks pm_Game_even_blacks ct_Game_even_blacks cd_Game_even_blacks oc_Paper___init__ kV_Paper___init__ doc_Paper___init__ pm_Paper___init__ ct_Paper___init__ cd_Paper___init__ oc_Paper___bool__ kV_Paper___bool__ doc_Paper___bool__ pm_Paper___bool__ ct_Paper___bool__ cd_Paper___bool__ oc_Denial___bool__ kV_Denial___bool__ doc_Denial___bool__ pm_Denial___bool__ ct_Denial___bool__ cd_Denial___bool__ oc_Led___init__ kV_Led___init__ doc_Led___init__ pm_Led___init__ ct_Led___init__ cl1_aL cl2_aL oc_Chess___init__ kV_Chess___init__ doc_Chess___init__ pm_Chess___init__ ct_Chess___init__ cl1_aX cl2_aX oc_N d_N : Value}
    {od_is_integer an_is_integer od_is_within an_is_within od_is_clock an_is_clock od_is_row an_is_row od_need_clock an_need_clock od_need_row an_need_row od_need_sized an_need_sized od_need_ring an_need_ring od_are_alike an_are_alike od_is_one_off an_is_one_off od_is_chess_in an_is_chess_in od_is_near an_is_near od_may_in an_may_in od_with_number an_with_number od_need_few an_need_few od_is_pair an_is_pair od_row_behind an_row_behind od_rows_next an_rows_next od_fewest_from an_fewest_from od__law_is_chess an__law_is_chess od__law_strange an__law_strange od__law_next an__law_next od__law_played an__law_played od__law_crossed an__law_crossed od__law_least an__law_least od__law_solved an__law_solved od__law_forms an__law_forms od__law_through an__law_through od__law_draughts an__law_draughts od__law_man an__law_man od__law_pick an__law_pick od__law_deed an__law_deed od__law_deeds an__law_deeds od__law_fewest an__law_fewest od_fewest_sets an_fewest_sets od_fixed an_fixed od_game_in an_game_in od_judged_ring an_judged_ring od_shows_ring an_shows_ring od_law an_law od_Game___init__ an_Game___init__ od_Game_put an_Game_put od_Game_part an_Game_part od_Game_even_whites an_Game_even_whites od_Game_even_blacks an_Game_even_blacks od_Paper___init__ an_Paper___init__ od_Paper___bool__ an_Paper___bool__ od_Denial___bool__ an_Denial___bool__ od_Led___init__ an_Led___init__ d1_aL d2_aL od_Chess___init__ an_Chess___init__ d1_aX d2_aX od_N od_C : Option Addr}
    {sl_is_integer sl_is_within sl_is_clock sl_is_row sl_need_clock sl_need_row sl_need_sized sl_need_ring sl_are_alike sl_is_one_off sl_is_chess_in sl_is_near sl_may_in sl_with_number sl_need_few sl_is_pair sl_row_behind sl_rows_next sl_fewest_from sl__law_is_chess sl__law_strange sl__law_next sl__law_played sl__law_crossed sl__law_least sl__law_solved sl__law_forms sl__law_through sl__law_draughts sl__law_man sl__law_pick sl__law_deed sl__law_deeds sl__law_fewest sl_fewest_sets sl_fixed sl_game_in sl_judged_ring sl_shows_ring sl_law sl_Game___init__ sl_Game_put sl_Game_part sl_Game_even_whites sl_Game_even_blacks sl_Paper___init__ sl_Paper___bool__ sl_Denial___bool__ sl_Led___init__ t1_aL t2_aL sl_Chess___init__ t1_aX t2_aX sl_N sl_C : Array (Option Value)}
    {vs_aL vs_aX its_C its_N : Array Value} {n_C n_N : Nat} {fil_aL fil_aX : Str} {cdr_aL cdr_aX : ClassData} {tf_aL tf_aX t1 t2 t3 t4 k0 k1 k2 k3 k4 k5 k6 k7 k8 k9 : Tok}
    (a_is_integer : PySem.W.nsIn K mainGlobals "is_integer" = some (some (.ref f_is_integer)))
    (l_is_integer : K.lookup f_is_integer = some ⟨oc_is_integer, od_is_integer, .func (PySem.W.fnOf "is_integer" "is_integer" (defArgs s_is_integer) (defBody s_is_integer) (defScope s_is_integer) .none kV_is_integer doc_is_integer pm_is_integer an_is_integer cd_is_integer ct_is_integer), sl_is_integer⟩)
    (c_is_integer : PySem.W.codeIn K cd_is_integer "is_integer" = true)
    (k_is_integer : PySem.W.keepIn K (.ref f_is_integer) = true)
    (a_is_within : PySem.W.nsIn K mainGlobals "is_within" = some (some (.ref f_is_within)))
    (l_is_within : K.lookup f_is_within = some ⟨oc_is_within, od_is_within, .func (PySem.W.fnOf "is_within" "is_within" (defArgs s_is_within) (defBody s_is_within) (defScope s_is_within) .none kV_is_within doc_is_within pm_is_within an_is_within cd_is_within ct_is_within), sl_is_within⟩)
    (c_is_within : PySem.W.codeIn K cd_is_within "is_within" = true)
    (k_is_within : PySem.W.keepIn K (.ref f_is_within) = true)
    (a_is_clock : PySem.W.nsIn K mainGlobals "is_clock" = some (some (.ref f_is_clock)))
    (l_is_clock : K.lookup f_is_clock = some ⟨oc_is_clock, od_is_clock, .func (PySem.W.fnOf "is_clock" "is_clock" (defArgs s_is_clock) (defBody s_is_clock) (defScope s_is_clock) .none kV_is_clock doc_is_clock pm_is_clock an_is_clock cd_is_clock ct_is_clock), sl_is_clock⟩)
    (c_is_clock : PySem.W.codeIn K cd_is_clock "is_clock" = true)
    (k_is_clock : PySem.W.keepIn K (.ref f_is_clock) = true)
    (a_is_row : PySem.W.nsIn K mainGlobals "is_row" = some (some (.ref f_is_row)))
    (l_is_row : K.lookup f_is_row = some ⟨oc_is_row, od_is_row, .func (PySem.W.fnOf "is_row" "is_row" (defArgs s_is_row) (defBody s_is_row) (defScope s_is_row) .none kV_is_row doc_is_row pm_is_row an_is_row cd_is_row ct_is_row), sl_is_row⟩)
    (c_is_row : PySem.W.codeIn K cd_is_row "is_row" = true)
    (k_is_row : PySem.W.keepIn K (.ref f_is_row) = true)
    (a_need_clock : PySem.W.nsIn K mainGlobals "need_clock" = some (some (.ref f_need_clock)))
    (l_need_clock : K.lookup f_need_clock = some ⟨oc_need_clock, od_need_clock, .func (PySem.W.fnOf "need_clock" "need_clock" (defArgs s_need_clock) (defBody s_need_clock) (defScope s_need_clock) .none kV_need_clock doc_need_clock pm_need_clock an_need_clock cd_need_clock ct_need_clock), sl_need_clock⟩)
    (c_need_clock : PySem.W.codeIn K cd_need_clock "need_clock" = true)
    (k_need_clock : PySem.W.keepIn K (.ref f_need_clock) = true)
    (a_need_row : PySem.W.nsIn K mainGlobals "need_row" = some (some (.ref f_need_row)))
    (l_need_row : K.lookup f_need_row = some ⟨oc_need_row, od_need_row, .func (PySem.W.fnOf "need_row" "need_row" (defArgs s_need_row) (defBody s_need_row) (defScope s_need_row) .none kV_need_row doc_need_row pm_need_row an_need_row cd_need_row ct_need_row), sl_need_row⟩)
    (c_need_row : PySem.W.codeIn K cd_need_row "need_row" = true)
    (k_need_row : PySem.W.keepIn K (.ref f_need_row) = true)
    (a_need_sized : PySem.W.nsIn K mainGlobals "need_sized" = some (some (.ref f_need_sized)))
    (l_need_sized : K.lookup f_need_sized = some ⟨oc_need_sized, od_need_sized, .func (PySem.W.fnOf "need_sized" "need_sized" (defArgs s_need_sized) (defBody s_need_sized) (defScope s_need_sized) (.ref aN) kV_need_sized doc_need_sized pm_need_sized an_need_sized cd_need_sized ct_need_sized), sl_need_sized⟩)
    (c_need_sized : PySem.W.codeIn K cd_need_sized "need_sized" = true)
    (k_need_sized : PySem.W.keepIn K (.ref f_need_sized) = true)
    (a_need_ring : PySem.W.nsIn K mainGlobals "need_ring" = some (some (.ref f_need_ring)))
    (l_need_ring : K.lookup f_need_ring = some ⟨oc_need_ring, od_need_ring, .func (PySem.W.fnOf "need_ring" "need_ring" (defArgs s_need_ring) (defBody s_need_ring) (defScope s_need_ring) .none kV_need_ring doc_need_ring pm_need_ring an_need_ring cd_need_ring ct_need_ring), sl_need_ring⟩)
    (c_need_ring : PySem.W.codeIn K cd_need_ring "need_ring" = true)
    (k_need_ring : PySem.W.keepIn K (.ref f_need_ring) = true)
    (a_are_alike : PySem.W.nsIn K mainGlobals "are_alike" = some (some (.ref f_are_alike)))
    (l_are_alike : K.lookup f_are_alike = some ⟨oc_are_alike, od_are_alike, .func (PySem.W.fnOf "are_alike" "are_alike" (defArgs s_are_alike) (defBody s_are_alike) (defScope s_are_alike) .none kV_are_alike doc_are_alike pm_are_alike an_are_alike cd_are_alike ct_are_alike), sl_are_alike⟩)
    (c_are_alike : PySem.W.codeIn K cd_are_alike "are_alike" = true)
    (k_are_alike : PySem.W.keepIn K (.ref f_are_alike) = true)
    (a_is_one_off : PySem.W.nsIn K mainGlobals "is_one_off" = some (some (.ref f_is_one_off)))
    (l_is_one_off : K.lookup f_is_one_off = some ⟨oc_is_one_off, od_is_one_off, .func (PySem.W.fnOf "is_one_off" "is_one_off" (defArgs s_is_one_off) (defBody s_is_one_off) (defScope s_is_one_off) .none kV_is_one_off doc_is_one_off pm_is_one_off an_is_one_off cd_is_one_off ct_is_one_off), sl_is_one_off⟩)
    (c_is_one_off : PySem.W.codeIn K cd_is_one_off "is_one_off" = true)
    (k_is_one_off : PySem.W.keepIn K (.ref f_is_one_off) = true)
    (a_is_chess_in : PySem.W.nsIn K mainGlobals "is_chess_in" = some (some (.ref f_is_chess_in)))
    (l_is_chess_in : K.lookup f_is_chess_in = some ⟨oc_is_chess_in, od_is_chess_in, .func (PySem.W.fnOf "is_chess_in" "is_chess_in" (defArgs s_is_chess_in) (defBody s_is_chess_in) (defScope s_is_chess_in) .none kV_is_chess_in doc_is_chess_in pm_is_chess_in an_is_chess_in cd_is_chess_in ct_is_chess_in), sl_is_chess_in⟩)
    (c_is_chess_in : PySem.W.codeIn K cd_is_chess_in "is_chess_in" = true)
    (k_is_chess_in : PySem.W.keepIn K (.ref f_is_chess_in) = true)
    (a_is_near : PySem.W.nsIn K mainGlobals "is_near" = some (some (.ref f_is_near)))
    (l_is_near : K.lookup f_is_near = some ⟨oc_is_near, od_is_near, .func (PySem.W.fnOf "is_near" "is_near" (defArgs s_is_near) (defBody s_is_near) (defScope s_is_near) .none kV_is_near doc_is_near pm_is_near an_is_near cd_is_near ct_is_near), sl_is_near⟩)
    (c_is_near : PySem.W.codeIn K cd_is_near "is_near" = true)
    (k_is_near : PySem.W.keepIn K (.ref f_is_near) = true)
    (a_may_in : PySem.W.nsIn K mainGlobals "may_in" = some (some (.ref f_may_in)))
    (l_may_in : K.lookup f_may_in = some ⟨oc_may_in, od_may_in, .func (PySem.W.fnOf "may_in" "may_in" (defArgs s_may_in) (defBody s_may_in) (defScope s_may_in) .none kV_may_in doc_may_in pm_may_in an_may_in cd_may_in ct_may_in), sl_may_in⟩)
    (c_may_in : PySem.W.codeIn K cd_may_in "may_in" = true)
    (k_may_in : PySem.W.keepIn K (.ref f_may_in) = true)
    (a_with_number : PySem.W.nsIn K mainGlobals "with_number" = some (some (.ref f_with_number)))
    (l_with_number : K.lookup f_with_number = some ⟨oc_with_number, od_with_number, .func (PySem.W.fnOf "with_number" "with_number" (defArgs s_with_number) (defBody s_with_number) (defScope s_with_number) .none kV_with_number doc_with_number pm_with_number an_with_number cd_with_number ct_with_number), sl_with_number⟩)
    (c_with_number : PySem.W.codeIn K cd_with_number "with_number" = true)
    (k_with_number : PySem.W.keepIn K (.ref f_with_number) = true)
    (a_need_few : PySem.W.nsIn K mainGlobals "need_few" = some (some (.ref f_need_few)))
    (l_need_few : K.lookup f_need_few = some ⟨oc_need_few, od_need_few, .func (PySem.W.fnOf "need_few" "need_few" (defArgs s_need_few) (defBody s_need_few) (defScope s_need_few) .none kV_need_few doc_need_few pm_need_few an_need_few cd_need_few ct_need_few), sl_need_few⟩)
    (c_need_few : PySem.W.codeIn K cd_need_few "need_few" = true)
    (k_need_few : PySem.W.keepIn K (.ref f_need_few) = true)
    (a_is_pair : PySem.W.nsIn K mainGlobals "is_pair" = some (some (.ref f_is_pair)))
    (l_is_pair : K.lookup f_is_pair = some ⟨oc_is_pair, od_is_pair, .func (PySem.W.fnOf "is_pair" "is_pair" (defArgs s_is_pair) (defBody s_is_pair) (defScope s_is_pair) .none kV_is_pair doc_is_pair pm_is_pair an_is_pair cd_is_pair ct_is_pair), sl_is_pair⟩)
    (c_is_pair : PySem.W.codeIn K cd_is_pair "is_pair" = true)
    (k_is_pair : PySem.W.keepIn K (.ref f_is_pair) = true)
    (a_row_behind : PySem.W.nsIn K mainGlobals "row_behind" = some (some (.ref f_row_behind)))
    (l_row_behind : K.lookup f_row_behind = some ⟨oc_row_behind, od_row_behind, .func (PySem.W.fnOf "row_behind" "row_behind" (defArgs s_row_behind) (defBody s_row_behind) (defScope s_row_behind) .none kV_row_behind doc_row_behind pm_row_behind an_row_behind cd_row_behind ct_row_behind), sl_row_behind⟩)
    (c_row_behind : PySem.W.codeIn K cd_row_behind "row_behind" = true)
    (k_row_behind : PySem.W.keepIn K (.ref f_row_behind) = true)
    (a_rows_next : PySem.W.nsIn K mainGlobals "rows_next" = some (some (.ref f_rows_next)))
    (l_rows_next : K.lookup f_rows_next = some ⟨oc_rows_next, od_rows_next, .func (PySem.W.fnOf "rows_next" "rows_next" (defArgs s_rows_next) (defBody s_rows_next) (defScope s_rows_next) .none kV_rows_next doc_rows_next pm_rows_next an_rows_next cd_rows_next ct_rows_next), sl_rows_next⟩)
    (c_rows_next : PySem.W.codeIn K cd_rows_next "rows_next" = true)
    (k_rows_next : PySem.W.keepIn K (.ref f_rows_next) = true)
    (a_fewest_from : PySem.W.nsIn K mainGlobals "fewest_from" = some (some (.ref f_fewest_from)))
    (l_fewest_from : K.lookup f_fewest_from = some ⟨oc_fewest_from, od_fewest_from, .func (PySem.W.fnOf "fewest_from" "fewest_from" (defArgs s_fewest_from) (defBody s_fewest_from) (defScope s_fewest_from) .none kV_fewest_from doc_fewest_from pm_fewest_from an_fewest_from cd_fewest_from ct_fewest_from), sl_fewest_from⟩)
    (c_fewest_from : PySem.W.codeIn K cd_fewest_from "fewest_from" = true)
    (k_fewest_from : PySem.W.keepIn K (.ref f_fewest_from) = true)
    (a__law_is_chess : PySem.W.nsIn K mainGlobals "_law_is_chess" = some (some (.ref f__law_is_chess)))
    (l__law_is_chess : K.lookup f__law_is_chess = some ⟨oc__law_is_chess, od__law_is_chess, .func (PySem.W.fnOf "_law_is_chess" "_law_is_chess" (defArgs s__law_is_chess) (defBody s__law_is_chess) (defScope s__law_is_chess) .none kV__law_is_chess doc__law_is_chess pm__law_is_chess an__law_is_chess cd__law_is_chess ct__law_is_chess), sl__law_is_chess⟩)
    (c__law_is_chess : PySem.W.codeIn K cd__law_is_chess "_law_is_chess" = true)
    (k__law_is_chess : PySem.W.keepIn K (.ref f__law_is_chess) = true)
    (a__law_strange : PySem.W.nsIn K mainGlobals "_law_strange" = some (some (.ref f__law_strange)))
    (l__law_strange : K.lookup f__law_strange = some ⟨oc__law_strange, od__law_strange, .func (PySem.W.fnOf "_law_strange" "_law_strange" (defArgs s__law_strange) (defBody s__law_strange) (defScope s__law_strange) .none kV__law_strange doc__law_strange pm__law_strange an__law_strange cd__law_strange ct__law_strange), sl__law_strange⟩)
    (c__law_strange : PySem.W.codeIn K cd__law_strange "_law_strange" = true)
    (k__law_strange : PySem.W.keepIn K (.ref f__law_strange) = true)
    (a__law_next : PySem.W.nsIn K mainGlobals "_law_next" = some (some (.ref f__law_next)))
    (l__law_next : K.lookup f__law_next = some ⟨oc__law_next, od__law_next, .func (PySem.W.fnOf "_law_next" "_law_next" (defArgs s__law_next) (defBody s__law_next) (defScope s__law_next) .none kV__law_next doc__law_next pm__law_next an__law_next cd__law_next ct__law_next), sl__law_next⟩)
    (c__law_next : PySem.W.codeIn K cd__law_next "_law_next" = true)
    (k__law_next : PySem.W.keepIn K (.ref f__law_next) = true)
    (a__law_played : PySem.W.nsIn K mainGlobals "_law_played" = some (some (.ref f__law_played)))
    (l__law_played : K.lookup f__law_played = some ⟨oc__law_played, od__law_played, .func (PySem.W.fnOf "_law_played" "_law_played" (defArgs s__law_played) (defBody s__law_played) (defScope s__law_played) .none kV__law_played doc__law_played pm__law_played an__law_played cd__law_played ct__law_played), sl__law_played⟩)
    (c__law_played : PySem.W.codeIn K cd__law_played "_law_played" = true)
    (k__law_played : PySem.W.keepIn K (.ref f__law_played) = true)
    (a__law_crossed : PySem.W.nsIn K mainGlobals "_law_crossed" = some (some (.ref f__law_crossed)))
    (l__law_crossed : K.lookup f__law_crossed = some ⟨oc__law_crossed, od__law_crossed, .func (PySem.W.fnOf "_law_crossed" "_law_crossed" (defArgs s__law_crossed) (defBody s__law_crossed) (defScope s__law_crossed) .none kV__law_crossed doc__law_crossed pm__law_crossed an__law_crossed cd__law_crossed ct__law_crossed), sl__law_crossed⟩)
    (c__law_crossed : PySem.W.codeIn K cd__law_crossed "_law_crossed" = true)
    (k__law_crossed : PySem.W.keepIn K (.ref f__law_crossed) = true)
    (a__law_least : PySem.W.nsIn K mainGlobals "_law_least" = some (some (.ref f__law_least)))
    (l__law_least : K.lookup f__law_least = some ⟨oc__law_least, od__law_least, .func (PySem.W.fnOf "_law_least" "_law_least" (defArgs s__law_least) (defBody s__law_least) (defScope s__law_least) .none kV__law_least doc__law_least pm__law_least an__law_least cd__law_least ct__law_least), sl__law_least⟩)
    (c__law_least : PySem.W.codeIn K cd__law_least "_law_least" = true)
    (k__law_least : PySem.W.keepIn K (.ref f__law_least) = true)
    (a__law_solved : PySem.W.nsIn K mainGlobals "_law_solved" = some (some (.ref f__law_solved)))
    (l__law_solved : K.lookup f__law_solved = some ⟨oc__law_solved, od__law_solved, .func (PySem.W.fnOf "_law_solved" "_law_solved" (defArgs s__law_solved) (defBody s__law_solved) (defScope s__law_solved) .none kV__law_solved doc__law_solved pm__law_solved an__law_solved cd__law_solved ct__law_solved), sl__law_solved⟩)
    (c__law_solved : PySem.W.codeIn K cd__law_solved "_law_solved" = true)
    (k__law_solved : PySem.W.keepIn K (.ref f__law_solved) = true)
    (a__law_forms : PySem.W.nsIn K mainGlobals "_law_forms" = some (some (.ref f__law_forms)))
    (l__law_forms : K.lookup f__law_forms = some ⟨oc__law_forms, od__law_forms, .func (PySem.W.fnOf "_law_forms" "_law_forms" (defArgs s__law_forms) (defBody s__law_forms) (defScope s__law_forms) .none kV__law_forms doc__law_forms pm__law_forms an__law_forms cd__law_forms ct__law_forms), sl__law_forms⟩)
    (c__law_forms : PySem.W.codeIn K cd__law_forms "_law_forms" = true)
    (k__law_forms : PySem.W.keepIn K (.ref f__law_forms) = true)
    (a__law_through : PySem.W.nsIn K mainGlobals "_law_through" = some (some (.ref f__law_through)))
    (l__law_through : K.lookup f__law_through = some ⟨oc__law_through, od__law_through, .func (PySem.W.fnOf "_law_through" "_law_through" (defArgs s__law_through) (defBody s__law_through) (defScope s__law_through) .none kV__law_through doc__law_through pm__law_through an__law_through cd__law_through ct__law_through), sl__law_through⟩)
    (c__law_through : PySem.W.codeIn K cd__law_through "_law_through" = true)
    (k__law_through : PySem.W.keepIn K (.ref f__law_through) = true)
    (a__law_draughts : PySem.W.nsIn K mainGlobals "_law_draughts" = some (some (.ref f__law_draughts)))
    (l__law_draughts : K.lookup f__law_draughts = some ⟨oc__law_draughts, od__law_draughts, .func (PySem.W.fnOf "_law_draughts" "_law_draughts" (defArgs s__law_draughts) (defBody s__law_draughts) (defScope s__law_draughts) .none kV__law_draughts doc__law_draughts pm__law_draughts an__law_draughts cd__law_draughts ct__law_draughts), sl__law_draughts⟩)
    (c__law_draughts : PySem.W.codeIn K cd__law_draughts "_law_draughts" = true)
    (k__law_draughts : PySem.W.keepIn K (.ref f__law_draughts) = true)
    (a__law_man : PySem.W.nsIn K mainGlobals "_law_man" = some (some (.ref f__law_man)))
    (l__law_man : K.lookup f__law_man = some ⟨oc__law_man, od__law_man, .func (PySem.W.fnOf "_law_man" "_law_man" (defArgs s__law_man) (defBody s__law_man) (defScope s__law_man) .none kV__law_man doc__law_man pm__law_man an__law_man cd__law_man ct__law_man), sl__law_man⟩)
    (c__law_man : PySem.W.codeIn K cd__law_man "_law_man" = true)
    (k__law_man : PySem.W.keepIn K (.ref f__law_man) = true)
    (a__law_pick : PySem.W.nsIn K mainGlobals "_law_pick" = some (some (.ref f__law_pick)))
    (l__law_pick : K.lookup f__law_pick = some ⟨oc__law_pick, od__law_pick, .func (PySem.W.fnOf "_law_pick" "_law_pick" (defArgs s__law_pick) (defBody s__law_pick) (defScope s__law_pick) .none kV__law_pick doc__law_pick pm__law_pick an__law_pick cd__law_pick ct__law_pick), sl__law_pick⟩)
    (c__law_pick : PySem.W.codeIn K cd__law_pick "_law_pick" = true)
    (k__law_pick : PySem.W.keepIn K (.ref f__law_pick) = true)
    (a__law_deed : PySem.W.nsIn K mainGlobals "_law_deed" = some (some (.ref f__law_deed)))
    (l__law_deed : K.lookup f__law_deed = some ⟨oc__law_deed, od__law_deed, .func (PySem.W.fnOf "_law_deed" "_law_deed" (defArgs s__law_deed) (defBody s__law_deed) (defScope s__law_deed) .none kV__law_deed doc__law_deed pm__law_deed an__law_deed cd__law_deed ct__law_deed), sl__law_deed⟩)
    (c__law_deed : PySem.W.codeIn K cd__law_deed "_law_deed" = true)
    (k__law_deed : PySem.W.keepIn K (.ref f__law_deed) = true)
    (a__law_deeds : PySem.W.nsIn K mainGlobals "_law_deeds" = some (some (.ref f__law_deeds)))
    (l__law_deeds : K.lookup f__law_deeds = some ⟨oc__law_deeds, od__law_deeds, .func (PySem.W.fnOf "_law_deeds" "_law_deeds" (defArgs s__law_deeds) (defBody s__law_deeds) (defScope s__law_deeds) .none kV__law_deeds doc__law_deeds pm__law_deeds an__law_deeds cd__law_deeds ct__law_deeds), sl__law_deeds⟩)
    (c__law_deeds : PySem.W.codeIn K cd__law_deeds "_law_deeds" = true)
    (k__law_deeds : PySem.W.keepIn K (.ref f__law_deeds) = true)
    (a__law_fewest : PySem.W.nsIn K mainGlobals "_law_fewest" = some (some (.ref f__law_fewest)))
    (l__law_fewest : K.lookup f__law_fewest = some ⟨oc__law_fewest, od__law_fewest, .func (PySem.W.fnOf "_law_fewest" "_law_fewest" (defArgs s__law_fewest) (defBody s__law_fewest) (defScope s__law_fewest) .none kV__law_fewest doc__law_fewest pm__law_fewest an__law_fewest cd__law_fewest ct__law_fewest), sl__law_fewest⟩)
    (c__law_fewest : PySem.W.codeIn K cd__law_fewest "_law_fewest" = true)
    (k__law_fewest : PySem.W.keepIn K (.ref f__law_fewest) = true)
    (a_fewest_sets : PySem.W.nsIn K mainGlobals "fewest_sets" = some (some (.ref f_fewest_sets)))
    (l_fewest_sets : K.lookup f_fewest_sets = some ⟨oc_fewest_sets, od_fewest_sets, .func (PySem.W.fnOf "fewest_sets" "fewest_sets" (defArgs s_fewest_sets) (defBody s_fewest_sets) (defScope s_fewest_sets) .none kV_fewest_sets doc_fewest_sets pm_fewest_sets an_fewest_sets cd_fewest_sets ct_fewest_sets), sl_fewest_sets⟩)
    (c_fewest_sets : PySem.W.codeIn K cd_fewest_sets "fewest_sets" = true)
    (k_fewest_sets : PySem.W.keepIn K (.ref f_fewest_sets) = true)
    (a_fixed : PySem.W.nsIn K mainGlobals "fixed" = some (some (.ref f_fixed)))
    (l_fixed : K.lookup f_fixed = some ⟨oc_fixed, od_fixed, .func (PySem.W.fnOf "fixed" "fixed" (defArgs s_fixed) (defBody s_fixed) (defScope s_fixed) .none kV_fixed doc_fixed pm_fixed an_fixed cd_fixed ct_fixed), sl_fixed⟩)
    (c_fixed : PySem.W.codeIn K cd_fixed "fixed" = true)
    (k_fixed : PySem.W.keepIn K (.ref f_fixed) = true)
    (a_game_in : PySem.W.nsIn K mainGlobals "game_in" = some (some (.ref f_game_in)))
    (l_game_in : K.lookup f_game_in = some ⟨oc_game_in, od_game_in, .func (PySem.W.fnOf "game_in" "game_in" (defArgs s_game_in) (defBody s_game_in) (defScope s_game_in) .none kV_game_in doc_game_in pm_game_in an_game_in cd_game_in ct_game_in), sl_game_in⟩)
    (c_game_in : PySem.W.codeIn K cd_game_in "game_in" = true)
    (k_game_in : PySem.W.keepIn K (.ref f_game_in) = true)
    (a_judged_ring : PySem.W.nsIn K mainGlobals "judged_ring" = some (some (.ref f_judged_ring)))
    (l_judged_ring : K.lookup f_judged_ring = some ⟨oc_judged_ring, od_judged_ring, .func (PySem.W.fnOf "judged_ring" "judged_ring" (defArgs s_judged_ring) (defBody s_judged_ring) (defScope s_judged_ring) .none kV_judged_ring doc_judged_ring pm_judged_ring an_judged_ring cd_judged_ring ct_judged_ring), sl_judged_ring⟩)
    (c_judged_ring : PySem.W.codeIn K cd_judged_ring "judged_ring" = true)
    (k_judged_ring : PySem.W.keepIn K (.ref f_judged_ring) = true)
    (a_shows_ring : PySem.W.nsIn K mainGlobals "shows_ring" = some (some (.ref f_shows_ring)))
    (l_shows_ring : K.lookup f_shows_ring = some ⟨oc_shows_ring, od_shows_ring, .func (PySem.W.fnOf "shows_ring" "shows_ring" (defArgs s_shows_ring) (defBody s_shows_ring) (defScope s_shows_ring) .none kV_shows_ring doc_shows_ring pm_shows_ring an_shows_ring cd_shows_ring ct_shows_ring), sl_shows_ring⟩)
    (c_shows_ring : PySem.W.codeIn K cd_shows_ring "shows_ring" = true)
    (k_shows_ring : PySem.W.keepIn K (.ref f_shows_ring) = true)
    (a_law : PySem.W.nsIn K mainGlobals "law" = some (some (.ref f_law)))
    (l_law : K.lookup f_law = some ⟨oc_law, od_law, .func (PySem.W.fnOf "law" "law" (defArgs s_law) (defBody s_law) (defScope s_law) .none kV_law doc_law pm_law an_law cd_law ct_law), sl_law⟩)
    (c_law : PySem.W.codeIn K cd_law "law" = true)
    (k_law : PySem.W.keepIn K (.ref f_law) = true)
    (n_aG : PySem.W.nsIn K mainGlobals "Game" = some (some (.ref aG)))
    (mk_aG : PySem.W.makesIn K aG = true)
    (kp_aG : PySem.W.keepIn K (.ref aG) = true)
    (pg_aG : PySem.W.plainGet K aG Str.empty = true)
    (hd_aG : PySem.W.hasDictIn K aG = true)
    (po_aG : PySem.W.plainOver K aG = true)
    (sa_aG : PySem.W.findIn K (.ref aG) "__setattr__" = some (some (.builtin "object.__setattr__")))
    (n_aL : PySem.W.nsIn K mainGlobals "Led" = some (some (.ref aL)))
    (mk_aL : PySem.W.makesIn K aL = true)
    (kp_aL : PySem.W.keepIn K (.ref aL) = true)
    (pg_aL : PySem.W.plainGet K aL Str.empty = true)
    (hd_aL : PySem.W.hasDictIn K aL = true)
    (po_aL : PySem.W.plainOver K aL = true)
    (sa_aL : PySem.W.findIn K (.ref aL) "__setattr__" = some (some (.builtin "object.__setattr__")))
    (n_aX : PySem.W.nsIn K mainGlobals "Chess" = some (some (.ref aX)))
    (mk_aX : PySem.W.makesIn K aX = true)
    (kp_aX : PySem.W.keepIn K (.ref aX) = true)
    (pg_aX : PySem.W.plainGet K aX Str.empty = true)
    (hd_aX : PySem.W.hasDictIn K aX = true)
    (po_aX : PySem.W.plainOver K aX = true)
    (sa_aX : PySem.W.findIn K (.ref aX) "__setattr__" = some (some (.builtin "object.__setattr__")))
    (a_Game___init__ : PySem.W.findIn K (.ref aG) "__init__" = some (some (.ref f_Game___init__)))
    (i_Game___init__ : PySem.W.isFn K (.ref f_Game___init__) = true)
    (l_Game___init__ : K.lookup f_Game___init__ = some ⟨oc_Game___init__, od_Game___init__, .func (PySem.W.fnOf "__init__" "Game.__init__" (defArgs s_Game___init__) (defBody s_Game___init__) (defScope s_Game___init__) .none kV_Game___init__ doc_Game___init__ pm_Game___init__ an_Game___init__ cd_Game___init__ ct_Game___init__), sl_Game___init__⟩)
    (c_Game___init__ : PySem.W.codeIn K cd_Game___init__ "Game.__init__" = true)
    (k_Game___init__ : PySem.W.keepIn K (.ref f_Game___init__) = true)
    (a_Game_put : PySem.W.findIn K (.ref aG) "put" = some (some (.ref f_Game_put)))
    (i_Game_put : PySem.W.isFn K (.ref f_Game_put) = true)
    (l_Game_put : K.lookup f_Game_put = some ⟨oc_Game_put, od_Game_put, .func (PySem.W.fnOf "put" "Game.put" (defArgs s_Game_put) (defBody s_Game_put) (defScope s_Game_put) .none kV_Game_put doc_Game_put pm_Game_put an_Game_put cd_Game_put ct_Game_put), sl_Game_put⟩)
    (c_Game_put : PySem.W.codeIn K cd_Game_put "Game.put" = true)
    (k_Game_put : PySem.W.keepIn K (.ref f_Game_put) = true)
    (a_Game_part : PySem.W.findIn K (.ref aG) "part" = some (some (.ref f_Game_part)))
    (i_Game_part : PySem.W.isFn K (.ref f_Game_part) = true)
    (l_Game_part : K.lookup f_Game_part = some ⟨oc_Game_part, od_Game_part, .func (PySem.W.fnOf "part" "Game.part" (defArgs s_Game_part) (defBody s_Game_part) (defScope s_Game_part) .none kV_Game_part doc_Game_part pm_Game_part an_Game_part cd_Game_part ct_Game_part), sl_Game_part⟩)
    (c_Game_part : PySem.W.codeIn K cd_Game_part "Game.part" = true)
    (k_Game_part : PySem.W.keepIn K (.ref f_Game_part) = true)
    (a_Game_even_whites : PySem.W.findIn K (.ref aG) "even_whites" = some (some (.ref f_Game_even_whites)))
    (i_Game_even_whites : PySem.W.isFn K (.ref f_Game_even_whites) = true)
    (l_Game_even_whites : K.lookup f_Game_even_whites = some ⟨oc_Game_even_whites, od_Game_even_whites, .func (PySem.W.fnOf "even_whites" "Game.even_whites" (defArgs s_Game_even_whites) (defBody s_Game_even_whites) (defScope s_Game_even_whites) .none kV_Game_even_whites doc_Game_even_whites pm_Game_even_whites an_Game_even_whites cd_Game_even_whites ct_Game_even_whites), sl_Game_even_whites⟩)
    (c_Game_even_whites : PySem.W.codeIn K cd_Game_even_whites "Game.even_whites" = true)
    (k_Game_even_whites : PySem.W.keepIn K (.ref f_Game_even_whites) = true)
    (a_Game_even_blacks : PySem.W.findIn K (.ref aG) "even_blacks" = some (some (.ref f_Game_even_blacks)))
    (i_Game_even_blacks : PySem.W.isFn K (.ref f_Game_even_blacks) = true)
    (l_Game_even_blacks : K.lookup f_Game_even_blacks = some ⟨oc_Game_even_blacks, od_Game_even_blacks, .func (PySem.W.fnOf "even_blacks" "Game.even_blacks" (defArgs s_Game_even_blacks) (defBody s_Game_even_blacks) (defScope s_Game_even_blacks) .none kV_Game_even_blacks doc_Game_even_blacks pm_Game_even_blacks an_Game_even_blacks cd_Game_even_blacks ct_Game_even_blacks), sl_Game_even_blacks⟩)
    (c_Game_even_blacks : PySem.W.codeIn K cd_Game_even_blacks "Game.even_blacks" = true)
    (k_Game_even_blacks : PySem.W.keepIn K (.ref f_Game_even_blacks) = true)
    (na_aG_clock : PySem.W.findIn K (.ref aG) "clock" = some none)
    (na_aG_row : PySem.W.findIn K (.ref aG) "row" = some none)
    (na_aG_sets : PySem.W.findIn K (.ref aG) "sets" = some none)
    (na_aL_word : PySem.W.findIn K (.ref aL) "word" = some none)
    (na_aL_parts : PySem.W.findIn K (.ref aL) "parts" = some none)
    (na_aL_sets : PySem.W.findIn K (.ref aL) "sets" = some none)
    (na_aX_word : PySem.W.findIn K (.ref aX) "word" = some none)
    (na_aX_parts : PySem.W.findIn K (.ref aX) "parts" = some none)
    (n_aP : PySem.W.nsIn K mainGlobals "Paper" = some (some (.ref aP)))
    (a_Paper___init__ : PySem.W.findIn K (.ref aP) "__init__" = some (some (.ref f_Paper___init__)))
    (l_Paper___init__ : K.lookup f_Paper___init__ = some ⟨oc_Paper___init__, od_Paper___init__, .func (PySem.W.fnOf "__init__" "Paper.__init__" (defArgs s_Paper___init__) (defBody s_Paper___init__) (defScope s_Paper___init__) .none kV_Paper___init__ doc_Paper___init__ pm_Paper___init__ an_Paper___init__ cd_Paper___init__ ct_Paper___init__), sl_Paper___init__⟩)
    (c_Paper___init__ : PySem.W.codeIn K cd_Paper___init__ "Paper.__init__" = true)
    (k_Paper___init__ : PySem.W.keepIn K (.ref f_Paper___init__) = true)
    (ty_Paper : PySem.W.typeIn K (.ref f_Paper___init__) = some (.type "function"))
    (fi_Paper : PySem.W.fnIn K f_Paper___init__ = true)
    (a_Paper___bool__ : PySem.W.findIn K (.ref aL) "__bool__" = some (some (.ref f_Paper___bool__)))
    (ty_Paper___bool__ : PySem.W.typeIn K (.ref f_Paper___bool__) = some (.type "function"))
    (l_Paper___bool__ : K.lookup f_Paper___bool__ = some ⟨oc_Paper___bool__, od_Paper___bool__, .func (PySem.W.fnOf "__bool__" "Paper.__bool__" (defArgs s_Paper___bool__) (defBody s_Paper___bool__) (defScope s_Paper___bool__) .none kV_Paper___bool__ doc_Paper___bool__ pm_Paper___bool__ an_Paper___bool__ cd_Paper___bool__ ct_Paper___bool__), sl_Paper___bool__⟩)
    (c_Paper___bool__ : PySem.W.codeIn K cd_Paper___bool__ "Paper.__bool__" = true)
    (k_Paper___bool__ : PySem.W.keepIn K (.ref f_Paper___bool__) = true)
    (a_Denial___bool__ : PySem.W.findIn K (.ref aX) "__bool__" = some (some (.ref f_Denial___bool__)))
    (ty_Denial___bool__ : PySem.W.typeIn K (.ref f_Denial___bool__) = some (.type "function"))
    (l_Denial___bool__ : K.lookup f_Denial___bool__ = some ⟨oc_Denial___bool__, od_Denial___bool__, .func (PySem.W.fnOf "__bool__" "Denial.__bool__" (defArgs s_Denial___bool__) (defBody s_Denial___bool__) (defScope s_Denial___bool__) .none kV_Denial___bool__ doc_Denial___bool__ pm_Denial___bool__ an_Denial___bool__ cd_Denial___bool__ ct_Denial___bool__), sl_Denial___bool__⟩)
    (c_Denial___bool__ : PySem.W.codeIn K cd_Denial___bool__ "Denial.__bool__" = true)
    (k_Denial___bool__ : PySem.W.keepIn K (.ref f_Denial___bool__) = true)
    (a_Led___init__ : PySem.W.findIn K (.ref aL) "__init__" = some (some (.ref f_Led___init__)))
    (i_Led___init__ : PySem.W.isFn K (.ref f_Led___init__) = true)
    (l_Led___init__ : K.lookup f_Led___init__ = some ⟨oc_Led___init__, od_Led___init__, .func (PySem.W.fnX "__init__" "Led.__init__" (defArgs s_Led___init__) (defBody s_Led___init__) (defScope s_Led___init__) [("__class__", cc_Led___init__)] .none kV_Led___init__ doc_Led___init__ pm_Led___init__ an_Led___init__ (.ref cda_Led___init__) ct_Led___init__), sl_Led___init__⟩)
    (c_Led___init__ : PySem.W.codeIn K (.ref cda_Led___init__) "Led.__init__" = true)
    (code_aL : K.lookup cda_Led___init__ = some ⟨cl1_aL, d1_aL, .fields vs_aL, t1_aL⟩)
    (file_aL : vs_aL[2]? = some (.str fil_aL tf_aL))
    (main_aL : ((PySem.Challenge.rw_ropesays_k85_whole_games_told_and_fewest.prog.main.file : Str) == fil_aL) = true)
    (cell_aL : K.lookup cc_Led___init__ = some ⟨cl2_aL, d2_aL, .cell (some (.ref aL)), t2_aL⟩)
    (cls_aL : PySem.W.clsIn K aL = some cdr_aL)
    (sub_aL : PySem.W.mroIn K aL (.ref aL) = some true)
    (sup_aL : ks_superIn K aL aL "__init__" = some (some (.ref f_Paper___init__)))
    (a_Chess___init__ : PySem.W.findIn K (.ref aX) "__init__" = some (some (.ref f_Chess___init__)))
    (i_Chess___init__ : PySem.W.isFn K (.ref f_Chess___init__) = true)
    (l_Chess___init__ : K.lookup f_Chess___init__ = some ⟨oc_Chess___init__, od_Chess___init__, .func (PySem.W.fnX "__init__" "Chess.__init__" (defArgs s_Chess___init__) (defBody s_Chess___init__) (defScope s_Chess___init__) [("__class__", cc_Chess___init__)] .none kV_Chess___init__ doc_Chess___init__ pm_Chess___init__ an_Chess___init__ (.ref cda_Chess___init__) ct_Chess___init__), sl_Chess___init__⟩)
    (c_Chess___init__ : PySem.W.codeIn K (.ref cda_Chess___init__) "Chess.__init__" = true)
    (code_aX : K.lookup cda_Chess___init__ = some ⟨cl1_aX, d1_aX, .fields vs_aX, t1_aX⟩)
    (file_aX : vs_aX[2]? = some (.str fil_aX tf_aX))
    (main_aX : ((PySem.Challenge.rw_ropesays_k85_whole_games_told_and_fewest.prog.main.file : Str) == fil_aX) = true)
    (cell_aX : K.lookup cc_Chess___init__ = some ⟨cl2_aX, d2_aX, .cell (some (.ref aX)), t2_aX⟩)
    (cls_aX : PySem.W.clsIn K aX = some cdr_aX)
    (sub_aX : PySem.W.mroIn K aX (.ref aX) = some true)
    (sup_aX : ks_superIn K aX aX "__init__" = some (some (.ref f_Paper___init__)))
    (z_super : PySem.W.nsIn K mainGlobals "super" = some none)
    (ops : PySem.W.nsIn K cStatics "thirdparty.any" = some none)
    (ha_aL : PySem.W.findIn K (.ref aL) "__class__" = some (some (.builtin "object.__class__")))
    (hn_aL : PySem.W.specialIn K (.builtin "object.__class__") "__get__" = some (some (.builtin "getset_descriptor.__get__")))
    (tk_aL : PySem.W.takesIn K (.builtin "object.__class__") = some true)
    (hm_aL : PySem.W.mroIn K aL (.type "object") = some true)
    (kLX : PySem.W.kitOne K (.ref aL) (.ref aX) = some false)
    (kLL : PySem.W.kitOne K (.ref aL) (.ref aL) = some true)
    (l_N : K.lookup aN = some ⟨oc_N, od_N, .seq its_N n_N, sl_N⟩)
    (v_N : its_N = #[d_N])
    (n_CLOCKS : PySem.W.nsIn K mainGlobals "CLOCKS" = some (some (.ref aC)))
    (l_CLOCKS : K.lookup aC = some ⟨.type "tuple", od_C, .seq its_C n_C, sl_C⟩)
    (v_CLOCKS : its_C.toList = [.int 3 k0, .int 5 k1, .int 7 k2, .int 11 k3, .int 13 k4, .int 17 k5, .int 19 k6, .int 23 k7, .int 29 k8, .int 31 k9])
    (n_LEAST_SIZE : PySem.W.nsIn K mainGlobals "LEAST_SIZE" = some (some (.int 2 t1)))
    (n_MOST_SIZE : PySem.W.nsIn K mainGlobals "MOST_SIZE" = some (some (.int 16 t2)))
    (n_MOST_ROWS : PySem.W.nsIn K mainGlobals "MOST_ROWS" = some (some (.int 2500 t3)))
    (n_MOST_SETS : PySem.W.nsIn K mainGlobals "MOST_SETS" = some (some (.int 1000 t4)))
    (z_len : PySem.W.nsIn K mainGlobals "len" = some none)
    (z_range : PySem.W.nsIn K mainGlobals "range" = some none)
    (z_tuple : PySem.W.nsIn K mainGlobals "tuple" = some none)
    (z_list : PySem.W.nsIn K mainGlobals "list" = some none)
    (z_int : PySem.W.nsIn K mainGlobals "int" = some none)
    (z_bool : PySem.W.nsIn K mainGlobals "bool" = some none)
    (z_abs : PySem.W.nsIn K mainGlobals "abs" = some none)
    (z_max : PySem.W.nsIn K mainGlobals "max" = some none)
    (z_any : PySem.W.nsIn K mainGlobals "any" = some none)
    (z_all : PySem.W.nsIn K mainGlobals "all" = some none)
    (z_zip : PySem.W.nsIn K mainGlobals "zip" = some none)
    (z_enumerate : PySem.W.nsIn K mainGlobals "enumerate" = some none)
    (z_sorted : PySem.W.nsIn K mainGlobals "sorted" = some none)
    (z_isinstance : PySem.W.nsIn K mainGlobals "isinstance" = some none)
    : ∃ fd : FuncData, (∀ (s : Shared) (v : Value), BindsTo s fd ⟨[v], []⟩ [("_law_script", v)]) ∧ ∀ base : Heap, K.In base → base.Ns mainGlobals mg → FnOk PySem.Challenge.rw_ropesays_k85_whole_games_told_and_fewest.prog w K mg base CX0 10 fa fd ["_law_script"] (spM K Pre_law Post_law) := by
  have e := hfa.symm.trans (PySem.W.mg_of X G a_law)
  cases e
  have T : Txt K mg aC t1 t2 t3 t4 := ⟨PySem.W.mg_none_of X G z_len, PySem.W.mg_none_of X G z_range, PySem.W.mg_none_of X G z_tuple, PySem.W.mg_none_of X G z_list, PySem.W.mg_none_of X G z_int, PySem.W.mg_none_of X G z_bool, PySem.W.mg_none_of X G z_abs, PySem.W.mg_none_of X G z_max, PySem.W.mg_none_of X G z_any, PySem.W.mg_none_of X G z_all, PySem.W.mg_none_of X G z_zip, PySem.W.mg_none_of X G z_enumerate, PySem.W.mg_none_of X G z_sorted, PySem.W.mg_none_of X G z_isinstance, ⟨PySem.W.mg_of X G n_CLOCKS, rfl⟩, fun G => .inr ⟨_, its_C, n_C, l_CLOCKS, rfl, rfl, by rw [← Array.length_toList, v_CLOCKS]; show 10 ≤ sizeLine; rw [sizeLine_eq]; omega, by rw [v_CLOCKS]; exact .cons ⟨_, rfl⟩ (.cons ⟨_, rfl⟩ (.cons ⟨_, rfl⟩ (.cons ⟨_, rfl⟩ (.cons ⟨_, rfl⟩ (.cons ⟨_, rfl⟩ (.cons ⟨_, rfl⟩ (.cons ⟨_, rfl⟩ (.cons ⟨_, rfl⟩ (.cons ⟨_, rfl⟩ .nil)))))))))⟩, ⟨PySem.W.mg_of X G n_LEAST_SIZE, ⟨_, rfl⟩⟩, ⟨PySem.W.mg_of X G n_MOST_SIZE, ⟨_, rfl⟩⟩, ⟨PySem.W.mg_of X G n_MOST_ROWS, ⟨_, rfl⟩⟩, ⟨PySem.W.mg_of X G n_MOST_SETS, ⟨_, rfl⟩⟩⟩
  have cl_aG : Cls K aG := ⟨pg_aG, hd_aG, po_aG, sa_aG⟩
  have cl_aL : Cls K aL := ⟨pg_aL, hd_aL, po_aL, sa_aL⟩
  have cl_aX : Cls K aX := ⟨pg_aX, hd_aX, po_aX, sa_aX⟩
  have F_is_integer := fun_mk (st := s_is_integer) l_is_integer c_is_integer k_is_integer
  have b_is_integer := F_is_integer.binds (ps := ["value"]) fun _ _ _ _ _ _ us hl => match us, hl with | [_], _ => rfl
  have F_is_within := fun_mk (st := s_is_within) l_is_within c_is_within k_is_within
  have b_is_within := F_is_within.binds (ps := ["value", "least", "most"]) fun _ _ _ _ _ _ us hl => match us, hl with | [_, _, _], _ => rfl
  have F_is_clock := fun_mk (st := s_is_clock) l_is_clock c_is_clock k_is_clock
  have b_is_clock := F_is_clock.binds (ps := ["value"]) fun _ _ _ _ _ _ us hl => match us, hl with | [_], _ => rfl
  have F_is_row := fun_mk (st := s_is_row) l_is_row c_is_row k_is_row
  have b_is_row := F_is_row.binds (ps := ["value", "clock", "size"]) fun _ _ _ _ _ _ us hl => match us, hl with | [_, _, _], _ => rfl
  have F_need_clock := fun_mk (st := s_need_clock) l_need_clock c_need_clock k_need_clock
  have b_need_clock := F_need_clock.binds (ps := ["value"]) fun _ _ _ _ _ _ us hl => match us, hl with | [_], _ => rfl
  have F_need_row := fun_mk (st := s_need_row) l_need_row c_need_row k_need_row
  have b_need_row := F_need_row.binds (ps := ["value", "clock", "size", "part"]) fun _ _ _ _ _ _ us hl => match us, hl with | [_, _, _, _], _ => rfl
  have F_need_sized := funV_mk (st := s_need_sized) l_need_sized c_need_sized k_need_sized
  have b_need_sized := sized_binds (kV := kV_need_sized) (doc := doc_need_sized) (pm := pm_need_sized) (cdv := cd_need_sized) (ct := ct_need_sized) (an := an_need_sized) (v_N ▸ l_N)
  have F_need_ring := fun_mk (st := s_need_ring) l_need_ring c_need_ring k_need_ring
  have b_need_ring := F_need_ring.binds (ps := ["clock", "row"]) fun _ _ _ _ _ _ us hl => match us, hl with | [_, _], _ => rfl
  have F_are_alike := fun_mk (st := s_are_alike) l_are_alike c_are_alike k_are_alike
  have b_are_alike := F_are_alike.binds (ps := ["numbers"]) fun _ _ _ _ _ _ us hl => match us, hl with | [_], _ => rfl
  have F_is_one_off := fun_mk (st := s_is_one_off) l_is_one_off c_is_one_off k_is_one_off
  have b_is_one_off := F_is_one_off.binds (ps := ["numbers"]) fun _ _ _ _ _ _ us hl => match us, hl with | [_], _ => rfl
  have F_is_chess_in := fun_mk (st := s_is_chess_in) l_is_chess_in c_is_chess_in k_is_chess_in
  have b_is_chess_in := F_is_chess_in.binds (ps := ["row"]) fun _ _ _ _ _ _ us hl => match us, hl with | [_], _ => rfl
  have F_is_near := fun_mk (st := s_is_near) l_is_near c_is_near k_is_near
  have b_is_near := F_is_near.binds (ps := ["row"]) fun _ _ _ _ _ _ us hl => match us, hl with | [_], _ => rfl
  have F_may_in := fun_mk (st := s_may_in) l_may_in c_may_in k_may_in
  have b_may_in := F_may_in.binds (ps := ["row", "gap"]) fun _ _ _ _ _ _ us hl => match us, hl with | [_, _], _ => rfl
  have F_with_number := fun_mk (st := s_with_number) l_with_number c_with_number k_with_number
  have b_with_number := F_with_number.binds (ps := ["row", "gap", "number"]) fun _ _ _ _ _ _ us hl => match us, hl with | [_, _, _], _ => rfl
  have F_need_few := fun_mk (st := s_need_few) l_need_few c_need_few k_need_few
  have b_need_few := F_need_few.binds (ps := ["clock", "size"]) fun _ _ _ _ _ _ us hl => match us, hl with | [_, _], _ => rfl
  have F_is_pair := fun_mk (st := s_is_pair) l_is_pair c_is_pair k_is_pair
  have b_is_pair := F_is_pair.binds (ps := ["value", "clock", "size"]) fun _ _ _ _ _ _ us hl => match us, hl with | [_, _, _], _ => rfl
  have F_row_behind := fun_mk (st := s_row_behind) l_row_behind c_row_behind k_row_behind
  have b_row_behind := F_row_behind.binds (ps := ["clock", "row", "sets"]) fun _ _ _ _ _ _ us hl => match us, hl with | [_, _, _], _ => rfl
  have F_rows_next := fun_mk (st := s_rows_next) l_rows_next c_rows_next k_rows_next
  have b_rows_next := F_rows_next.binds (ps := ["clock", "row"]) fun _ _ _ _ _ _ us hl => match us, hl with | [_, _], _ => rfl
  have F_fewest_from := fun_mk (st := s_fewest_from) l_fewest_from c_fewest_from k_fewest_from
  have b_fewest_from := F_fewest_from.binds (ps := ["clock", "row"]) fun _ _ _ _ _ _ us hl => match us, hl with | [_, _], _ => rfl
  have F__law_is_chess := fun_mk (st := s__law_is_chess) l__law_is_chess c__law_is_chess k__law_is_chess
  have b__law_is_chess := F__law_is_chess.binds (ps := ["_law_row"]) fun _ _ _ _ _ _ us hl => match us, hl with | [_], _ => rfl
  have F__law_strange := fun_mk (st := s__law_strange) l__law_strange c__law_strange k__law_strange
  have b__law_strange := F__law_strange.binds (ps := ["_law_row"]) fun _ _ _ _ _ _ us hl => match us, hl with | [_], _ => rfl
  have F__law_next := fun_mk (st := s__law_next) l__law_next c__law_next k__law_next
  have b__law_next := F__law_next.binds (ps := ["_law_clock", "_law_row"]) fun _ _ _ _ _ _ us hl => match us, hl with | [_, _], _ => rfl
  have F__law_played := fun_mk (st := s__law_played) l__law_played c__law_played k__law_played
  have b__law_played := F__law_played.binds (ps := ["_law_clock", "_law_row", "_law_sets"]) fun _ _ _ _ _ _ us hl => match us, hl with | [_, _, _], _ => rfl
  have F__law_crossed := fun_mk (st := s__law_crossed) l__law_crossed c__law_crossed k__law_crossed
  have b__law_crossed := F__law_crossed.binds (ps := ["_law_clock", "_law_row", "_law_crossings"]) fun _ _ _ _ _ _ us hl => match us, hl with | [_, _, _], _ => rfl
  have F__law_least := fun_mk (st := s__law_least) l__law_least c__law_least k__law_least
  have b__law_least := F__law_least.binds (ps := ["_law_clock", "_law_rows"]) fun _ _ _ _ _ _ us hl => match us, hl with | [_, _], _ => rfl
  have F__law_solved := fun_mk (st := s__law_solved) l__law_solved c__law_solved k__law_solved
  have b__law_solved := F__law_solved.binds (ps := ["_law_clock", "_law_rows", "_law_many"]) fun _ _ _ _ _ _ us hl => match us, hl with | [_, _, _], _ => rfl
  have F__law_forms := fun_mk (st := s__law_forms) l__law_forms c__law_forms k__law_forms
  have b__law_forms := F__law_forms.binds (ps := ["_law_clock", "_law_ends", "_law_deeds_here"]) fun _ _ _ _ _ _ us hl => match us, hl with | [_, _, _], _ => rfl
  have F__law_through := fun_mk (st := s__law_through) l__law_through c__law_through k__law_through
  have b__law_through := F__law_through.binds (ps := ["_law_clock", "_law_ends", "_law_deeds_here"]) fun _ _ _ _ _ _ us hl => match us, hl with | [_, _, _], _ => rfl
  have F__law_draughts := fun_mk (st := s__law_draughts) l__law_draughts c__law_draughts k__law_draughts
  have b__law_draughts := F__law_draughts.binds (ps := ["_law_script"]) fun _ _ _ _ _ _ us hl => match us, hl with | [_], _ => rfl
  have F__law_man := fun_mk (st := s__law_man) l__law_man c__law_man k__law_man
  have b__law_man := F__law_man.binds (ps := ["_law_draughts_here", "_law_many"]) fun _ _ _ _ _ _ us hl => match us, hl with | [_, _], _ => rfl
  have F__law_pick := fun_mk (st := s__law_pick) l__law_pick c__law_pick k__law_pick
  have b__law_pick := F__law_pick.binds (ps := ["_law_draughts_here", "_law_some"]) fun _ _ _ _ _ _ us hl => match us, hl with | [_, _], _ => rfl
  have F__law_deed := fun_mk (st := s__law_deed) l__law_deed c__law_deed k__law_deed
  have b__law_deed := F__law_deed.binds (ps := ["_law_draughts_here", "_law_ends", "_law_most"]) fun _ _ _ _ _ _ us hl => match us, hl with | [_, _, _], _ => rfl
  have F__law_deeds := fun_mk (st := s__law_deeds) l__law_deeds c__law_deeds k__law_deeds
  have b__law_deeds := F__law_deeds.binds (ps := ["_law_draughts_here", "_law_ends", "_law_long", "_law_most"]) fun _ _ _ _ _ _ us hl => match us, hl with | [_, _, _, _], _ => rfl
  have F__law_fewest := fun_mk (st := s__law_fewest) l__law_fewest c__law_fewest k__law_fewest
  have b__law_fewest := F__law_fewest.binds (ps := ["_law_clock", "_law_row"]) fun _ _ _ _ _ _ us hl => match us, hl with | [_, _], _ => rfl
  have F_fewest_sets := fun_mk (st := s_fewest_sets) l_fewest_sets c_fewest_sets k_fewest_sets
  have b_fewest_sets := F_fewest_sets.binds (ps := ["clock", "row"]) fun _ _ _ _ _ _ us hl => match us, hl with | [_, _], _ => rfl
  have F_Game___init__ := fun_mk (st := s_Game___init__) l_Game___init__ c_Game___init__ k_Game___init__
  have b_Game___init__ := F_Game___init__.binds (ps := ["self", "clock", "row"]) fun _ _ _ _ _ _ us hl => match us, hl with | [_, _, _], _ => rfl
  have F_Game_put := fun_mk (st := s_Game_put) l_Game_put c_Game_put k_Game_put
  have b_Game_put := F_Game_put.binds (ps := ["self", "gap", "number"]) fun _ _ _ _ _ _ us hl => match us, hl with | [_, _, _], _ => rfl
  have F_Game_part := fun_mk (st := s_Game_part) l_Game_part c_Game_part k_Game_part
  have b_Game_part := F_Game_part.binds (ps := ["self", "gap", "others"]) fun _ _ _ _ _ _ us hl => match us, hl with | [_, _, _], _ => rfl
  have F_Game_even_whites := fun_mk (st := s_Game_even_whites) l_Game_even_whites c_Game_even_whites k_Game_even_whites
  have b_Game_even_whites := F_Game_even_whites.binds (ps := ["self"]) fun _ _ _ _ _ _ us hl => match us, hl with | [_], _ => rfl
  have F_Game_even_blacks := fun_mk (st := s_Game_even_blacks) l_Game_even_blacks c_Game_even_blacks k_Game_even_blacks
  have b_Game_even_blacks := F_Game_even_blacks.binds (ps := ["self"]) fun _ _ _ _ _ _ us hl => match us, hl with | [_], _ => rfl
  have F_game_in := fun_mk (st := s_game_in) l_game_in c_game_in k_game_in
  have b_game_in := F_game_in.binds (ps := ["clock", "row"]) fun _ _ _ _ _ _ us hl => match us, hl with | [_, _], _ => rfl
  have F_fixed := fun_mk (st := s_fixed) l_fixed c_fixed k_fixed
  have b_fixed := F_fixed.binds (ps := ["value"]) fun _ _ _ _ _ _ us hl => match us, hl with | [_], _ => rfl
  have F_Paper := fun_mk (st := s_Paper___init__) l_Paper___init__ c_Paper___init__ k_Paper___init__
  have F_Led___init__ : FunC K "__init__" "Led.__init__" s_Led___init__ cc_Led___init__ cda_Led___init__ f_Led___init__ _ := ⟨_, _, _, _, _, _, _, _, _, rfl, l_Led___init__, c_Led___init__⟩
  have B_Led___init__ : SupK K PySem.Challenge.rw_ropesays_k85_whole_games_told_and_fewest.prog mg f_Led___init__ cda_Led___init__ cc_Led___init__ aL aL f_Paper___init__ _ := ⟨⟨_, _, _, l_Led___init__⟩, ⟨_, rfl, rfl⟩, ⟨_, _, _, _, _, _, code_aL, file_aL, main_aL⟩, by decide +kernel, ⟨_, _, _, cell_aL⟩, ⟨_, cls_aL⟩, ⟨_, cls_aL⟩, sub_aL, PySem.W.mg_none_of X G z_super, ops, sup_aL, ty_Paper, fi_Paper⟩
  have F_Chess___init__ : FunC K "__init__" "Chess.__init__" s_Chess___init__ cc_Chess___init__ cda_Chess___init__ f_Chess___init__ _ := ⟨_, _, _, _, _, _, _, _, _, rfl, l_Chess___init__, c_Chess___init__⟩
  have B_Chess___init__ : SupK K PySem.Challenge.rw_ropesays_k85_whole_games_told_and_fewest.prog mg f_Chess___init__ cda_Chess___init__ cc_Chess___init__ aX aX f_Paper___init__ _ := ⟨⟨_, _, _, l_Chess___init__⟩, ⟨_, rfl, rfl⟩, ⟨_, _, _, _, _, _, code_aX, file_aX, main_aX⟩, by decide +kernel, ⟨_, _, _, cell_aX⟩, ⟨_, cls_aX⟩, ⟨_, cls_aX⟩, sub_aX, PySem.W.mg_none_of X G z_super, ops, sup_aX, ty_Paper, fi_Paper⟩
  have F_judged_ring := fun_mk (st := s_judged_ring) l_judged_ring c_judged_ring k_judged_ring
  have b_judged_ring := F_judged_ring.binds (ps := ["clock", "row"]) fun _ _ _ _ _ _ us hl => match us, hl with | [_, _], _ => rfl
  have I_L : InsK K aL := ⟨cl_aL, ha_aL, hn_aL, tk_aL, hm_aL⟩
  have F_shows_ring := fun_mk (st := s_shows_ring) l_shows_ring c_shows_ring k_shows_ring
  have b_shows_ring := F_shows_ring.binds (ps := ["clock", "row", "value"]) fun _ _ _ _ _ _ us hl => match us, hl with | [_, _, _], _ => rfl
  have F_Paper___bool__ := fun_mk (st := s_Paper___bool__) l_Paper___bool__ c_Paper___bool__ k_Paper___bool__
  have b_Paper___bool__ := F_Paper___bool__.binds (ps := ["self"]) fun _ _ _ _ _ _ us hl => match us, hl with | [_], _ => rfl
  have F_Denial___bool__ := fun_mk (st := s_Denial___bool__) l_Denial___bool__ c_Denial___bool__ k_Denial___bool__
  have b_Denial___bool__ := F_Denial___bool__.binds (ps := ["self"]) fun _ _ _ _ _ _ us hl => match us, hl with | [_], _ => rfl
  have F_law := fun_mk (st := s_law) l_law c_law k_law
  refine ⟨PySem.W.fnOf "law" "law" (defArgs s_law) (defBody s_law) (defScope s_law) .none kV_law doc_law pm_law an_law cd_law ct_law, fun s v => .of_eq rfl, fun base _ _ => ?_⟩
  have O_is_integer := ok_is_integer (P := PySem.Challenge.rw_ropesays_k85_whole_games_told_and_fewest.prog) (w := w) (base := base) F_is_integer T
  have C_is_integer : Callee PySem.Challenge.rw_ropesays_k85_whole_games_told_and_fewest.prog w K mg base "is_integer" 1 ["value"] (spP K P_is_integer) := ⟨_, _, O_is_integer, PySem.W.mg_of X G a_is_integer, k_is_integer, b_is_integer⟩
  have O_is_within := ok_is_within (P := PySem.Challenge.rw_ropesays_k85_whole_games_told_and_fewest.prog) (w := w) (base := base) F_is_within T C_is_integer
  have C_is_within : Callee PySem.Challenge.rw_ropesays_k85_whole_games_told_and_fewest.prog w K mg base "is_within" 2 ["value", "least", "most"] (spP K P_is_within) := ⟨_, _, O_is_within, PySem.W.mg_of X G a_is_within, k_is_within, b_is_within⟩
  have O_is_clock := ok_is_clock (P := PySem.Challenge.rw_ropesays_k85_whole_games_told_and_fewest.prog) (w := w) (base := base) F_is_clock T C_is_integer
  have C_is_clock : Callee PySem.Challenge.rw_ropesays_k85_whole_games_told_and_fewest.prog w K mg base "is_clock" 2 ["value"] (spP K P_is_clock) := ⟨_, _, O_is_clock, PySem.W.mg_of X G a_is_clock, k_is_clock, b_is_clock⟩
  have O_is_row := ok_is_row (P := PySem.Challenge.rw_ropesays_k85_whole_games_told_and_fewest.prog) (w := w) (base := base) F_is_row T C_is_within
  have C_is_row : Callee PySem.Challenge.rw_ropesays_k85_whole_games_told_and_fewest.prog w K mg base "is_row" 3 ["value", "clock", "size"] (spP K P_is_row) := ⟨_, _, O_is_row, PySem.W.mg_of X G a_is_row, k_is_row, b_is_row⟩
  have O_need_clock := ok_need_clock (P := PySem.Challenge.rw_ropesays_k85_whole_games_told_and_fewest.prog) (w := w) (base := base) F_need_clock T C_is_clock
  have C_need_clock : Callee PySem.Challenge.rw_ropesays_k85_whole_games_told_and_fewest.prog w K mg base "need_clock" 3 ["value"] (spP K P_need_clock) := ⟨_, _, O_need_clock, PySem.W.mg_of X G a_need_clock, k_need_clock, b_need_clock⟩
  have O_need_row := ok_need_row (P := PySem.Challenge.rw_ropesays_k85_whole_games_told_and_fewest.prog) (w := w) (base := base) F_need_row T C_is_row
  have C_need_row : Callee PySem.Challenge.rw_ropesays_k85_whole_games_told_and_fewest.prog w K mg base "need_row" 4 ["value", "clock", "size", "part"] (spP K P_need_row) := ⟨_, _, O_need_row, PySem.W.mg_of X G a_need_row, k_need_row, b_need_row⟩
  have O_need_sized := ok_need_sized (P := PySem.Challenge.rw_ropesays_k85_whole_games_told_and_fewest.prog) (w := w) (base := base) F_need_sized T C_need_row
  have C_need_sized : Callee PySem.Challenge.rw_ropesays_k85_whole_games_told_and_fewest.prog w K mg base "need_sized" 5 ["value", "clock", "part", "least", "most", "step"] (spP K P_need_sized) := ⟨_, _, O_need_sized, PySem.W.mg_of X G a_need_sized, k_need_sized, b_need_sized⟩
  have O_need_ring := ok_need_ring (P := PySem.Challenge.rw_ropesays_k85_whole_games_told_and_fewest.prog) (w := w) (base := base) F_need_ring T C_need_clock C_need_sized
  have C_need_ring : Callee PySem.Challenge.rw_ropesays_k85_whole_games_told_and_fewest.prog w K mg base "need_ring" 6 ["clock", "row"] (spP K P_need_ring) := ⟨_, _, O_need_ring, PySem.W.mg_of X G a_need_ring, k_need_ring, b_need_ring⟩
  have O_are_alike := ok_are_alike (P := PySem.Challenge.rw_ropesays_k85_whole_games_told_and_fewest.prog) (w := w) (base := base) F_are_alike T
  have C_are_alike : Callee PySem.Challenge.rw_ropesays_k85_whole_games_told_and_fewest.prog w K mg base "are_alike" 1 ["numbers"] (spQ K P_are_alike) := ⟨_, _, O_are_alike, PySem.W.mg_of X G a_are_alike, k_are_alike, b_are_alike⟩
  have O_is_one_off := ok_is_one_off (P := PySem.Challenge.rw_ropesays_k85_whole_games_told_and_fewest.prog) (w := w) (base := base) F_is_one_off T C_are_alike
  have C_is_one_off : Callee PySem.Challenge.rw_ropesays_k85_whole_games_told_and_fewest.prog w K mg base "is_one_off" 2 ["numbers"] (spQ K P_is_one_off) := ⟨_, _, O_is_one_off, PySem.W.mg_of X G a_is_one_off, k_is_one_off, b_is_one_off⟩
  have O_is_chess_in := ok_is_chess_in (P := PySem.Challenge.rw_ropesays_k85_whole_games_told_and_fewest.prog) (w := w) (base := base) F_is_chess_in T C_are_alike
  have C_is_chess_in : Callee PySem.Challenge.rw_ropesays_k85_whole_games_told_and_fewest.prog w K mg base "is_chess_in" 2 ["row"] (spP K P_is_chess_in) := ⟨_, _, O_is_chess_in, PySem.W.mg_of X G a_is_chess_in, k_is_chess_in, b_is_chess_in⟩
  have O_is_near := ok_is_near (P := PySem.Challenge.rw_ropesays_k85_whole_games_told_and_fewest.prog) (w := w) (base := base) F_is_near T C_are_alike C_is_one_off
  have C_is_near : Callee PySem.Challenge.rw_ropesays_k85_whole_games_told_and_fewest.prog w K mg base "is_near" 3 ["row"] (spP K P_is_near) := ⟨_, _, O_is_near, PySem.W.mg_of X G a_is_near, k_is_near, b_is_near⟩
  have O_may_in := ok_may_in (P := PySem.Challenge.rw_ropesays_k85_whole_games_told_and_fewest.prog) (w := w) (base := base) F_may_in T
  have C_may_in : Callee PySem.Challenge.rw_ropesays_k85_whole_games_told_and_fewest.prog w K mg base "may_in" 1 ["row", "gap"] (spP K P_may_in) := ⟨_, _, O_may_in, PySem.W.mg_of X G a_may_in, k_may_in, b_may_in⟩
  have O_with_number := ok_with_number (P := PySem.Challenge.rw_ropesays_k85_whole_games_told_and_fewest.prog) (w := w) (base := base) F_with_number T
  have C_with_number : Callee PySem.Challenge.rw_ropesays_k85_whole_games_told_and_fewest.prog w K mg base "with_number" 1 ["row", "gap", "number"] (spP K P_with_number) := ⟨_, _, O_with_number, PySem.W.mg_of X G a_with_number, k_with_number, b_with_number⟩
  have O_need_few := ok_need_few (P := PySem.Challenge.rw_ropesays_k85_whole_games_told_and_fewest.prog) (w := w) (base := base) F_need_few T
  have C_need_few : Callee PySem.Challenge.rw_ropesays_k85_whole_games_told_and_fewest.prog w K mg base "need_few" 1 ["clock", "size"] (spP K P_need_few) := ⟨_, _, O_need_few, PySem.W.mg_of X G a_need_few, k_need_few, b_need_few⟩
  have O_is_pair := ok_is_pair (P := PySem.Challenge.rw_ropesays_k85_whole_games_told_and_fewest.prog) (w := w) (base := base) F_is_pair T C_is_within
  have C_is_pair : Callee PySem.Challenge.rw_ropesays_k85_whole_games_told_and_fewest.prog w K mg base "is_pair" 3 ["value", "clock", "size"] (spP K P_is_pair) := ⟨_, _, O_is_pair, PySem.W.mg_of X G a_is_pair, k_is_pair, b_is_pair⟩
  have O_row_behind := ok_row_behind (P := PySem.Challenge.rw_ropesays_k85_whole_games_told_and_fewest.prog) (w := w) (base := base) F_row_behind T C_is_pair C_may_in C_with_number
  have C_row_behind : Callee PySem.Challenge.rw_ropesays_k85_whole_games_told_and_fewest.prog w K mg base "row_behind" 4 ["clock", "row", "sets"] (spP K P_row_behind) := ⟨_, _, O_row_behind, PySem.W.mg_of X G a_row_behind, k_row_behind, b_row_behind⟩
  have O_rows_next := ok_rows_next (P := PySem.Challenge.rw_ropesays_k85_whole_games_told_and_fewest.prog) (w := w) (base := base) F_rows_next T C_may_in C_with_number
  have C_rows_next : Callee PySem.Challenge.rw_ropesays_k85_whole_games_told_and_fewest.prog w K mg base "rows_next" 2 ["clock", "row"] (spP K P_rows_next) := ⟨_, _, O_rows_next, PySem.W.mg_of X G a_rows_next, k_rows_next, b_rows_next⟩
  have O_fewest_from := ok_fewest_from (P := PySem.Challenge.rw_ropesays_k85_whole_games_told_and_fewest.prog) (w := w) (base := base) F_fewest_from T C_is_near C_rows_next
  have C_fewest_from : Callee PySem.Challenge.rw_ropesays_k85_whole_games_told_and_fewest.prog w K mg base "fewest_from" 4 ["clock", "row"] (spP K P_fewest_from) := ⟨_, _, O_fewest_from, PySem.W.mg_of X G a_fewest_from, k_fewest_from, b_fewest_from⟩
  have O__law_is_chess := ok__law_is_chess (P := PySem.Challenge.rw_ropesays_k85_whole_games_told_and_fewest.prog) (w := w) (base := base) F__law_is_chess T
  have C__law_is_chess : Callee PySem.Challenge.rw_ropesays_k85_whole_games_told_and_fewest.prog w K mg base "_law_is_chess" 1 ["_law_row"] (spP K P__law_is_chess) := ⟨_, _, O__law_is_chess, PySem.W.mg_of X G a__law_is_chess, k__law_is_chess, b__law_is_chess⟩
  have O__law_strange := ok__law_strange (P := PySem.Challenge.rw_ropesays_k85_whole_games_told_and_fewest.prog) (w := w) (base := base) F__law_strange T C__law_is_chess
  have C__law_strange : Callee PySem.Challenge.rw_ropesays_k85_whole_games_told_and_fewest.prog w K mg base "_law_strange" 2 ["_law_row"] (spP K P__law_strange) := ⟨_, _, O__law_strange, PySem.W.mg_of X G a__law_strange, k__law_strange, b__law_strange⟩
  have O__law_next := ok__law_next (P := PySem.Challenge.rw_ropesays_k85_whole_games_told_and_fewest.prog) (w := w) (base := base) F__law_next T
  have C__law_next : Callee PySem.Challenge.rw_ropesays_k85_whole_games_told_and_fewest.prog w K mg base "_law_next" 1 ["_law_clock", "_law_row"] (spP K P__law_next) := ⟨_, _, O__law_next, PySem.W.mg_of X G a__law_next, k__law_next, b__law_next⟩
  have O__law_played := ok__law_played (P := PySem.Challenge.rw_ropesays_k85_whole_games_told_and_fewest.prog) (w := w) (base := base) F__law_played T
  have C__law_played : Callee PySem.Challenge.rw_ropesays_k85_whole_games_told_and_fewest.prog w K mg base "_law_played" 1 ["_law_clock", "_law_row", "_law_sets"] (spP K P__law_played) := ⟨_, _, O__law_played, PySem.W.mg_of X G a__law_played, k__law_played, b__law_played⟩
  have O__law_crossed := ok__law_crossed (P := PySem.Challenge.rw_ropesays_k85_whole_games_told_and_fewest.prog) (w := w) (base := base) F__law_crossed T
  have C__law_crossed : Callee PySem.Challenge.rw_ropesays_k85_whole_games_told_and_fewest.prog w K mg base "_law_crossed" 1 ["_law_clock", "_law_row", "_law_crossings"] (spP K P__law_crossed) := ⟨_, _, O__law_crossed, PySem.W.mg_of X G a__law_crossed, k__law_crossed, b__law_crossed⟩
  have O__law_least := ok__law_least (P := PySem.Challenge.rw_ropesays_k85_whole_games_told_and_fewest.prog) (w := w) (base := base) F__law_least T
  have C__law_least : Callee PySem.Challenge.rw_ropesays_k85_whole_games_told_and_fewest.prog w K mg base "_law_least" 1 ["_law_clock", "_law_rows"] (spP K P__law_least) := ⟨_, _, O__law_least, PySem.W.mg_of X G a__law_least, k__law_least, b__law_least⟩
  have O__law_solved := ok__law_solved (P := PySem.Challenge.rw_ropesays_k85_whole_games_told_and_fewest.prog) (w := w) (base := base) F__law_solved T C__law_least
  have C__law_solved : Callee PySem.Challenge.rw_ropesays_k85_whole_games_told_and_fewest.prog w K mg base "_law_solved" 2 ["_law_clock", "_law_rows", "_law_many"] (spP K P__law_solved) := ⟨_, _, O__law_solved, PySem.W.mg_of X G a__law_solved, k__law_solved, b__law_solved⟩
  have O__law_forms := ok__law_forms (P := PySem.Challenge.rw_ropesays_k85_whole_games_told_and_fewest.prog) (w := w) (base := base) F__law_forms T
  have C__law_forms : Callee PySem.Challenge.rw_ropesays_k85_whole_games_told_and_fewest.prog w K mg base "_law_forms" 1 ["_law_clock", "_law_ends", "_law_deeds_here"] (spP K P__law_forms) := ⟨_, _, O__law_forms, PySem.W.mg_of X G a__law_forms, k__law_forms, b__law_forms⟩
  have O__law_through := ok__law_through (P := PySem.Challenge.rw_ropesays_k85_whole_games_told_and_fewest.prog) (w := w) (base := base) F__law_through T C__law_forms C__law_solved C__law_least
  have C__law_through : Callee PySem.Challenge.rw_ropesays_k85_whole_games_told_and_fewest.prog w K mg base "_law_through" 3 ["_law_clock", "_law_ends", "_law_deeds_here"] (spP K P__law_through) := ⟨_, _, O__law_through, PySem.W.mg_of X G a__law_through, k__law_through, b__law_through⟩
  have O__law_draughts := ok__law_draughts (P := PySem.Challenge.rw_ropesays_k85_whole_games_told_and_fewest.prog) (w := w) (base := base) F__law_draughts T
  have C__law_draughts : Callee PySem.Challenge.rw_ropesays_k85_whole_games_told_and_fewest.prog w K mg base "_law_draughts" 1 ["_law_script"] (spM K Pre__law_draughts Post__law_draughts) := ⟨_, _, O__law_draughts, PySem.W.mg_of X G a__law_draughts, k__law_draughts, b__law_draughts⟩
  have O__law_man := ok__law_man (P := PySem.Challenge.rw_ropesays_k85_whole_games_told_and_fewest.prog) (w := w) (base := base) F__law_man T
  have C__law_man : Callee PySem.Challenge.rw_ropesays_k85_whole_games_told_and_fewest.prog w K mg base "_law_man" 1 ["_law_draughts_here", "_law_many"] (spM K Pre__law_man Post__law_man) := ⟨_, _, O__law_man, PySem.W.mg_of X G a__law_man, k__law_man, b__law_man⟩
  have O__law_pick := ok__law_pick (P := PySem.Challenge.rw_ropesays_k85_whole_games_told_and_fewest.prog) (w := w) (base := base) F__law_pick T C__law_man
  have C__law_pick : Callee PySem.Challenge.rw_ropesays_k85_whole_games_told_and_fewest.prog w K mg base "_law_pick" 2 ["_law_draughts_here", "_law_some"] (spM K Pre__law_pick Post__law_pick) := ⟨_, _, O__law_pick, PySem.W.mg_of X G a__law_pick, k__law_pick, b__law_pick⟩
  have O__law_deed := ok__law_deed (P := PySem.Challenge.rw_ropesays_k85_whole_games_told_and_fewest.prog) (w := w) (base := base) F__law_deed T C__law_man C__law_pick
  have C__law_deed : Callee PySem.Challenge.rw_ropesays_k85_whole_games_told_and_fewest.prog w K mg base "_law_deed" 3 ["_law_draughts_here", "_law_ends", "_law_most"] (spM K Pre__law_deed Post__law_deed) := ⟨_, _, O__law_deed, PySem.W.mg_of X G a__law_deed, k__law_deed, b__law_deed⟩
  have O__law_deeds := ok__law_deeds (P := PySem.Challenge.rw_ropesays_k85_whole_games_told_and_fewest.prog) (w := w) (base := base) F__law_deeds T C__law_man C__law_pick C__law_deed
  have C__law_deeds : Callee PySem.Challenge.rw_ropesays_k85_whole_games_told_and_fewest.prog w K mg base "_law_deeds" 4 ["_law_draughts_here", "_law_ends", "_law_long", "_law_most"] (spM K Pre__law_deeds Post__law_deeds) := ⟨_, _, O__law_deeds, PySem.W.mg_of X G a__law_deeds, k__law_deeds, b__law_deeds⟩
  have O__law_fewest := ok__law_fewest (P := PySem.Challenge.rw_ropesays_k85_whole_games_told_and_fewest.prog) (w := w) (base := base) F__law_fewest T C__law_strange C__law_next
  have C__law_fewest : Callee PySem.Challenge.rw_ropesays_k85_whole_games_told_and_fewest.prog w K mg base "_law_fewest" 3 ["_law_clock", "_law_row"] (spP K P__law_fewest) := ⟨_, _, O__law_fewest, PySem.W.mg_of X G a__law_fewest, k__law_fewest, b__law_fewest⟩
  have O_fewest_sets := ok_fewest_sets (P := PySem.Challenge.rw_ropesays_k85_whole_games_told_and_fewest.prog) (w := w) (base := base) F_fewest_sets T C_need_ring C_need_few C_is_chess_in C_fewest_from
  have C_fewest_sets : Callee PySem.Challenge.rw_ropesays_k85_whole_games_told_and_fewest.prog w K mg base "fewest_sets" 7 ["clock", "row"] (spP K P_fewest_sets) := ⟨_, _, O_fewest_sets, PySem.W.mg_of X G a_fewest_sets, k_fewest_sets, b_fewest_sets⟩
  have O_Game___init__ := ok_Game___init__ (P := PySem.Challenge.rw_ropesays_k85_whole_games_told_and_fewest.prog) (w := w) (base := base) F_Game___init__ T cl_aG na_aG_clock na_aG_row na_aG_sets
  have K_Game : MakeC PySem.Challenge.rw_ropesays_k85_whole_games_told_and_fewest.prog w K mg base "Game" aG 1 ["self", "clock", "row"] (spM K (Pre_Game___init__ aG) (Post_Game___init__ aG)) := ⟨_, _, ⟨mk_aG, a_Game___init__, i_Game___init__, kp_aG⟩, O_Game___init__, PySem.W.mg_of X G n_aG, b_Game___init__⟩
  have O_Game_put := ok_Game_put (P := PySem.Challenge.rw_ropesays_k85_whole_games_told_and_fewest.prog) (w := w) (base := base) F_Game_put T C_with_number cl_aG na_aG_row na_aG_sets
  have M_Game_put : MethC PySem.Challenge.rw_ropesays_k85_whole_games_told_and_fewest.prog w K mg base aG "put" 2 ["self", "gap", "number"] (spM K (Pre_Game_put aG) (Post_Game_put aG)) := ⟨_, _, O_Game_put, ⟨a_Game_put, i_Game_put, k_Game_put⟩, b_Game_put⟩
  have O_Game_part := ok_Game_part (P := PySem.Challenge.rw_ropesays_k85_whole_games_told_and_fewest.prog) (w := w) (base := base) F_Game_part T M_Game_put cl_aG na_aG_clock na_aG_row
  have M_Game_part : MethC PySem.Challenge.rw_ropesays_k85_whole_games_told_and_fewest.prog w K mg base aG "part" 3 ["self", "gap", "others"] (spM K (Pre_Game_part aG) (Post_Game_part aG)) := ⟨_, _, O_Game_part, ⟨a_Game_part, i_Game_part, k_Game_part⟩, b_Game_part⟩
  have O_Game_even_whites := ok_Game_even_whites (P := PySem.Challenge.rw_ropesays_k85_whole_games_told_and_fewest.prog) (w := w) (base := base) F_Game_even_whites T M_Game_put M_Game_part cl_aG na_aG_row
  have M_Game_even_whites : MethC PySem.Challenge.rw_ropesays_k85_whole_games_told_and_fewest.prog w K mg base aG "even_whites" 4 ["self"] (spM K (Pre_Game_even_whites aG) (Post_Game_even_whites aG)) := ⟨_, _, O_Game_even_whites, ⟨a_Game_even_whites, i_Game_even_whites, k_Game_even_whites⟩, b_Game_even_whites⟩
  have O_Game_even_blacks := ok_Game_even_blacks (P := PySem.Challenge.rw_ropesays_k85_whole_games_told_and_fewest.prog) (w := w) (base := base) F_Game_even_blacks T M_Game_put M_Game_part cl_aG na_aG_row
  have M_Game_even_blacks : MethC PySem.Challenge.rw_ropesays_k85_whole_games_told_and_fewest.prog w K mg base aG "even_blacks" 4 ["self"] (spM K (Pre_Game_even_blacks aG) (Post_Game_even_blacks aG)) := ⟨_, _, O_Game_even_blacks, ⟨a_Game_even_blacks, i_Game_even_blacks, k_Game_even_blacks⟩, b_Game_even_blacks⟩
  have O_game_in := ok_game_in (P := PySem.Challenge.rw_ropesays_k85_whole_games_told_and_fewest.prog) (w := w) (base := base) F_game_in T K_Game M_Game_even_whites M_Game_even_blacks cl_aG na_aG_sets
  have C_game_in : Callee PySem.Challenge.rw_ropesays_k85_whole_games_told_and_fewest.prog w K mg base "game_in" 5 ["clock", "row"] (spP K P_game_in) := ⟨_, _, O_game_in, PySem.W.mg_of X G a_game_in, k_game_in, b_game_in⟩
  have C_fixed : Callee PySem.Challenge.rw_ropesays_k85_whole_games_told_and_fewest.prog w K mg base "fixed" 4 ["value"] (spP K (P_fixed 4)) := ⟨_, _, ok_fixed F_fixed T (PySem.W.mg_of X G a_fixed) k_fixed b_fixed 4, PySem.W.mg_of X G a_fixed, k_fixed, b_fixed⟩
  have R_aL := ok_Paper (P := PySem.Challenge.rw_ropesays_k85_whole_games_told_and_fewest.prog) (w := w) (base := base) (C := aL) F_Paper T cl_aL na_aL_word na_aL_parts C_fixed fun us rest hl => paper_binds hl
  have R_aX := ok_Paper (P := PySem.Challenge.rw_ropesays_k85_whole_games_told_and_fewest.prog) (w := w) (base := base) (C := aX) F_Paper T cl_aX na_aX_word na_aX_parts C_fixed fun us rest hl => paper_binds hl
  have O_Led___init__ := ok_Led (P := PySem.Challenge.rw_ropesays_k85_whole_games_told_and_fewest.prog) (w := w) (base := base) F_Led___init__ B_Led___init__ R_aL cl_aL na_aL_parts na_aL_sets
  have K_Led : MakeC PySem.Challenge.rw_ropesays_k85_whole_games_told_and_fewest.prog w K mg base "Led" aL 7 ["self", "sets"] (spM K (Pre_Led aL) (Post_Led aL)) := ⟨_, _, ⟨mk_aL, a_Led___init__, i_Led___init__, kp_aL⟩, O_Led___init__, PySem.W.mg_of X G n_aL, .all fun us hl => match us, hl with | [_, _], _ => rfl⟩
  have O_Chess___init__ := ok_Chess (P := PySem.Challenge.rw_ropesays_k85_whole_games_told_and_fewest.prog) (w := w) (base := base) F_Chess___init__ B_Chess___init__ R_aX
  have K_Chess : MakeC PySem.Challenge.rw_ropesays_k85_whole_games_told_and_fewest.prog w K mg base "Chess" aX 7 ["self"] (spM K (Pre_Chess aX) (Post_Chess aX)) := ⟨_, _, ⟨mk_aX, a_Chess___init__, i_Chess___init__, kp_aX⟩, O_Chess___init__, PySem.W.mg_of X G n_aX, .all fun us hl => match us, hl with | [_], _ => rfl⟩
  have O_judged_ring := ok_judged_ring (P := PySem.Challenge.rw_ropesays_k85_whole_games_told_and_fewest.prog) (w := w) (base := base) F_judged_ring T C_need_ring C_is_chess_in C_game_in K_Led K_Chess
  have C_judged_ring : Callee PySem.Challenge.rw_ropesays_k85_whole_games_told_and_fewest.prog w K mg base "judged_ring" 9 ["clock", "row"] (spM K Pre_judged_ring (Post_judged_ring aL aX)) := ⟨_, _, O_judged_ring, PySem.W.mg_of X G a_judged_ring, k_judged_ring, b_judged_ring⟩
  have O_shows_ring := ok_shows_ring (P := PySem.Challenge.rw_ropesays_k85_whole_games_told_and_fewest.prog) (w := w) (base := base) F_shows_ring T C_need_ring C_is_chess_in C_is_near C_row_behind (PySem.W.mg_of X G n_aX) (PySem.W.mg_of X G n_aL) I_L na_aL_sets kLX kLL
  have C_shows_ring : Callee PySem.Challenge.rw_ropesays_k85_whole_games_told_and_fewest.prog w K mg base "shows_ring" 7 ["clock", "row", "value"] (spM K (Pre_shows_ring aL) (Post_shows_ring aL)) := ⟨_, _, O_shows_ring, PySem.W.mg_of X G a_shows_ring, k_shows_ring, b_shows_ring⟩
  have D_aL : BoolC PySem.Challenge.rw_ropesays_k85_whole_games_told_and_fewest.prog w K mg base aL 1 true := ⟨_, _, a_Paper___bool__, ty_Paper___bool__, ok_Paper_bool F_Paper___bool__, b_Paper___bool__⟩
  have D_aX : BoolC PySem.Challenge.rw_ropesays_k85_whole_games_told_and_fewest.prog w K mg base aX 1 false := ⟨_, _, a_Denial___bool__, ty_Denial___bool__, ok_Denial_bool F_Denial___bool__, b_Denial___bool__⟩
  exact ok_law F_law T C__law_draughts C__law_man C__law_pick C__law_deeds C__law_is_chess C__law_strange C__law_played C__law_crossed C__law_fewest C__law_through C_fewest_sets C_judged_ring C_shows_ring K_Led plain_law cl_aL na_aL_sets D_aL D_aX
theorem law_sp {K : PySem.W.Frag} {H : Hp} {a : Addr} {ns : List Int} (hl : ns.length ≤ 63) (hS : SqL K H a (ns.map V.int)) : spM K Pre_law Post_law [.ref a] H (fun v _ => v = .bl true) fun _ _ _ => False := by
  refine ⟨H, [], [.s ns], [], ⟨.refl H, List.nodup_nil, rfl, fun k a m h => by cases h⟩, .cons ⟨a, rfl, hS⟩ .nil, ⟨rfl, ns, rfl, hl⟩, fun s M' v G' H' as' hp _ _ ha => ?_⟩
  have e : s = .d (.bool true) := hp
  subst e
  obtain ⟨v', e2, h2⟩ := ha
  cases e2
  cases h2
  rfl
end Q
end
set_option Elab.async false
set_option linter.all false
set_option maxRecDepth 100000
open PySem PySem.W PyProof.Rows
set_option maxHeartbeats 0 in
theorem PySem.Challenge.cw_ropesays_k85_whole_games_told_and_fewest_holds : PySem.Challenge.rw_ropesays_k85_whole_games_told_and_fewest.Holds := by
  w_on; o_law; k_head; (case hw => w_witness2)
  k_fill
  refine L2.walk_of (l := PySem.Challenge.rw_ropesays_k85_whole_games_told_and_fewest) (n := 63) (k := 10) (x := "_law_script") (CX := fun _ => L2.CX0) (sp := fun w => Q.spM _ Q.Pre_law Q.Post_law) rfl (by decide) rfl ⟨rfl, by decide, by decide⟩ (fun w h Y => PySem.W.kIn_of Y) ?F (fun w H a ns hl _ hS => Q.law_sp hl hS) (fun _ _ _ _ _ h => h)
  case F =>
    intro w mg fa h KX G hmg
    refine' Q.all_mk KX G hmg ?a_is_integer ?l_is_integer ?c_is_integer ?k_is_integer ?a_is_within ?l_is_within ?c_is_within ?k_is_within ?a_is_clock ?l_is_clock ?c_is_clock ?k_is_clock ?a_is_row ?l_is_row ?c_is_row ?k_is_row ?a_need_clock ?l_need_clock ?c_need_clock ?k_need_clock ?a_need_row ?l_need_row ?c_need_row ?k_need_row ?a_need_sized ?l_need_sized ?c_need_sized ?k_need_sized ?a_need_ring ?l_need_ring ?c_need_ring ?k_need_ring ?a_are_alike ?l_are_alike ?c_are_alike ?k_are_alike ?a_is_one_off ?l_is_one_off ?c_is_one_off ?k_is_one_off ?a_is_chess_in ?l_is_chess_in ?c_is_chess_in ?k_is_chess_in ?a_is_near ?l_is_near ?c_is_near ?k_is_near ?a_may_in ?l_may_in ?c_may_in ?k_may_in ?a_with_number ?l_with_number ?c_with_number ?k_with_number ?a_need_few ?l_need_few ?c_need_few ?k_need_few ?a_is_pair ?l_is_pair ?c_is_pair ?k_is_pair ?a_row_behind ?l_row_behind ?c_row_behind ?k_row_behind ?a_rows_next ?l_rows_next ?c_rows_next ?k_rows_next ?a_fewest_from ?l_fewest_from ?c_fewest_from ?k_fewest_from ?a__law_is_chess ?l__law_is_chess ?c__law_is_chess ?k__law_is_chess ?a__law_strange ?l__law_strange ?c__law_strange ?k__law_strange ?a__law_next ?l__law_next ?c__law_next ?k__law_next ?a__law_played ?l__law_played ?c__law_played ?k__law_played ?a__law_crossed ?l__law_crossed ?c__law_crossed ?k__law_crossed ?a__law_least ?l__law_least ?c__law_least ?k__law_least ?a__law_solved ?l__law_solved ?c__law_solved ?k__law_solved ?a__law_forms ?l__law_forms ?c__law_forms ?k__law_forms ?a__law_through ?l__law_through ?c__law_through ?k__law_through ?a__law_draughts ?l__law_draughts ?c__law_draughts ?k__law_draughts ?a__law_man ?l__law_man ?c__law_man ?k__law_man ?a__law_pick ?l__law_pick ?c__law_pick ?k__law_pick ?a__law_deed ?l__law_deed ?c__law_deed ?k__law_deed ?a__law_deeds ?l__law_deeds ?c__law_deeds ?k__law_deeds ?a__law_fewest ?l__law_fewest ?c__law_fewest ?k__law_fewest ?a_fewest_sets ?l_fewest_sets ?c_fewest_sets ?k_fewest_sets ?a_fixed ?l_fixed ?c_fixed ?k_fixed ?a_game_in ?l_game_in ?c_game_in ?k_game_in ?a_judged_ring ?l_judged_ring ?c_judged_ring ?k_judged_ring ?a_shows_ring ?l_shows_ring ?c_shows_ring ?k_shows_ring ?a_law ?l_law ?c_law ?k_law ?n_aG ?mk_aG ?kp_aG ?pg_aG ?hd_aG ?po_aG ?sa_aG ?n_aL ?mk_aL ?kp_aL ?pg_aL ?hd_aL ?po_aL ?sa_aL ?n_aX ?mk_aX ?kp_aX ?pg_aX ?hd_aX ?po_aX ?sa_aX ?a_Game___init__ ?i_Game___init__ ?l_Game___init__ ?c_Game___init__ ?k_Game___init__ ?a_Game_put ?i_Game_put ?l_Game_put ?c_Game_put ?k_Game_put ?a_Game_part ?i_Game_part ?l_Game_part ?c_Game_part ?k_Game_part ?a_Game_even_whites ?i_Game_even_whites ?l_Game_even_whites ?c_Game_even_whites ?k_Game_even_whites ?a_Game_even_blacks ?i_Game_even_blacks ?l_Game_even_blacks ?c_Game_even_blacks ?k_Game_even_blacks ?na_aG_clock ?na_aG_row ?na_aG_sets ?na_aL_word ?na_aL_parts ?na_aL_sets ?na_aX_word ?na_aX_parts ?n_aP ?a_Paper___init__ ?l_Paper___init__ ?c_Paper___init__ ?k_Paper___init__ ?ty_Paper ?fi_Paper ?a_Paper___bool__ ?ty_Paper___bool__ ?l_Paper___bool__ ?c_Paper___bool__ ?k_Paper___bool__ ?a_Denial___bool__ ?ty_Denial___bool__ ?l_Denial___bool__ ?c_Denial___bool__ ?k_Denial___bool__ ?a_Led___init__ ?i_Led___init__ ?l_Led___init__ ?c_Led___init__ ?code_aL ?file_aL ?main_aL ?cell_aL ?cls_aL ?sub_aL ?sup_aL ?a_Chess___init__ ?i_Chess___init__ ?l_Chess___init__ ?c_Chess___init__ ?code_aX ?file_aX ?main_aX ?cell_aX ?cls_aX ?sub_aX ?sup_aX ?z_super ?ops ?ha_aL ?hn_aL ?tk_aL ?hm_aL ?kLX ?kLL ?l_N ?v_N ?n_CLOCKS ?l_CLOCKS ?v_CLOCKS ?n_LEAST_SIZE ?n_MOST_SIZE ?n_MOST_ROWS ?n_MOST_SETS ?z_len ?z_range ?z_tuple ?z_list ?z_int ?z_bool ?z_abs ?z_max ?z_any ?z_all ?z_zip ?z_enumerate ?z_sorted ?z_isinstance
    (case a_is_integer => k_is)
    (case l_is_integer => k_is)
    (case c_is_integer => k_is)
    (case k_is_integer => k_is)
    (case a_is_within => k_is)
    (case l_is_within => k_is)
    (case c_is_within => k_is)
    (case k_is_within => k_is)
    (case a_is_clock => k_is)
    (case l_is_clock => k_is)
    (case c_is_clock => k_is)
    (case k_is_clock => k_is)
    (case a_is_row => k_is)
    (case l_is_row => k_is)
    (case c_is_row => k_is)
    (case k_is_row => k_is)
    (case a_need_clock => k_is)
    (case l_need_clock => k_is)
    (case c_need_clock => k_is)
    (case k_need_clock => k_is)
    (case a_need_row => k_is)
    (case l_need_row => k_is)
    (case c_need_row => k_is)
    (case k_need_row => k_is)
    (case a_need_sized => k_is)
    (case l_need_sized => k_is)
    (case c_need_sized => k_is)
    (case k_need_sized => k_is)
    (case a_need_ring => k_is)
    (case l_need_ring => k_is)
    (case c_need_ring => k_is)
    (case k_need_ring => k_is)
    (case a_are_alike => k_is)
    (case l_are_alike => k_is)
    (case c_are_alike => k_is)
    (case k_are_alike => k_is)
    (case a_is_one_off => k_is)
    (case l_is_one_off => k_is)
    (case c_is_one_off => k_is)
    (case k_is_one_off => k_is)
    (case a_is_chess_in => k_is)
    (case l_is_chess_in => k_is)
    (case c_is_chess_in => k_is)
    (case k_is_chess_in => k_is)
    (case a_is_near => k_is)
    (case l_is_near => k_is)
    (case c_is_near => k_is)
    (case k_is_near => k_is)
    (case a_may_in => k_is)
    (case l_may_in => k_is)
    (case c_may_in => k_is)
    (case k_may_in => k_is)
    (case a_with_number => k_is)
    (case l_with_number => k_is)
    (case c_with_number => k_is)
    (case k_with_number => k_is)
    (case a_need_few => k_is)
    (case l_need_few => k_is)
    (case c_need_few => k_is)
    (case k_need_few => k_is)
    (case a_is_pair => k_is)
    (case l_is_pair => k_is)
    (case c_is_pair => k_is)
    (case k_is_pair => k_is)
    (case a_row_behind => k_is)
    (case l_row_behind => k_is)
    (case c_row_behind => k_is)
    (case k_row_behind => k_is)
    (case a_rows_next => k_is)
    (case l_rows_next => k_is)
    (case c_rows_next => k_is)
    (case k_rows_next => k_is)
    (case a_fewest_from => k_is)
    (case l_fewest_from => k_is)
    (case c_fewest_from => k_is)
    (case k_fewest_from => k_is)
    (case a__law_is_chess => k_is)
    (case l__law_is_chess => k_is)
    (case c__law_is_chess => k_is)
    (case k__law_is_chess => k_is)
    (case a__law_strange => k_is)
    (case l__law_strange => k_is)
    (case c__law_strange => k_is)
    (case k__law_strange => k_is)
    (case a__law_next => k_is)
    (case l__law_next => k_is)
    (case c__law_next => k_is)
    (case k__law_next => k_is)
    (case a__law_played => k_is)
    (case l__law_played => k_is)
    (case c__law_played => k_is)
    (case k__law_played => k_is)
    (case a__law_crossed => k_is)
    (case l__law_crossed => k_is)
    (case c__law_crossed => k_is)
    (case k__law_crossed => k_is)
    (case a__law_least => k_is)
    (case l__law_least => k_is)
    (case c__law_least => k_is)
    (case k__law_least => k_is)
    (case a__law_solved => k_is)
    (case l__law_solved => k_is)
    (case c__law_solved => k_is)
    (case k__law_solved => k_is)
    (case a__law_forms => k_is)
    (case l__law_forms => k_is)
    (case c__law_forms => k_is)
    (case k__law_forms => k_is)
    (case a__law_through => k_is)
    (case l__law_through => k_is)
    (case c__law_through => k_is)
    (case k__law_through => k_is)
    (case a__law_draughts => k_is)
    (case l__law_draughts => k_is)
    (case c__law_draughts => k_is)
    (case k__law_draughts => k_is)
    (case a__law_man => k_is)
    (case l__law_man => k_is)
    (case c__law_man => k_is)
    (case k__law_man => k_is)
    (case a__law_pick => k_is)
    (case l__law_pick => k_is)
    (case c__law_pick => k_is)
    (case k__law_pick => k_is)
    (case a__law_deed => k_is)
    (case l__law_deed => k_is)
    (case c__law_deed => k_is)
    (case k__law_deed => k_is)
    (case a__law_deeds => k_is)
    (case l__law_deeds => k_is)
    (case c__law_deeds => k_is)
    (case k__law_deeds => k_is)
    (case a__law_fewest => k_is)
    (case l__law_fewest => k_is)
    (case c__law_fewest => k_is)
    (case k__law_fewest => k_is)
    (case a_fewest_sets => k_is)
    (case l_fewest_sets => k_is)
    (case c_fewest_sets => k_is)
    (case k_fewest_sets => k_is)
    (case a_fixed => k_is)
    (case l_fixed => k_is)
    (case c_fixed => k_is)
    (case k_fixed => k_is)
    (case a_game_in => k_is)
    (case l_game_in => k_is)
    (case c_game_in => k_is)
    (case k_game_in => k_is)
    (case a_judged_ring => k_is)
    (case l_judged_ring => k_is)
    (case c_judged_ring => k_is)
    (case k_judged_ring => k_is)
    (case a_shows_ring => k_is)
    (case l_shows_ring => k_is)
    (case c_shows_ring => k_is)
    (case k_shows_ring => k_is)
    (case a_law => k_is)
    (case l_law => k_is)
    (case c_law => k_is)
    (case k_law => k_is)
    (case n_aG => k_is)
    (case mk_aG => k_is)
    (case kp_aG => k_is)
    (case pg_aG => k_is)
    (case hd_aG => k_is)
    (case po_aG => k_is)
    (case sa_aG => k_is)
    (case n_aL => k_is)
    (case mk_aL => k_is)
    (case kp_aL => k_is)
    (case pg_aL => k_is)
    (case hd_aL => k_is)
    (case po_aL => k_is)
    (case sa_aL => k_is)
    (case n_aX => k_is)
    (case mk_aX => k_is)
    (case kp_aX => k_is)
    (case pg_aX => k_is)
    (case hd_aX => k_is)
    (case po_aX => k_is)
    (case sa_aX => k_is)
    (case a_Game___init__ => k_is)
    (case i_Game___init__ => k_is)
    (case l_Game___init__ => k_is)
    (case c_Game___init__ => k_is)
    (case k_Game___init__ => k_is)
    (case a_Game_put => k_is)
    (case i_Game_put => k_is)
    (case l_Game_put => k_is)
    (case c_Game_put => k_is)
    (case k_Game_put => k_is)
    (case a_Game_part => k_is)
    (case i_Game_part => k_is)
    (case l_Game_part => k_is)
    (case c_Game_part => k_is)
    (case k_Game_part => k_is)
    (case a_Game_even_whites => k_is)
    (case i_Game_even_whites => k_is)
    (case l_Game_even_whites => k_is)
    (case c_Game_even_whites => k_is)
    (case k_Game_even_whites => k_is)
    (case a_Game_even_blacks => k_is)
    (case i_Game_even_blacks => k_is)
    (case l_Game_even_blacks => k_is)
    (case c_Game_even_blacks => k_is)
    (case k_Game_even_blacks => k_is)
    (case na_aG_clock => k_is)
    (case na_aG_row => k_is)
    (case na_aG_sets => k_is)
    (case na_aL_word => k_is)
    (case na_aL_parts => k_is)
    (case na_aL_sets => k_is)
    (case na_aX_word => k_is)
    (case na_aX_parts => k_is)
    (case n_aP => k_is)
    (case a_Paper___init__ => k_is)
    (case l_Paper___init__ => k_is)
    (case c_Paper___init__ => k_is)
    (case k_Paper___init__ => k_is)
    (case ty_Paper => k_is)
    (case fi_Paper => k_is)
    (case a_Paper___bool__ => k_is)
    (case ty_Paper___bool__ => k_is)
    (case l_Paper___bool__ => k_is)
    (case c_Paper___bool__ => k_is)
    (case k_Paper___bool__ => k_is)
    (case a_Denial___bool__ => k_is)
    (case ty_Denial___bool__ => k_is)
    (case l_Denial___bool__ => k_is)
    (case c_Denial___bool__ => k_is)
    (case k_Denial___bool__ => k_is)
    (case a_Led___init__ => k_is)
    (case i_Led___init__ => k_is)
    (case l_Led___init__ => k_is)
    (case c_Led___init__ => k_is)
    (case code_aL => k_is)
    (case file_aL => exact rfl)
    (case main_aL => kernel_rfl)
    (case cell_aL => k_is)
    (case cls_aL => k_is)
    (case sub_aL => k_is)
    (case sup_aL => kernel_rfl)
    (case a_Chess___init__ => k_is)
    (case i_Chess___init__ => k_is)
    (case l_Chess___init__ => k_is)
    (case c_Chess___init__ => k_is)
    (case code_aX => k_is)
    (case file_aX => exact rfl)
    (case main_aX => kernel_rfl)
    (case cell_aX => k_is)
    (case cls_aX => k_is)
    (case sub_aX => k_is)
    (case sup_aX => kernel_rfl)
    (case z_super => k_is)
    (case ops => k_is)
    (case ha_aL => k_is)
    (case hn_aL => k_is)
    (case tk_aL => k_is)
    (case hm_aL => k_is)
    (case kLX => kernel_rfl)
    (case kLL => kernel_rfl)
    (case l_N => k_is)
    (case v_N => exact rfl)
    (case n_CLOCKS => k_is)
    (case l_CLOCKS => k_is)
    (case v_CLOCKS => exact rfl)
    (case n_LEAST_SIZE => k_is)
    (case n_MOST_SIZE => k_is)
    (case n_MOST_ROWS => k_is)
    (case n_MOST_SETS => k_is)
    (case z_len => k_is)
    (case z_range => k_is)
    (case z_tuple => k_is)
    (case z_list => k_is)
    (case z_int => k_is)
    (case z_bool => k_is)
    (case z_abs => k_is)
    (case z_max => k_is)
    (case z_any => k_is)
    (case z_all => k_is)
    (case z_zip => k_is)
    (case z_enumerate => k_is)
    (case z_sorted => k_is)
    (case z_isinstance => k_is)
