import PyProof.Rows.All
import Wide.All
import OpenK.AllK
import Wide.FinOn
import HandS.ForMost
import HandS.Deep
import HandS.TupAny
import HandS.Wide
import HandS.Flow
import HandS.IsInst
import HandS.NoneIn
import HandS.Strs
import HandS.SetKeys
import HandS.Walk
import KE.DatumOrd
import HandS.SortKw
import HandS.SortInts
import HandS.WideBits
import HandS.Style
import KE.GoesMore
import HandS.SetFor
import HandS.TupSets
import PyProof.Rows.SortShellAny
import PySem.Challenge.RW_callmill_k23_other_keys_and_words
import PyProof.EqLayable
import KE.KAssignIn
import HandS.Defaults
import HandS.Head0
import HandS.Head1
import HandS.Head2
import HandS.HeadEnd
import HandS.HeadHook1
import HandS.HeadHook2
set_option Elab.async false
set_option linter.all false
set_option autoImplicit false
set_option maxRecDepth 100000
set_option maxHeartbeats 4000000
/-! the data layer: what stands in the heap as data (PyData), over a part G of the heap that no one changes any more -/
namespace DL
open PySem L2

/-! ### data in the heap -/
mutual
inductive Dq (G : Hp) : V → PyData → Prop
  | non : Dq G .non .none
  | bl (b : Bool) : Dq G (.bl b) (.bool b)
  | int (i : Int) : Dq G (.int i) (.int i)
  | str (x : Str) : Dq G (.str x) (.str x)
  | lst {a : Addr} {xs : List V} {ds : List PyData} : G a = some (.lst xs) → DqAll G xs ds → Dq G (.ref a) (.list ds)
  | tup {a : Addr} {xs : List V} {ds : List PyData} : G a = some (.tup xs) → DqAll G xs ds → Dq G (.ref a) (.tuple ds)
inductive DqAll (G : Hp) : List V → List PyData → Prop
  | nil : DqAll G [] []
  | cons {v : V} {vs : List V} {d : PyData} {ds : List PyData} : Dq G v d → DqAll G vs ds → DqAll G (v :: vs) (d :: ds)
end
mutual
theorem Dq.mono {G G' : Hp} (e : Same G G') : ∀ (d : PyData) (v : V), Dq G v d → Dq G' v d
  | .none, _, h => by cases h; exact .non
  | .bool b, _, h => by cases h; exact .bl b
  | .int i, _, h => by cases h; exact .int i
  | .str x, _, h => by cases h; exact .str x
  | .list ds, _, h => by
    cases h with
    | lst hs ha => exact .lst (e _ _ hs) (DqAll.mono e ds _ ha)
  | .tuple ds, _, h => by
    cases h with
    | tup hs ha => exact .tup (e _ _ hs) (DqAll.mono e ds _ ha)
  | .dict _, _, h => by cases h
theorem DqAll.mono {G G' : Hp} (e : Same G G') : ∀ (ds : List PyData) (vs : List V), DqAll G vs ds → DqAll G' vs ds
  | [], _, h => by cases h; exact .nil
  | d :: ds, _, h => by
    cases h with
    | cons h1 h2 => exact .cons (Dq.mono e d _ h1) (DqAll.mono e ds _ h2)
end
mutual
theorem Dq.dp {K : PySem.W.Frag} {G : Hp} : ∀ (d : PyData) (v : V), Dq G v d → Dp K G v d
  | .none, _, h => by cases h; exact .non
  | .bool b, _, h => by cases h; exact .bl b
  | .int i, _, h => by cases h; exact .int i
  | .str x, _, h => by cases h; exact .str x
  | .list ds, _, h => by
    cases h with
    | lst hs ha => exact .lst (SqL.of hs) (DqAll.dp ds _ ha)
  | .tuple ds, _, h => by
    cases h with
    | tup hs ha => exact .tup (SqT.of hs) (DqAll.dp ds _ ha)
  | .dict _, _, h => by cases h
theorem DqAll.dp {K : PySem.W.Frag} {G : Hp} : ∀ (ds : List PyData) (vs : List V), DqAll G vs ds → DpAll K G vs ds
  | [], _, h => by cases h; exact .nil
  | d :: ds, _, h => by
    cases h with
    | cons h1 h2 => exact .cons (Dq.dp d _ h1) (DqAll.dp ds _ h2)
end
theorem DqAll.length {G : Hp} : ∀ {ds : List PyData} {vs : List V}, DqAll G vs ds → vs.length = ds.length
  | [], _, .nil => rfl
  | _ :: _, _, .cons _ t => congrArg Nat.succ t.length
theorem DqAll.get {G : Hp} : ∀ {ds : List PyData} {vs : List V} {i : Nat} {d : PyData}, DqAll G vs ds → ds[i]? = some d → ∃ v, vs[i]? = some v ∧ Dq G v d
  | [], _, _, _, _, e => by cases e
  | _ :: _, _, 0, _, .cons h _, e => by
    cases e
    exact ⟨_, rfl, h⟩
  | _ :: _, _, i + 1, d, .cons _ t, e => by
    obtain ⟨v, h1, h2⟩ := DqAll.get (i := i) (d := d) t (by simpa using e)
    exact ⟨v, by simpa using h1, h2⟩
theorem DqAll.getV {G : Hp} : ∀ {ds : List PyData} {vs : List V} {i : Nat} {v : V}, DqAll G vs ds → vs[i]? = some v → ∃ d, ds[i]? = some d ∧ Dq G v d
  | _, [], _, _, _, e => by cases e
  | _, _ :: _, 0, _, .cons h _, e => by
    cases e
    exact ⟨_, rfl, h⟩
  | _, _ :: _, i + 1, v, .cons _ t, e => by
    obtain ⟨d, h1, h2⟩ := DqAll.getV (i := i) (v := v) t (by simpa using e)
    exact ⟨d, by simpa using h1, h2⟩
theorem DqAll.append {G : Hp} : ∀ {ds es : List PyData} {vs ws : List V}, DqAll G vs ds → DqAll G ws es → DqAll G (vs ++ ws) (ds ++ es)
  | [], _, _, _, .nil, s => s
  | _ :: _, _, _, _, .cons r t, s => .cons r (DqAll.append t s)
theorem DqAll.take {G : Hp} : ∀ {ds : List PyData} {vs : List V} (n : Nat), DqAll G vs ds → DqAll G (vs.take n) (ds.take n)
  | [], _, 0, .nil => .nil
  | [], _, n + 1, .nil => .nil
  | _ :: _, _, 0, .cons _ _ => .nil
  | _ :: _, _, n + 1, .cons r t => .cons r (DqAll.take n t)
theorem DqAll.drop {G : Hp} : ∀ {ds : List PyData} {vs : List V} (n : Nat), DqAll G vs ds → DqAll G (vs.drop n) (ds.drop n)
  | [], _, 0, .nil => .nil
  | [], _, n + 1, .nil => .nil
  | _ :: _, _, 0, .cons r t => .cons r t
  | _ :: _, _, n + 1, .cons _ t => DqAll.drop n t
theorem DqAll.ints {G : Hp} : ∀ {ns : List Int} {vs : List V}, DqAll G vs (ns.map .int) → vs = ns.map .int
  | [], _, h => by cases h; rfl
  | n :: ns, _, h => by
    cases h with
    | cons h1 h2 =>
      cases h1
      rw [DqAll.ints h2]
      rfl
theorem DqAll.of_ints {G : Hp} : ∀ {ns : List Int}, DqAll G (ns.map .int) (ns.map .int)
  | [] => .nil
  | _ :: _ => .cons (.int _) DqAll.of_ints
theorem DqAll.strs {G : Hp} : ∀ {ns : List Str} {vs : List V}, DqAll G vs (ns.map .str) → vs = ns.map .str
  | [], _, h => by cases h; rfl
  | n :: ns, _, h => by
    cases h with
    | cons h1 h2 =>
      cases h1
      rw [DqAll.strs h2]
      rfl
theorem DqAll.of_strs {G : Hp} : ∀ {ns : List Str}, DqAll G (ns.map .str) (ns.map .str)
  | [] => .nil
  | _ :: _ => .cons (.str _) DqAll.of_strs
theorem DqAll.bls {G : Hp} : ∀ {ns : List Bool} {vs : List V}, DqAll G vs (ns.map .bool) → vs = ns.map .bl
  | [], _, h => by cases h; rfl
  | n :: ns, _, h => by
    cases h with
    | cons h1 h2 =>
      cases h1
      rw [DqAll.bls h2]
      rfl

/-! ### how the frozen part and the heap go on -/
structure Fx (G H G' H' : Hp) : Prop where
  g : Same G G'
  h : Same H H'
  s : Same G' H'
  m : ∀ a, G a = none → H a ≠ none → G' a = none
theorem Fx.refl {G H : Hp} (s : Same G H) : Fx G H G H := ⟨Same.refl G, Same.refl H, s, fun _ e _ => e⟩
theorem ne_none_of {H H' : Hp} (e : Same H H') {a : Addr} (h : H a ≠ none) : H' a ≠ none := fun q => h (e.free q)
theorem Fx.trans {G H G1 H1 G2 H2 : Hp} (a : Fx G H G1 H1) (b : Fx G1 H1 G2 H2) : Fx G H G2 H2 :=
  ⟨a.g.trans b.g, a.h.trans b.h, b.s, fun x e n => b.m x (a.m x e n) (ne_none_of a.h n)⟩
/-- a new object, frozen at once -/
theorem Fx.new {G H : Hp} (s : Same G H) {p : Addr} (hp : H p = none) (o : HO) : Fx G H (upd G p o) (upd H p o) := by
  have gp : G p = none := s.free hp
  refine ⟨fun b u e => ?_, fun b u e => ?_, fun b u e => ?_, fun b e n => ?_⟩
  · rw [upd_ne (ne_of_none e gp)]
    exact e
  · rw [upd_ne (ne_of_none e hp)]
    exact e
  · by_cases q : b = p
    · rw [q, upd_same] at e ⊢
      exact e
    · rw [upd_ne q] at e ⊢
      exact s b u e
  · have q : b ≠ p := fun z => n (by rw [z]; exact hp)
    rw [upd_ne q]
    exact e
/-- a new object that is not frozen -/
theorem Fx.lay {G H : Hp} (s : Same G H) {p : Addr} (hp : H p = none) (o : HO) : Fx G H G (upd H p o) := by
  have gp : G p = none := s.free hp
  refine ⟨Same.refl G, fun b u e => ?_, fun b u e => ?_, fun b e n => e⟩
  · rw [upd_ne (ne_of_none e hp)]
    exact e
  · rw [upd_ne (ne_of_none e gp)]
    exact s b u e
/-- a tracked object is frozen from now on -/
theorem Fx.freeze {G0 H0 G H : Hp} {p : Addr} {o : HO} (f : Fx G0 H0 G H) (hp : H p = some o) (h0 : H0 p = none) (gp : G p = none) : Fx G0 H0 (upd G p o) H := by
  refine ⟨fun b u e => ?_, f.h, fun b u e => ?_, fun b e n => ?_⟩
  · rw [upd_ne (ne_of_none (f.g b u e) gp)]
    exact f.g b u e
  · by_cases q : b = p
    · rw [q, upd_same] at e
      rw [q, ← e]
      exact hp
    · rw [upd_ne q] at e
      exact f.s b u e
  · have q : b ≠ p := fun z => n (by rw [z]; exact h0)
    rw [upd_ne q]
    exact f.m b e n
/-- an object that is not frozen, and was not there at the beginning, is written -/
theorem Fx.write {G0 H0 G H : Hp} {p : Addr} {o : HO} (f : Fx G0 H0 G H) (h0 : H0 p = none) (gp : G p = none) : Fx G0 H0 G (upd H p o) := by
  refine ⟨f.g, fun b u e => ?_, fun b u e => ?_, f.m⟩
  · rw [upd_ne (ne_of_none e h0)]
    exact f.h b u e
  · rw [upd_ne (ne_of_none e gp)]
    exact f.s b u e

/-! ### slots as data -/
inductive Sl where
  /-- frozen data -/
  | dat (d : PyData)
  /-- a list of one's own, that may still be changed -/
  | lst (ds : List PyData)
  /-- another thing, by what is true of it in the frozen part -/
  | ph (P : Hp → V → Prop)
abbrev DEnv := List (Option Sl)
def SlOk (H0 G H : Hp) : Sl → V → Prop
  | .dat d, v => Dq G v d
  | .lst ds, v => ∃ a xs, v = .ref a ∧ H a = some (.lst xs) ∧ G a = none ∧ H0 a = none ∧ DqAll G xs ds
  | .ph P, v => ∀ G', Same G G' → P G' v
structure Rp (G0 H0 : Hp) (δ : DEnv) (σ : L2.St) (G H : Hp) : Prop where
  fx : Fx G0 H0 G H
  len : σ.length = δ.length
  sl : ∀ (i : Nat) (s : Sl), δ[i]? = some (some s) → ∃ v, σ[i]? = some (some v) ∧ SlOk H0 G H s v
  ap : ∀ (i j : Nat) (ds es : List PyData) (v : V), δ[i]? = some (some (.lst ds)) → δ[j]? = some (some (.lst es)) → σ[i]? = some (some v) → σ[j]? = some (some v) → i = j
section
variable {G0 H0 G H G' H' : Hp} {δ : DEnv} {σ : L2.St}
theorem SlOk.fx {s : Sl} {v : V} (h : SlOk H0 G H s v) (f : Fx G H G' H') : SlOk H0 G' H' s v := by
  cases s with
  | dat d => exact Dq.mono f.g d v h
  | lst ds =>
    obtain ⟨a, xs, e, h1, h2, h3, h4⟩ := h
    exact ⟨a, xs, e, f.h _ _ h1, f.m a h2 (by rw [h1]; exact fun z => nomatch z), h3, DqAll.mono f.g ds xs h4⟩
  | ph P => exact fun G2 e => h G2 (f.g.trans e)
theorem Rp.go (r : Rp G0 H0 δ σ G H) (f : Fx G H G' H') : Rp G0 H0 δ σ G' H' :=
  ⟨r.fx.trans f, r.len, fun i s e => let ⟨v, h1, h2⟩ := r.sl i s e; ⟨v, h1, h2.fx f⟩, r.ap⟩
theorem Rp.dat (r : Rp G0 H0 δ σ G H) {i : Nat} {d : PyData} (e : δ[i]? = some (some (.dat d))) : ∃ v, σ[i]? = some (some v) ∧ Dq G v d := r.sl i _ e
theorem Rp.lt (r : Rp G0 H0 δ σ G H) {i : Nat} {s : Option Sl} (e : δ[i]? = some s) : i < σ.length := by
  rw [r.len]
  exact (List.getElem?_eq_some_iff.mp e).1
theorem set_eq {α : Type} {l : List α} {i j : Nat} {x y : α} (h : (l.set i x)[j]? = some y) : (j = i ∧ y = x) ∨ (j ≠ i ∧ l[j]? = some y) := by
  by_cases q : i = j
  · subst q
    by_cases z : i < l.length
    · rw [List.getElem?_set_self z] at h
      exact .inl ⟨rfl, (Option.some.inj h).symm⟩
    · rw [List.getElem?_eq_none (by simpa using z)] at h
      cases h
  · rw [List.getElem?_set_ne q] at h
    exact .inr ⟨fun z => q z.symm, h⟩
/-- a slot stored: no list of one's own -/
theorem Rp.set (r : Rp G0 H0 δ σ G H) {i : Nat} {s : Sl} {v : V} (hi : i < δ.length) (hs : SlOk H0 G H s v) (hn : ∀ ds, s ≠ .lst ds) : Rp G0 H0 (δ.set i (some s)) (σ.set i (some v)) G H := by
  have hσ : i < σ.length := by rw [r.len]; exact hi
  refine ⟨r.fx, by rw [List.length_set, List.length_set, r.len], fun j t e => ?_, fun j k ds es w e1 e2 e3 e4 => ?_⟩
  · rcases set_eq e with ⟨rfl, q⟩ | ⟨q, e⟩
    · cases q
      exact ⟨v, List.getElem?_set_self hσ, hs⟩
    · rw [List.getElem?_set_ne (fun z => q z.symm)]
      exact r.sl j t e
  · rcases set_eq e1 with ⟨_, q⟩ | ⟨q1, e1⟩
    · exact absurd (Option.some.inj q).symm (hn ds)
    · rcases set_eq e2 with ⟨_, q⟩ | ⟨q2, e2⟩
      · exact absurd (Option.some.inj q).symm (hn es)
      · rw [List.getElem?_set_ne (fun z => q1 z.symm)] at e3
        rw [List.getElem?_set_ne (fun z => q2 z.symm)] at e4
        exact r.ap j k ds es w e1 e2 e3 e4
/-- a slot stored: a new list of one's own -/
theorem Rp.setL (r : Rp G0 H0 δ σ G H) {i : Nat} {ds : List PyData} {a : Addr} {xs : List V} (hi : i < δ.length) (ha : H a = some (.lst xs)) (ga : G a = none) (h0 : H0 a = none) (hd : DqAll G xs ds)
    (nw : ∀ (j : Nat) (es : List PyData), j ≠ i → δ[j]? = some (some (.lst es)) → σ[j]? ≠ some (some (.ref a))) : Rp G0 H0 (δ.set i (some (.lst ds))) (σ.set i (some (.ref a))) G H := by
  have hσ : i < σ.length := by rw [r.len]; exact hi
  refine ⟨r.fx, by rw [List.length_set, List.length_set, r.len], fun j t e => ?_, fun j k ds' es w e1 e2 e3 e4 => ?_⟩
  · rcases set_eq e with ⟨rfl, q⟩ | ⟨q, e⟩
    · cases q
      exact ⟨_, List.getElem?_set_self hσ, a, xs, rfl, ha, ga, h0, hd⟩
    · rw [List.getElem?_set_ne (fun z => q z.symm)]
      exact r.sl j t e
  · by_cases q1 : j = i
    · by_cases q2 : k = i
      · rw [q1, q2]
      · rw [q1, List.getElem?_set_self hσ] at e3
        cases e3
        rcases set_eq e2 with ⟨z, _⟩ | ⟨_, e2⟩
        · exact absurd z q2
        · rw [List.getElem?_set_ne (fun z => q2 z.symm)] at e4
          exact absurd e4 (nw k es q2 e2)
    · rcases set_eq e1 with ⟨z, _⟩ | ⟨_, e1⟩
      · exact absurd z q1
      · rw [List.getElem?_set_ne (fun z => q1 z.symm)] at e3
        by_cases q2 : k = i
        · rw [q2, List.getElem?_set_self hσ] at e4
          cases e4
          exact absurd e3 (nw j ds' q1 e1)
        · rcases set_eq e2 with ⟨z, _⟩ | ⟨_, e2⟩
          · exact absurd z q2
          · rw [List.getElem?_set_ne (fun z => q2 z.symm)] at e4
            exact r.ap j k ds' es w e1 e2 e3 e4
/-- a list of one's own changes -/
theorem Rp.put (r : Rp G0 H0 δ σ G H) {i : Nat} {ds ds' : List PyData} {a : Addr} {xs' : List V} (e : δ[i]? = some (some (.lst ds))) (ev : σ[i]? = some (some (.ref a))) (hd : DqAll G xs' ds') : Rp G0 H0 (δ.set i (some (.lst ds'))) σ G (upd H a (.lst xs')) := by
  obtain ⟨v, ev', a', xs, ea, ha, ga, h0, _⟩ := r.sl i _ e
  rw [ev] at ev'
  cases ev'
  cases ea
  have hi : i < σ.length := r.lt e
  refine ⟨r.fx.write h0 ga, by rw [List.length_set, r.len], fun j t et => ?_, fun j k ds1 es1 w e1 e2 e3 e4 => ?_⟩
  · rcases set_eq et with ⟨rfl, q⟩ | ⟨q, et⟩
    · cases q
      exact ⟨_, ev, a, xs', rfl, upd_same, ga, h0, hd⟩
    · obtain ⟨w, ew, hw⟩ := r.sl j t et
      refine ⟨w, ew, ?_⟩
      cases t with
      | dat d => exact hw
      | ph P => exact hw
      | lst es =>
        obtain ⟨b, ys, rfl, h1, h2, h3, h4⟩ := hw
        have nb : b ≠ a := fun z => q (r.ap j i es ds (.ref a) et e (by rw [← z]; exact ew) ev)
        exact ⟨b, ys, rfl, by rw [upd_ne nb]; exact h1, h2, h3, h4⟩
  · have back : ∀ (m : Nat) (fs : List PyData), (δ.set i (some (.lst ds')))[m]? = some (some (.lst fs)) → ∃ gs, δ[m]? = some (some (.lst gs)) := fun m fs z => by
      rcases set_eq z with ⟨rfl, _⟩ | ⟨_, z⟩
      · exact ⟨ds, e⟩
      · exact ⟨fs, z⟩
    obtain ⟨g1, q1⟩ := back j ds1 e1
    obtain ⟨g2, q2⟩ := back k es1 e2
    exact r.ap j k g1 g2 w q1 q2 e3 e4
/-- forgetting -/
theorem Rp.weak (r : Rp G0 H0 δ σ G H) {δ' : DEnv} {σ' : L2.St} (l1 : δ'.length = δ.length) (l2 : σ'.length = σ.length) (h : ∀ (i : Nat) (s : Sl), δ'[i]? = some (some s) → δ[i]? = some (some s) ∧ σ'[i]? = σ[i]?) : Rp G0 H0 δ' σ' G H :=
  ⟨r.fx, by rw [l1, l2, r.len], fun i s e => by rw [(h i s e).2]; exact r.sl i s (h i s e).1,
    fun i j ds es v e1 e2 e3 e4 => r.ap i j ds es v (h i _ e1).1 (h j _ e2).1 (by rw [← (h i _ e1).2]; exact e3) (by rw [← (h j _ e2).2]; exact e4)⟩
/-- a list of one's own is frozen -/
theorem Rp.freeze (r : Rp G0 H0 δ σ G H) {i : Nat} {ds : List PyData} (e : δ[i]? = some (some (.lst ds))) : ∃ G', Rp G0 H0 (δ.set i (some (.dat (.list ds)))) σ G' H := by
  obtain ⟨v, ev, a, xs, rfl, ha, ga, h0, hd⟩ := r.sl i _ e
  have gg : Same G (upd G a (.lst xs)) := fun b u z => by
    rw [upd_ne (ne_of_none z ga)]
    exact z
  refine ⟨upd G a (.lst xs), r.fx.freeze ha h0 ga, by rw [List.length_set, r.len], fun j t et => ?_, fun j k ds1 es1 w e1 e2 e3 e4 => ?_⟩
  · rcases set_eq et with ⟨rfl, q⟩ | ⟨q, et⟩
    · cases q
      exact ⟨_, ev, Dq.lst upd_same (DqAll.mono gg ds xs hd)⟩
    · obtain ⟨w, ew, hw⟩ := r.sl j t et
      refine ⟨w, ew, ?_⟩
      cases t with
      | dat d => exact Dq.mono gg d w hw
      | ph P => exact fun G2 z => hw G2 (gg.trans z)
      | lst es =>
        obtain ⟨b, ys, rfl, h1, h2, h3, h4⟩ := hw
        have nb : b ≠ a := fun z => q (r.ap j i es ds (.ref a) et e (by rw [← z]; exact ew) ev)
        exact ⟨b, ys, rfl, h1, by rw [upd_ne nb]; exact h2, h3, DqAll.mono gg es ys h4⟩
  · rcases set_eq e1 with ⟨_, q⟩ | ⟨_, e1⟩
    · cases q
    · rcases set_eq e2 with ⟨_, q⟩ | ⟨_, e2⟩
      · cases q
      · exact r.ap j k ds1 es1 w e1 e2 e3 e4
end
end DL

namespace DL
open PySem L2
section
variable {ι : Type} (X : ι → Cx)
/-! ### the weakest readings over a family of contexts -/
def uE (e : Expr) : TE := fun σ H Q => ∃ t : TE, (∀ i, PE (X i) e t) ∧ t σ H Q
def uT (e : Expr) : TT := fun σ H Q => ∃ t : TT, (∀ i, PT (X i) e t) ∧ t σ H Q
def uW (e : Expr) : TT := fun σ H Q => ∃ t : TT, (∀ i, PW (X i) e t) ∧ t σ H Q
def uA (es : List Expr) : TA := fun σ H Q => ∃ t : TA, (∀ i, PA (X i) es t) ∧ t σ H Q
def uO (e : Option Expr) : TO := fun σ H Q => ∃ t : TO, (∀ i, PO (X i) e t) ∧ t σ H Q
def uS (st : Stmt) : TS := fun D σ H => ∃ t : TS, (∀ i, PS (X i) st t) ∧ t D σ H
def uB (sts : List Stmt) : TS := fun D σ H => ∃ t : TS, (∀ i, PSs (X i) sts t) ∧ t D σ H
def uG (tg : Expr) : TG := fun v σ H Q => ∃ t : TG, (∀ i, PG (X i) tg t) ∧ t v σ H Q
def uGs (tgs : List Expr) : TGs := fun vs σ H Q => ∃ t : TGs, (∀ i, PGs (X i) tgs t) ∧ t vs σ H Q
def uTs (ifs : List Expr) : TT := fun σ H Q => ∃ t : TT, (∀ i, PTs (X i) ifs t) ∧ t σ H Q
def uI (tg iter : Expr) : TI := fun σ H R => ∃ t : TI, (∀ i, PI (X i) tg iter t) ∧ t σ H R
variable {X}
theorem uE_ok {e : Expr} (i : ι) : PE (X i) e (uE X e) := ⟨fun pins s σ H Q I ⟨_, h, q⟩ => (h i).run pins s σ H Q I q⟩
theorem uT_ok {e : Expr} (i : ι) : PT (X i) e (uT X e) := ⟨fun pins s σ H Q I ⟨_, h, q⟩ => (h i).run pins s σ H Q I q⟩
theorem uW_ok {e : Expr} (i : ι) : PW (X i) e (uW X e) := ⟨fun wh pins s σ H Q I ⟨_, h, q⟩ => (h i).run wh pins s σ H Q I q⟩
theorem uA_ok {es : List Expr} (i : ι) : PA (X i) es (uA X es) := ⟨fun pos pins s σ H Q I ⟨_, h, q⟩ => (h i).run pos pins s σ H Q I q⟩
theorem uO_ok {e : Option Expr} (i : ι) : PO (X i) e (uO X e) := ⟨fun pins s σ H Q I ⟨_, h, q⟩ => (h i).run pins s σ H Q I q⟩
theorem uS_ok {st : Stmt} (i : ι) : PS (X i) st (uS X st) := ⟨fun pins s σ H D I ⟨_, h, q⟩ => (h i).run pins s σ H D I q⟩
theorem uB_ok {sts : List Stmt} (i : ι) : PSs (X i) sts (uB X sts) := ⟨fun pins s σ H D I ⟨_, h, q⟩ => (h i).run pins s σ H D I q⟩
theorem uG_ok {tg : Expr} (i : ι) : PG (X i) tg (uG X tg) := ⟨fun pins s σ H v u Q I r ⟨_, h, q⟩ => (h i).run pins s σ H v u Q I r q⟩
theorem uGs_ok {tgs : List Expr} (i : ι) : PGs (X i) tgs (uGs X tgs) := ⟨fun pins s σ H vs us Q I r ⟨_, h, q⟩ => (h i).run pins s σ H vs us Q I r q⟩
theorem uTs_ok {ifs : List Expr} (i : ι) : PTs (X i) ifs (uTs X ifs) := ⟨fun pins s σ H Q I ⟨_, h, q⟩ => (h i).run pins s σ H Q I q⟩
theorem uI_ok {tg iter : Expr} (i : ι) : PI (X i) tg iter (uI X tg iter) := ⟨fun pins s σ H R I ⟨_, h, q⟩ => (h i).run pins s σ H R I q⟩
end

/-- what a family has in common -/
class Fm {ι : Type} (X : ι → Cx) (P : outParam Program) (w : outParam World) (K : outParam PySem.W.Frag) (mg : outParam (Str → Option Value)) (base : outParam Heap) (k : outParam Nat) : Prop where
  prog : ∀ i, (X i).prog = P
  world : ∀ i, (X i).w = w
  frag : ∀ i, (X i).K = K
  glob : ∀ i, (X i).mg = mg
  bas : ∀ i, (X i).base = base
  calm : ∀ i, (X i).calm = true
  room : ∀ i, Room k (X i).A
  nd : ∀ i, (X i).N.Nodup
  pass : ∀ i, PassesOwn (model (X i).prog (X i).w) (X i).A (X i).env (X i).xe

section
variable {ι : Type} (X : ι → Cx) (δ : DEnv)
/-! ### what evaluates to which data -/
/-- to frozen data -/
def ED (e : Expr) (d : PyData) : Prop := ∀ (G0 H0 : Hp) (σ : L2.St) (G H : Hp), Rp G0 H0 δ σ G H → ∀ Q : VK, (∀ v G' H', Fx G H G' H' → Dq G' v d → Q v H') → uE X e σ H Q
/-- to a new list that is not yet frozen -/
def EL (e : Expr) (ds : List PyData) : Prop := ∀ (G0 H0 : Hp) (σ : L2.St) (G H : Hp), Rp G0 H0 δ σ G H → ∀ Q : VK, (∀ p xs G' H', Fx G H G' H' → H p = none → H' p = some (.lst xs) → G' p = none → DqAll G' xs ds → Q (.ref p) H') → uE X e σ H Q
/-- to a list that is read at once -/
def EQ (e : Expr) (ds : List PyData) : Prop := ∀ (G0 H0 : Hp) (σ : L2.St) (G H : Hp), Rp G0 H0 δ σ G H → ∀ Q : VK, (∀ p xs G' H', Fx G H G' H' → H' p = some (.lst xs) → DqAll G' xs ds → Q (.ref p) H') → uE X e σ H Q
def ET (e : Expr) (b : Bool) : Prop := ∀ (G0 H0 : Hp) (σ : L2.St) (G H : Hp), Rp G0 H0 δ σ G H → ∀ Q : Bool → Hp → Prop, (∀ G' H', Fx G H G' H' → Q b H') → uT X e σ H Q
def EW (e : Expr) (b : Bool) : Prop := ∀ (G0 H0 : Hp) (σ : L2.St) (G H : Hp), Rp G0 H0 δ σ G H → ∀ Q : Bool → Hp → Prop, (∀ G' H', Fx G H G' H' → Q b H') → uW X e σ H Q
def EO (e : Option Expr) (o : Option Int) : Prop := ∀ (G0 H0 : Hp) (σ : L2.St) (G H : Hp), Rp G0 H0 δ σ G H → ∀ Q : Option Int → Hp → Prop, (∀ G' H', Fx G H G' H' → Q o H') → uO X e σ H Q
def SlF (G : Hp) : Sl → V → Prop
  | .dat d, v => Dq G v d
  | .lst _, _ => False
  | .ph P, v => ∀ G', Same G G' → P G' v
theorem SlF.fx {G G' : Hp} {s : Sl} {v : V} (h : SlF G s v) (f : Same G G') : SlF G' s v := by
  cases s with
  | dat d => exact Dq.mono f d v h
  | lst ds => exact h
  | ph P => exact fun G2 e => h G2 (f.trans e)
theorem SlF.ok {H0 G H : Hp} {s : Sl} {v : V} (h : SlF G s v) : SlOk H0 G H s v := by
  cases s with
  | dat d => exact h
  | lst ds => exact (show False from h).elim
  | ph P => exact h
abbrev ArgsOk (G : Hp) : List Sl → List V → Prop := Paired fun s v => SlF G s v
theorem ArgsOk.fx {G G' : Hp} (f : Same G G') : ∀ {as : List Sl} {vs : List V}, ArgsOk G as vs → ArgsOk G' as vs
  | _, _, .nil => .nil
  | _, _, .cons h t => .cons (h.fx f) (ArgsOk.fx f t)
def EA (es : List Expr) (as : List Sl) : Prop := ∀ (G0 H0 : Hp) (σ : L2.St) (G H : Hp), Rp G0 H0 δ σ G H → ∀ Q : List V → Hp → Prop, (∀ vs G' H', Fx G H G' H' → ArgsOk G' as vs → Q vs H') → uA X es σ H Q
end

section
variable {ι : Type} {X : ι → Cx} {δ : DEnv} {P : Program} {w : World} {K : PySem.W.Frag} {mg : Str → Option Value} {base : Heap} {k : Nat} [M : Fm X P w K mg base k] {e a b c : Expr} {es : List Expr} {d d1 d2 : PyData} {ds : List PyData} {pos p : Pos} {x : Str}

/-! ### turning one into another -/
theorem EL.q (h : EL X δ e ds) : EQ X δ e ds := fun G0 H0 σ G H r Q q => h G0 H0 σ G H r Q fun p xs G' H' f _ h2 _ h4 => q p xs G' H' f h2 h4
theorem EL.dd (h : EL X δ e ds) : ED X δ e (.list ds) := fun G0 H0 σ G H r Q q => h G0 H0 σ G H r Q fun p xs G' H' f h1 h2 h3 h4 => by
  have gg : Same G' (upd G' p (.lst xs)) := fun b u z => by
    rw [upd_ne (ne_of_none z h3)]
    exact z
  exact q _ _ H' (f.freeze h2 h1 h3) (.lst upd_same (DqAll.mono gg ds xs h4))
theorem ED.q (h : ED X δ e (.list ds)) : EQ X δ e ds := fun G0 H0 σ G H r Q q => h G0 H0 σ G H r Q fun v G' H' f hd => by
  cases hd with
  | lst h1 h2 => exact q _ _ G' H' f (f.s _ _ h1) h2
theorem ED.is (h : ED X δ e d1) (q : d1 = d2) : ED X δ e d2 := q ▸ h
theorem EL.is {es : List PyData} (h : EL X δ e ds) (q : ds = es) : EL X δ e es := q ▸ h
theorem EQ.is {es : List PyData} (h : EQ X δ e ds) (q : ds = es) : EQ X δ e es := q ▸ h
theorem ET.is {b b' : Bool} (h : ET X δ e b) (q : b = b') : ET X δ e b' := q ▸ h

/-! ### names, constants -/
theorem ed_var (i : Nat) (hN : ∀ j, (X j).N[i]? = some x := by intro _; rfl) (hv : ∀ j, Vis (X j).env.scope x := by intro _; first | exact Or.inl rfl | exact Or.inr (Or.inl rfl) | exact Or.inr (Or.inr rfl))
    (hl : δ[i]? = some (some (.dat d)) := by rfl) (hd : (x == ("__debug__" : Str)) = false := by decide) (hcd : (x == ("__classdict__" : Str)) = false := by decide) : ED X δ (.Name x pos) d := fun G0 H0 σ G H r Q q => by
  obtain ⟨v, ev, hv'⟩ := r.sl i _ hl
  exact ⟨tVar i, fun j => pe_var (hN j) (hv j) hd hcd, v, ev, q v G H (Fx.refl r.fx.s) hv'⟩
theorem eq_var (i : Nat) (hN : ∀ j, (X j).N[i]? = some x := by intro _; rfl) (hv : ∀ j, Vis (X j).env.scope x := by intro _; first | exact Or.inl rfl | exact Or.inr (Or.inl rfl) | exact Or.inr (Or.inr rfl))
    (hl : δ[i]? = some (some (.lst ds)) := by rfl) (hd : (x == ("__debug__" : Str)) = false := by decide) (hcd : (x == ("__classdict__" : Str)) = false := by decide) : EQ X δ (.Name x pos) ds := fun G0 H0 σ G H r Q q => by
  obtain ⟨v, ev, a, xs, rfl, h1, h2, h3, h4⟩ := r.sl i _ hl
  exact ⟨tVar i, fun j => pe_var (hN j) (hv j) hd hcd, _, ev, q a xs G H (Fx.refl r.fx.s) h1 h4⟩
theorem ed_int {n : Int} {j : Nat} : ED X δ (.Constant (.int n) j pos) (.int n) := fun G0 H0 σ G H r Q q => ⟨_, fun _ => pe_int, q _ G H (Fx.refl r.fx.s) (.int n)⟩
theorem ed_str {n : Str} {j : Nat} : ED X δ (.Constant (.str n) j pos) (.str n) := fun G0 H0 σ G H r Q q => ⟨_, fun _ => pe_str, q _ G H (Fx.refl r.fx.s) (.str n)⟩
theorem ed_bl {n : Bool} {j : Nat} : ED X δ (.Constant (.bool n) j pos) (.bool n) := fun G0 H0 σ G H r Q q => ⟨_, fun _ => pe_bl, q _ G H (Fx.refl r.fx.s) (.bl n)⟩
theorem ed_non {j : Nat} : ED X δ (.Constant .none j pos) .none := fun G0 H0 σ G H r Q q => ⟨_, fun _ => pe_non, q _ G H (Fx.refl r.fx.s) .non⟩

/-! ### displays -/
theorem ea_nil : EA X δ [] [] := fun G0 H0 σ G H r Q q => ⟨tNil, fun _ => pa_nil, q [] G H (Fx.refl r.fx.s) .nil⟩
theorem ea_cons {as : List Sl} (h : ED X δ e d) (ht : EA X δ es as) (hs : ∀ i, starEach (e :: es) (X i).env = (false, eval e (X i).env) :: starEach es (X i).env := by intro _; rfl) : EA X δ (e :: es) (.dat d :: as) := fun G0 H0 σ G H r Q q =>
  ⟨tCons (uE X e) (uA X es), fun i => pa_cons (uE_ok i) (uA_ok i) (hs i), h G0 H0 σ G H r _ fun v G1 H1 f1 hv => ht G0 H0 σ G1 H1 (r.go f1) _ fun vs G2 H2 f2 hvs =>
    q (v :: vs) G2 H2 (f1.trans f2) (.cons (Dq.mono f2.g d v hv) hvs)⟩
/-- an argument that is another thing -/
theorem ea_ph {as : List Sl} {Ph : Hp → V → Prop} (i : Nat) (ht : EA X δ es as) (hN : ∀ j, (X j).N[i]? = some x := by intro _; rfl) (hv : ∀ j, Vis (X j).env.scope x := by intro _; first | exact Or.inl rfl | exact Or.inr (Or.inl rfl) | exact Or.inr (Or.inr rfl))
    (hl : δ[i]? = some (some (.ph Ph)) := by rfl) (hs : ∀ j, starEach (.Name x pos :: es) (X j).env = (false, eval (.Name x pos) (X j).env) :: starEach es (X j).env := by intro _; rfl) (hd : (x == ("__debug__" : Str)) = false := by decide) (hcd : (x == ("__classdict__" : Str)) = false := by decide) : EA X δ (.Name x pos :: es) (.ph Ph :: as) := fun G0 H0 σ G H r Q q => by
  obtain ⟨v, ev, hv'⟩ := r.sl i _ hl
  refine ⟨tCons (tVar i) (uA X es), fun j => pa_cons (pe_var (hN j) (hv j) hd hcd) (uA_ok j) (hs j), v, ev, ?_⟩
  exact ht G0 H0 σ G H r _ fun vs G2 H2 f2 hvs => q (v :: vs) G2 H2 f2 (.cons (fun G' s => hv' G' (f2.g.trans s)) hvs)
theorem dq_of_args {G : Hp} : ∀ {ds : List PyData} {vs : List V}, ArgsOk G (ds.map .dat) vs → DqAll G vs ds
  | [], _, .nil => .nil
  | _ :: _, _, .cons h t => .cons h (dq_of_args t)
theorem small_of {n : Nat} (h : n ≤ 16000000) : n ≤ sizeLine := Nat.le_trans h (by decide)
theorem ed_tup {j : Nat} (h : EA X δ es (ds.map .dat)) (hl : ds.length ≤ 16000000 := by exact Nat.le_of_ble_eq_true rfl) : ED X δ (.Tuple es j pos) (.tuple ds) := fun G0 H0 σ G H r Q q =>
  ⟨tTup (uA X es), fun i => pe_tup (uA_ok i), h G0 H0 σ G H r _ fun vs G1 H1 f1 hvs => by
    have hd := dq_of_args hvs
    refine ⟨small_of (by rw [hd.length]; exact hl), fun p hp => ?_⟩
    have f2 := Fx.new f1.s hp (.tup vs)
    exact q _ _ _ (f1.trans f2) (.tup upd_same (DqAll.mono f2.g ds vs hd))⟩
theorem el_lst (h : EA X δ es (ds.map .dat)) (hl : ds.length ≤ 16000000 := by exact Nat.le_of_ble_eq_true rfl) : EL X δ (.List es pos) ds := fun G0 H0 σ G H r Q q =>
  ⟨tLst (uA X es), fun i => pe_lst (uA_ok i), h G0 H0 σ G H r _ fun vs G1 H1 f1 hvs => by
    have hd := dq_of_args hvs
    refine ⟨small_of (by rw [hd.length]; exact hl), fun p hp => ?_⟩
    have f2 := Fx.lay f1.s hp (.lst vs)
    exact q p vs G1 _ (f1.trans f2) (f1.h.free hp) upd_same (f1.s.free hp) hd⟩

/-! ### operators on values -/
/-- two operands, by their values -/
theorem ed_op {op : Operator} {r : R2} (ho : ∀ i, OpR (X i) (binaryOp op) r) (ha : ED X δ a d1) (hb : ED X δ b d2)
    (hr : ∀ v u G H, Same G H → Dq G v d1 → Dq G u d2 → ∀ Q : VK, (∀ z G' H', Fx G H G' H' → Dq G' z d → Q z H') → r v u H Q) : ED X δ (.BinOp a op b pos) d := fun G0 H0 σ G H rp Q q =>
  ⟨tOp r (uE X a) (uE X b), fun i => pe_op (ho i) (uE_ok i) (uE_ok i), ha G0 H0 σ G H rp _ fun v G1 H1 f1 hv => hb G0 H0 σ G1 H1 (rp.go f1) _ fun u G2 H2 f2 hu =>
    hr v u G2 H2 f2.s (Dq.mono f2.g _ v hv) hu Q fun z G3 H3 f3 hz => q z G3 H3 ((f1.trans f2).trans f3) hz⟩
theorem ed_add {i j : Int} (ha : ED X δ a (.int i)) (hb : ED X δ b (.int j)) : ED X δ (.BinOp a .Add b pos) (.int (i + j)) :=
  ed_op (fun _ => op_add) ha hb fun v u G H s hv hu Q q => by
    cases hv
    cases hu
    exact ⟨i, j, rfl, rfl, q _ G H (Fx.refl s) (.int _)⟩
theorem ed_sub {i j : Int} (ha : ED X δ a (.int i)) (hb : ED X δ b (.int j)) : ED X δ (.BinOp a .Sub b pos) (.int (i - j)) :=
  ed_op (fun _ => op_sub) ha hb fun v u G H s hv hu Q q => by
    cases hv
    cases hu
    exact ⟨i, j, rfl, rfl, q _ G H (Fx.refl s) (.int _)⟩
theorem ed_mul {i j : Int} (ha : ED X δ a (.int i)) (hb : ED X δ b (.int j)) (hc : CMulW i j) : ED X δ (.BinOp a .Mult b pos) (.int (i * j)) :=
  ed_op (fun _ => op_mulW) ha hb fun v u G H s hv hu Q q => by
    cases hv
    cases hu
    exact ⟨i, j, rfl, rfl, hc, q _ G H (Fx.refl s) (.int _)⟩
/-- a product by a small number -/
theorem ed_mulS {i j : Int} (ha : ED X δ a (.int i)) (hb : ED X δ b (.int j)) (hc : CMul i j) : ED X δ (.BinOp a .Mult b pos) (.int (i * j)) :=
  ed_op (fun _ => op_mul) ha hb fun v u G H s hv hu Q q => by
    cases hv
    cases hu
    exact ⟨i, j, rfl, rfl, hc, q _ G H (Fx.refl s) (.int _)⟩
theorem ed_mod {i j : Int} (ha : ED X δ a (.int i)) (hb : ED X δ b (.int j)) (hc : 0 < j) : ED X δ (.BinOp a .Mod b pos) (.int (i % j)) :=
  ed_op (fun _ => op_mod) ha hb fun v u G H s hv hu Q q => by
    cases hv
    cases hu
    exact ⟨i, j, rfl, rfl, hc, q _ G H (Fx.refl s) (.int _)⟩
theorem ed_div {i j : Int} (ha : ED X δ a (.int i)) (hb : ED X δ b (.int j)) (hc : CDivW i j) : ED X δ (.BinOp a .FloorDiv b pos) (.int (i / j)) :=
  ed_op (fun _ => op_fdivW) ha hb fun v u G H s hv hu Q q => by
    cases hv
    cases hu
    exact ⟨i, j, rfl, rfl, hc, q _ G H (Fx.refl s) (.int _)⟩
theorem ed_pow {i j : Int} (ha : ED X δ a (.int i)) (hb : ED X δ b (.int j)) (hc : CPow i j) : ED X δ (.BinOp a .Pow b pos) (.int (i ^ j.toNat)) :=
  ed_op (fun _ => op_pow) ha hb fun v u G H s hv hu Q q => by
    cases hv
    cases hu
    exact ⟨i, j, rfl, rfl, hc, q _ G H (Fx.refl s) (.int _)⟩
theorem ed_cat {i j : Str} (ha : ED X δ a (.str i)) (hb : ED X δ b (.str j)) (hc : i.length + j.length ≤ 16000000) : ED X δ (.BinOp a .Add b pos) (.str (i ++ j)) :=
  ed_op (fun _ => op_add_str) ha hb fun v u G H s hv hu Q q => by
    cases hv
    cases hu
    exact ⟨i, j, rfl, rfl, small_of hc, q _ G H (Fx.refl s) (.str _)⟩
theorem ed_neg {i : Int} (ha : ED X δ a (.int i)) : ED X δ (.UnaryOp .USub a pos) (.int (-i)) := fun G0 H0 σ G H rp Q q =>
  ⟨tUn _ (uE X a), fun i => pe_un un_neg (uE_ok i), ha G0 H0 σ G H rp _ fun v G1 H1 f1 hv => by
    cases hv
    exact ⟨i, rfl, q _ G1 H1 f1 (.int _)⟩⟩

/-! ### comparisons, tests -/
theorem et_cmp {op : CmpOp} {r : R2} {k : Bool} (ho : ∀ i, OpR (X i) (compareOp op) r) (ha : ED X δ a d1) (hb : ED X δ b d2) (hm : behindInMarks op b = false)
    (hr : ∀ v u G H, Same G H → Dq G v d1 → Dq G u d2 → ∀ Q : VK, Q (.bl k) H → r v u H Q) : ET X δ (.Compare a [op] [b] pos) k := fun G0 H0 σ G H rp Q q =>
  ⟨tTest (tOp r (uE X a) (uE X b)), fun i => pt_cmpR (ho i) (uE_ok i) (uE_ok i) hm, ha G0 H0 σ G H rp _ fun v G1 H1 f1 hv => hb G0 H0 σ G1 H1 (rp.go f1) _ fun u G2 H2 f2 hu =>
    hr v u G2 H2 f2.s (Dq.mono f2.g _ v hv) hu _ ⟨k, rfl, q G2 H2 (f1.trans f2)⟩⟩
theorem ed_cmp {op : CmpOp} {r : R2} {k : Bool} (ho : ∀ i, OpR (X i) (compareOp op) r) (ha : ED X δ a d1) (hb : ED X δ b d2) (hm : behindInMarks op b = false)
    (hr : ∀ v u G H, Same G H → Dq G v d1 → Dq G u d2 → ∀ Q : VK, Q (.bl k) H → r v u H Q) : ED X δ (.Compare a [op] [b] pos) (.bool k) := fun G0 H0 σ G H rp Q q =>
  ⟨tOp r (uE X a) (uE X b), fun i => pe_cmpR (ho i) (uE_ok i) (uE_ok i) hm, ha G0 H0 σ G H rp _ fun v G1 H1 f1 hv => hb G0 H0 σ G1 H1 (rp.go f1) _ fun u G2 H2 f2 hu =>
    hr v u G2 H2 f2.s (Dq.mono f2.g _ v hv) hu _ (q _ G2 H2 (f1.trans f2) (.bl k))⟩
section
variable {i j : Int} {s t : Str}
theorem et_eqI (ha : ED X δ a (.int i)) (hb : ED X δ b (.int j)) : ET X δ (.Compare a [.Eq] [b] pos) (decide (i = j)) := et_cmp (fun _ => op_eq) ha hb (nomark _) fun v u G H s hv hu Q q => by
  cases hv
  cases hu
  exact ⟨rfl, by rw [show decide (V.int i = V.int j) = decide (i = j) from by by_cases h : i = j <;> simp [h]]; exact q⟩
theorem et_neI (ha : ED X δ a (.int i)) (hb : ED X δ b (.int j)) : ET X δ (.Compare a [.NotEq] [b] pos) (!decide (i = j)) := et_cmp (fun _ => op_ne) ha hb (nomark _) fun v u G H s hv hu Q q => by
  cases hv
  cases hu
  exact ⟨rfl, by rw [show decide (V.int i = V.int j) = decide (i = j) from by by_cases h : i = j <;> simp [h]]; exact q⟩
theorem et_eqS (ha : ED X δ a (.str s)) (hb : ED X δ b (.str t)) : ET X δ (.Compare a [.Eq] [b] pos) (decide (s = t)) := et_cmp (fun _ => op_eq) ha hb (nomark _) fun v u G H _ hv hu Q q => by
  cases hv
  cases hu
  exact ⟨rfl, by rw [show decide (V.str s = V.str t) = decide (s = t) from by by_cases h : s = t <;> simp [h]]; exact q⟩
theorem et_neS (ha : ED X δ a (.str s)) (hb : ED X δ b (.str t)) : ET X δ (.Compare a [.NotEq] [b] pos) (!decide (s = t)) := et_cmp (fun _ => op_ne) ha hb (nomark _) fun v u G H _ hv hu Q q => by
  cases hv
  cases hu
  exact ⟨rfl, by rw [show decide (V.str s = V.str t) = decide (s = t) from by by_cases h : s = t <;> simp [h]]; exact q⟩
theorem ed_eqI (ha : ED X δ a (.int i)) (hb : ED X δ b (.int j)) : ED X δ (.Compare a [.Eq] [b] pos) (.bool (decide (i = j))) := ed_cmp (fun _ => op_eq) ha hb (nomark _) fun v u G H s hv hu Q q => by
  cases hv
  cases hu
  exact ⟨rfl, by rw [show decide (V.int i = V.int j) = decide (i = j) from by by_cases h : i = j <;> simp [h]]; exact q⟩
theorem et_lt (ha : ED X δ a (.int i)) (hb : ED X δ b (.int j)) : ET X δ (.Compare a [.Lt] [b] pos) (decide (i < j)) := et_cmp (fun _ => op_lt) ha hb (nomark _) fun v u G H s hv hu Q q => by
  cases hv
  cases hu
  exact ⟨i, j, rfl, rfl, q⟩
theorem et_gt (ha : ED X δ a (.int i)) (hb : ED X δ b (.int j)) : ET X δ (.Compare a [.Gt] [b] pos) (decide (j < i)) := et_cmp (fun _ => op_gt) ha hb (nomark _) fun v u G H s hv hu Q q => by
  cases hv
  cases hu
  exact ⟨i, j, rfl, rfl, q⟩
theorem ed_lt (ha : ED X δ a (.int i)) (hb : ED X δ b (.int j)) : ED X δ (.Compare a [.Lt] [b] pos) (.bool (decide (i < j))) := ed_cmp (fun _ => op_lt) ha hb (nomark _) fun v u G H s hv hu Q q => by
  cases hv
  cases hu
  exact ⟨i, j, rfl, rfl, q⟩
include M
/-- any data, == and != -/
theorem et_eqD (ha : ED X δ a d1) (hb : ED X δ b d2) (s1 : SeqAt.shaped d1 = true) (s2 : SeqAt.shaped d2 = true) : ET X δ (.Compare a [.Eq] [b] pos) (PyData.eqv d1 d2) :=
  et_cmp (r := rEqD K) (fun i => by rw [← M.frag i]; exact op_eqD (M.room i).units) ha hb (nomark _) fun v u G H s hv hu Q q => ⟨d1, d2, Dq.dp _ _ (Dq.mono s _ _ hv), Dq.dp _ _ (Dq.mono s _ _ hu), s1, s2, q⟩
theorem et_neD (ha : ED X δ a d1) (hb : ED X δ b d2) (s1 : SeqAt.shaped d1 = true) (s2 : SeqAt.shaped d2 = true) : ET X δ (.Compare a [.NotEq] [b] pos) (!PyData.eqv d1 d2) :=
  et_cmp (r := rNeD K) (fun i => by rw [← M.frag i]; exact op_neD (M.room i).units) ha hb (nomark _) fun v u G H s hv hu Q q => ⟨d1, d2, Dq.dp _ _ (Dq.mono s _ _ hv), Dq.dp _ _ (Dq.mono s _ _ hu), s1, s2, q⟩
theorem et_isN (ha : ED X δ a d1) : ET X δ (.Compare a [.Is] [.Constant .none 0 p] pos) (match d1 with | .none => true | _ => false) := et_cmp (fun _ => op_isN) ha ed_non (nomark _) fun v u G H s hv hu Q q => by
  cases hu
  cases hv <;> exact ⟨rfl, q⟩
end
include M
omit M in
/-- a list is compared to the empty one -/
theorem dp_q {H G : Hp} {p : Addr} {xs : List V} (s : Same G H) (hp : H p = some (.lst xs)) (hd : DqAll G xs ds) : Dp K H (.ref p) (.list ds) := .lst (SqL.of hp) (DqAll.dp _ _ (DqAll.mono s _ _ hd))
theorem et_neNil (ha : EQ X δ a ds) (s1 : SeqAt.shaped (.list ds) = true) : ET X δ (.Compare a [.NotEq] [.List [] p] pos) (!ds.isEmpty) := fun G0 H0 σ G H rp Q q =>
  ⟨tTest (tOp (rNeD K) (uE X a) (tLst tNil)), fun i => by rw [← M.frag i]; exact pt_cmpR (op_neD (M.room i).units) (uE_ok i) (pe_lst pa_nil) (nomark _), ha G0 H0 σ G H rp _ fun p xs G1 H1 f1 hp hd => by
    refine ⟨Nat.zero_le _, fun n hn => ?_⟩
    have f2 := Fx.lay f1.s hn (.lst [])
    refine ⟨.list ds, .list [], dp_q f2.s (f2.h _ _ hp) hd, .lst (SqL.of upd_same) .nil, s1, by decide, _, rfl, ?_⟩
    have e : PyData.eqv (.list ds) (.list []) = ds.isEmpty := by cases ds <;> simp [PyData.eqv, PyData.eqvAll]
    rw [e]
    exact q _ _ (f1.trans f2)⟩
theorem et_eqNil (ha : EQ X δ a ds) (s1 : SeqAt.shaped (.list ds) = true) : ET X δ (.Compare a [.Eq] [.List [] p] pos) ds.isEmpty := fun G0 H0 σ G H rp Q q =>
  ⟨tTest (tOp (rEqD K) (uE X a) (tLst tNil)), fun i => by rw [← M.frag i]; exact pt_cmpR (op_eqD (M.room i).units) (uE_ok i) (pe_lst pa_nil) (nomark _), ha G0 H0 σ G H rp _ fun p xs G1 H1 f1 hp hd => by
    refine ⟨Nat.zero_le _, fun n hn => ?_⟩
    have f2 := Fx.lay f1.s hn (.lst [])
    refine ⟨.list ds, .list [], dp_q f2.s (f2.h _ _ hp) hd, .lst (SqL.of upd_same) .nil, s1, by decide, _, rfl, ?_⟩
    have e : PyData.eqv (.list ds) (.list []) = ds.isEmpty := by cases ds <;> simp [PyData.eqv, PyData.eqvAll]
    rw [e]
    exact q _ _ (f1.trans f2)⟩
omit M in
/-- x in xs -/
theorem hu65 {A : Around} {k : Nat} (r : Room k A) : A.units + 65 < cLine := by have := r.un; omega
theorem et_in (ha : ED X δ a d) (hb : EQ X δ b ds) (s1 : SeqAt.shaped d = true) (s2 : SeqAt.shaped (.list ds) = true) (hm : behindInMarks .In b = false := by rfl) : ET X δ (.Compare a [.In] [b] pos) (ds.any fun z => PyData.eqv z d) := fun G0 H0 σ G H rp Q q =>
  ⟨tTest (tOp (rInD K) (uE X a) (uE X b)), fun i => by rw [← M.frag i]; exact pt_cmpR (op_inD (hu65 (M.room i))) (uE_ok i) (uE_ok i) hm, ha G0 H0 σ G H rp _ fun v G1 H1 f1 hv => hb G0 H0 σ G1 H1 (rp.go f1) _ fun p xs G2 H2 f2 hp hd =>
    ⟨d, ds, Dq.dp _ _ (Dq.mono (f2.g.trans f2.s) _ _ hv), dp_q f2.s hp hd, s1, s2, _, rfl, q _ _ (f1.trans f2)⟩⟩
theorem et_notIn (ha : ED X δ a d) (hb : EQ X δ b ds) (s1 : SeqAt.shaped d = true) (s2 : SeqAt.shaped (.list ds) = true) (hm : behindInMarks .NotIn b = false := by rfl) : ET X δ (.Compare a [.NotIn] [b] pos) (!ds.any fun z => PyData.eqv z d) := fun G0 H0 σ G H rp Q q =>
  ⟨tTest (tOp (rNotInD K) (uE X a) (uE X b)), fun i => by rw [← M.frag i]; exact pt_cmpR (op_notInD (hu65 (M.room i))) (uE_ok i) (uE_ok i) hm, ha G0 H0 σ G H rp _ fun v G1 H1 f1 hv => hb G0 H0 σ G1 H1 (rp.go f1) _ fun p xs G2 H2 f2 hp hd =>
    ⟨d, ds, Dq.dp _ _ (Dq.mono (f2.g.trans f2.s) _ _ hv), dp_q f2.s hp hd, s1, s2, _, rfl, q _ _ (f1.trans f2)⟩⟩
omit M in
/-- a truth as a test; tests joined -/
theorem et_val {k : Bool} (ha : ED X δ a (.bool k)) (he : ∀ i whole, isTrue a (X i).env whole = (do let v ← whole; standAt a.pos; holding [v] (truthy v)) := by intro _ _; rfl) : ET X δ a k := fun G0 H0 σ G H rp Q q =>
  ⟨tB (uE X a), fun i => pt_val (uE_ok i) (he i), ha G0 H0 σ G H rp _ fun v G1 H1 f1 hv => by
    cases hv
    exact ⟨k, rfl, q _ _ f1⟩⟩
theorem et_not {k : Bool} (ha : ET X δ a k) : ET X δ (.UnaryOp .Not a pos) (!k) := fun G0 H0 σ G H rp Q q => ⟨tNot (uT X a), fun i => pt_not (uT_ok i), ha G0 H0 σ G H rp _ fun G1 H1 f1 => q _ _ f1⟩
omit M in
theorem EW.t {k : Bool} (h : EW X δ a k) : ET X δ a k := fun G0 H0 σ G H rp Q q => ⟨uW X a, fun i => (uW_ok i).pt, h G0 H0 σ G H rp Q q⟩
omit M in
theorem ew_and1 {k : Bool} (h : ET X δ a k) : EW X δ (.BoolOp .And [a] pos) k := fun G0 H0 σ G H rp Q q => ⟨uT X a, fun i => pw_and1 (uT_ok i), h G0 H0 σ G H rp Q q⟩
omit M in
theorem ew_or1 {k : Bool} (h : ET X δ a k) : EW X δ (.BoolOp .Or [a] pos) k := fun G0 H0 σ G H rp Q q => ⟨uT X a, fun i => pw_or1 (uT_ok i), h G0 H0 σ G H rp Q q⟩
omit M in
theorem ew_and {k l : Bool} (h : ET X δ a k) (h2 : k = true → EW X δ (.BoolOp .And (b :: es) pos) l) : EW X δ (.BoolOp .And (a :: b :: es) pos) (k && l) := fun G0 H0 σ G H rp Q q =>
  ⟨tAnd (uT X a) (uW X _), fun i => pw_and (uT_ok i) (uW_ok i), h G0 H0 σ G H rp _ fun G1 H1 f1 => by
    cases k with
    | false => exact q G1 H1 f1
    | true => exact h2 rfl G0 H0 σ G1 H1 (rp.go f1) _ fun G2 H2 f2 => q G2 H2 (f1.trans f2)⟩
omit M in
theorem ew_or {k l : Bool} (h : ET X δ a k) (h2 : k = false → EW X δ (.BoolOp .Or (b :: es) pos) l) : EW X δ (.BoolOp .Or (a :: b :: es) pos) (k || l) := fun G0 H0 σ G H rp Q q =>
  ⟨tOr (uT X a) (uW X _), fun i => pw_or (uT_ok i) (uW_ok i), h G0 H0 σ G H rp _ fun G1 H1 f1 => by
    cases k with
    | true => exact q G1 H1 f1
    | false => exact h2 rfl G0 H0 σ G1 H1 (rp.go f1) _ fun G2 H2 f2 => q G2 H2 (f1.trans f2)⟩
omit M in
/-- the same as values -/
theorem ed_not {k : Bool} (ha : ED X δ a (.bool k)) : ED X δ (.UnaryOp .Not a pos) (.bool (!k)) := fun G0 H0 σ G H rp Q q => ⟨tNotV (uE X a), fun i => pe_not (uE_ok i), ha G0 H0 σ G H rp _ fun v G1 H1 f1 hv => by
  cases hv
  exact ⟨k, rfl, q _ _ _ f1 (.bl _)⟩⟩
omit M in
theorem ed_one {op : BoolOp} (h : ED X δ a d) : ED X δ (.BoolOp op [a] pos) d := fun G0 H0 σ G H rp Q q => ⟨uE X a, fun i => pe_one (uE_ok i), h G0 H0 σ G H rp Q q⟩
omit M in
theorem ed_and {k l : Bool} (h : ED X δ a (.bool k)) (h2 : k = true → ED X δ (.BoolOp .And (b :: es) pos) (.bool l)) : ED X δ (.BoolOp .And (a :: b :: es) pos) (.bool (k && l)) := fun G0 H0 σ G H rp Q q =>
  ⟨tAndV (uE X a) (uE X _), fun i => pe_and (uE_ok i) (uE_ok i), h G0 H0 σ G H rp _ fun v G1 H1 f1 hv => by
    cases hv
    refine ⟨k, rfl, ?_⟩
    cases k with
    | false => exact q _ G1 H1 f1 (.bl _)
    | true => exact h2 rfl G0 H0 σ G1 H1 (rp.go f1) _ fun v G2 H2 f2 hv => q v G2 H2 (f1.trans f2) hv⟩

/-! ### items, lengths, slices -/
omit M in
theorem atI_map {α β : Type} (f : α → β) (xs : List α) (i : Int) : atI (xs.map f) i = (atI xs i).map f := by
  unfold atI
  rw [List.length_map]
  cases ixN xs.length i with
  | none => rfl
  | some j => simp
omit M in
theorem atI_dq {G : Hp} {xs : List V} {i : Int} (h : DqAll G xs ds) (e : atI ds i = some d) : ∃ v, atI xs i = some v ∧ Dq G v d := by
  unfold atI at e ⊢
  rw [h.length]
  cases q : ixN ds.length i with
  | none =>
    rw [q] at e
    cases e
  | some j =>
    rw [q] at e
    exact h.get e
theorem ed_ixT {i : Int} (ha : ED X δ a (.tuple ds)) (hb : ED X δ b (.int i)) (e : atI ds i = some d := by rfl) (hs : PlainIx b := by exact fun _ _ => rfl) : ED X δ (.Subscript a b pos) d := fun G0 H0 σ G H rp Q q =>
  ⟨tOp (rIxT K) (uE X a) (uE X b), fun i => by rw [← M.frag i]; exact pe_ix ix_tup (uE_ok i) (uE_ok i) hs, ha G0 H0 σ G H rp _ fun v G1 H1 f1 hv => hb G0 H0 σ G1 H1 (rp.go f1) _ fun u G2 H2 f2 hu => by
    cases hu
    cases hv with
    | tup h1 h2 =>
      obtain ⟨z, ez, hz⟩ := atI_dq (DqAll.mono f2.g _ _ h2) e
      exact ⟨_, _, i, z, rfl, rfl, SqT.of (f2.s _ _ (f2.g _ _ h1)), ez, q z G2 H2 (f1.trans f2) hz⟩⟩
theorem ed_ixL {i : Int} (ha : EQ X δ a ds) (hb : ED X δ b (.int i)) (e : atI ds i = some d := by rfl) (hs : PlainIx b := by exact fun _ _ => rfl) : ED X δ (.Subscript a b pos) d := fun G0 H0 σ G H rp Q q =>
  ⟨tOp (rIxL K) (uE X a) (uE X b), fun i => by rw [← M.frag i]; exact pe_ix ix_list (uE_ok i) (uE_ok i) hs, ha G0 H0 σ G H rp _ fun p xs G1 H1 f1 hp hd => hb G0 H0 σ G1 H1 (rp.go f1) _ fun u G2 H2 f2 hu => by
    cases hu
    obtain ⟨z, ez, hz⟩ := atI_dq (DqAll.mono f2.g _ _ hd) e
    exact ⟨_, _, i, z, rfl, rfl, SqL.of (f2.h _ _ hp), ez, q z G2 H2 (f1.trans f2) hz⟩⟩
omit M in
theorem ed_ixS {i : Int} {s : Str} {n : Nat} (ha : ED X δ a (.str s)) (hb : ED X δ b (.int i)) (hl : s.length ≤ 16000000) (e : atI s.cps.toList i = some n) (hs : PlainIx b := by exact fun _ _ => rfl) : ED X δ (.Subscript a b pos) (.str ⟨#[n]⟩) := fun G0 H0 σ G H rp Q q =>
  ⟨tOp rIxS (uE X a) (uE X b), fun i => pe_ix ix_str (uE_ok i) (uE_ok i) hs, ha G0 H0 σ G H rp _ fun v G1 H1 f1 hv => hb G0 H0 σ G1 H1 (rp.go f1) _ fun u G2 H2 f2 hu => by
    cases hu
    cases hv
    exact ⟨s, i, n, rfl, rfl, small_of hl, e, q _ G2 H2 (f1.trans f2) (.str _)⟩⟩
omit M in
theorem boot_len' : bootBuiltins "len" = some (.builtin "len") := PySem.boot_len
theorem ed_lenL (ha : EQ X δ a ds) (hm : mg "len" = none) (hg : ∀ i, Gl (X i) "len" := by intro _; rfl) (hs : ∀ i, starEach [a] (X i).env = [(false, eval a (X i).env)] := by intro _; rfl) : ED X δ (.Call (.Name "len" p) [a] [] pos) (.int ds.length) := fun G0 H0 σ G H rp Q q =>
  ⟨tCB _ (tCons (uE X a) tNil), fun i => pe_callB (r := fun xs H Q => ∃ p ys, xs = [V.ref p] ∧ (SqL K H p ys ∨ SqT K H p ys) ∧ Q (.int ys.length) H) (by rw [← M.frag i]; exact call_len_seq) (hg i) (by rw [M.glob i]; exact hm) boot_len' (pa_cons (uE_ok i) pa_nil (hs i)) (by decide) (by decide) (hs i) rfl,
    ha G0 H0 σ G H rp _ fun p xs G1 H1 f1 hp hd => ⟨p, xs, rfl, .inl (SqL.of hp), by rw [hd.length]; exact q _ _ _ f1 (.int _)⟩⟩
theorem ed_lenT (ha : ED X δ a (.tuple ds)) (hm : mg "len" = none) (hg : ∀ i, Gl (X i) "len" := by intro _; rfl) (hs : ∀ i, starEach [a] (X i).env = [(false, eval a (X i).env)] := by intro _; rfl) : ED X δ (.Call (.Name "len" p) [a] [] pos) (.int ds.length) := fun G0 H0 σ G H rp Q q =>
  ⟨tCB _ (tCons (uE X a) tNil), fun i => pe_callB (r := fun xs H Q => ∃ p ys, xs = [V.ref p] ∧ (SqL K H p ys ∨ SqT K H p ys) ∧ Q (.int ys.length) H) (by rw [← M.frag i]; exact call_len_seq) (hg i) (by rw [M.glob i]; exact hm) boot_len' (pa_cons (uE_ok i) pa_nil (hs i)) (by decide) (by decide) (hs i) rfl,
    ha G0 H0 σ G H rp _ fun v G1 H1 f1 hv => by
      cases hv with
      | tup h1 h2 => exact ⟨_, _, rfl, .inr (SqT.of (f1.s _ _ h1)), by rw [h2.length]; exact q _ _ _ f1 (.int _)⟩⟩
omit M in
theorem eo_none : EO X δ none none := fun G0 H0 σ G H rp Q q => ⟨tNoPart, fun i => po_none, q _ _ (Fx.refl rp.fx.s)⟩
omit M in
theorem eo_some {i : Int} (h : ED X δ a (.int i)) : EO X δ (some a) (some i) := fun G0 H0 σ G H rp Q q => ⟨tPart (uE X a), fun i => po_some (uE_ok i), h G0 H0 σ G H rp _ fun v G1 H1 f1 hv => by
  cases hv
  exact ⟨i, rfl, q _ _ f1⟩⟩
/-- xs[lo:hi], over data -/
def cutD (xs : List PyData) (lo hi : Option Int) : List PyData := (xs.drop (HT.sIx xs.length 0 lo)).take (HT.sIx xs.length xs.length hi - HT.sIx xs.length 0 lo)
omit M in
theorem cut_dq {G : Hp} {xs : List V} (h : DqAll G xs ds) (lo hi : Option Int) : DqAll G (cutV xs lo hi) (cutD ds lo hi) := by
  unfold cutV cutD
  rw [h.length]
  exact (h.drop _).take _
theorem el_slice {lo hi : Option Expr} {l u : Option Int} {p2 : Pos} (ha : EQ X δ a ds) (hl : EO X δ lo l) (hu : EO X δ hi u) : EL X δ (.Subscript a (.Slice lo hi none p2) pos) (cutD ds l u) := fun G0 H0 σ G H rp Q q =>
  ⟨tSl (rSlL K) (uE X a) (uO X lo) (uO X hi), fun i => by rw [← M.frag i]; exact pe_slice sl_list (uE_ok i) (uO_ok i) (uO_ok i), ha G0 H0 σ G H rp _ fun p xs G1 H1 f1 hp hd => hl G0 H0 σ G1 H1 (rp.go f1) _ fun G2 H2 f2 =>
    hu G0 H0 σ G2 H2 ((rp.go f1).go f2) _ fun G3 H3 f3 => by
      refine ⟨p, xs, rfl, SqL.of (f3.h _ _ (f2.h _ _ hp)), fun n hn => ?_⟩
      have f4 := Fx.lay f3.s hn (.lst (cutV xs l u))
      exact q n _ G3 _ (((f1.trans f2).trans f3).trans f4) (f1.h.free (f2.h.free (f3.h.free hn))) upd_same (f3.s.free hn) (cut_dq (DqAll.mono (f2.g.trans f3.g) _ _ hd) l u)⟩
theorem ed_sliceT {lo hi : Option Expr} {l u : Option Int} {p2 : Pos} (ha : ED X δ a (.tuple ds)) (hl : EO X δ lo l) (hu : EO X δ hi u) : ED X δ (.Subscript a (.Slice lo hi none p2) pos) (.tuple (cutD ds l u)) := fun G0 H0 σ G H rp Q q =>
  ⟨tSl (rSlA K) (uE X a) (uO X lo) (uO X hi), fun i => by rw [← M.frag i]; exact pe_slice sl_tupA (uE_ok i) (uO_ok i) (uO_ok i), ha G0 H0 σ G H rp _ fun v G1 H1 f1 hv => hl G0 H0 σ G1 H1 (rp.go f1) _ fun G2 H2 f2 =>
    hu G0 H0 σ G2 H2 ((rp.go f1).go f2) _ fun G3 H3 f3 => by
      cases hv with
      | @tup p xs _ h1 h2 =>
        have h3 := f3.g _ _ (f2.g _ _ h1)
        have h4 := DqAll.mono (f2.g.trans f3.g) _ _ h2
        refine ⟨p, xs, rfl, SqT.of (f3.s _ _ h3), fun whole => ?_, fun part n hn => ?_⟩
        · refine q _ G3 H3 ((f1.trans f2).trans f3) (.tup h3 ?_)
          have e : cutD ds l u = ds := by
            unfold cutD
            rw [← h4.length, whole.1, whole.2, h4.length]
            simp
          rw [e]
          exact h4
        · have f4 := Fx.new f3.s hn (.tup (cutV xs l u))
          exact q _ _ _ (((f1.trans f2).trans f3).trans f4) (.tup upd_same (DqAll.mono f4.g _ _ (cut_dq h4 l u)))⟩
omit M in
/-- xs + ys, lists; t + u, tuples -/
theorem el_cat {es' : List PyData} (ha : EQ X δ a ds) (hb : EQ X δ b es') (hl : ds.length + es'.length ≤ 16000000) : EL X δ (.BinOp a .Add b pos) (ds ++ es') := fun G0 H0 σ G H rp Q q =>
  ⟨tOp rCat (uE X a) (uE X b), fun i => pe_op op_cat (uE_ok i) (uE_ok i), ha G0 H0 σ G H rp _ fun p xs G1 H1 f1 hp hd => hb G0 H0 σ G1 H1 (rp.go f1) _ fun p' ys G2 H2 f2 hp' hd' => by
    refine ⟨p, p', xs, ys, rfl, rfl, f2.h _ _ hp, hp', small_of (by rw [hd.length, hd'.length]; exact hl), fun n hn => ?_⟩
    have f3 := Fx.lay f2.s hn (.lst (xs ++ ys))
    exact q n _ G2 _ ((f1.trans f2).trans f3) (f1.h.free (f2.h.free hn)) upd_same (f2.s.free hn) ((DqAll.mono f2.g _ _ hd).append hd')⟩
theorem ed_catT {es' : List PyData} (ha : ED X δ a (.tuple ds)) (hb : ED X δ b (.tuple es')) (hl : ds.length + es'.length ≤ 16000000) : ED X δ (.BinOp a .Add b pos) (.tuple (ds ++ es')) := fun G0 H0 σ G H rp Q q =>
  ⟨tOp (rCatA K) (uE X a) (uE X b), fun i => by rw [← M.frag i]; exact pe_op op_catA (uE_ok i) (uE_ok i), ha G0 H0 σ G H rp _ fun v G1 H1 f1 hv => hb G0 H0 σ G1 H1 (rp.go f1) _ fun u G2 H2 f2 hu => by
    cases hv with
    | @tup p xs _ h1 h2 =>
      cases hu with
      | @tup p' ys _ h3 h4 =>
        have h5 := DqAll.mono f2.g _ _ h2
        refine ⟨p, p', xs, ys, rfl, rfl, SqT.of (f2.s _ _ (f2.g _ _ h1)), SqT.of (f2.s _ _ h3), small_of (by rw [h2.length, h4.length]; exact hl), fun e => ?_, fun _ e => ?_, fun _ _ n hn => ?_⟩
        · subst e
          cases h5
          exact q _ G2 H2 (f1.trans f2) (.tup h3 h4)
        · subst e
          cases h4
          rw [List.append_nil] at q
          exact q _ G2 H2 (f1.trans f2) (.tup (f2.g _ _ h1) h5)
        · have f3 := Fx.new f2.s hn (.tup (xs ++ ys))
          exact q _ _ _ ((f1.trans f2).trans f3) (.tup upd_same (DqAll.mono f3.g _ _ (h5.append h4)))⟩
end
end DL

namespace DL
open PySem L2

/-! ### what a def promises, as data -/
inductive Rs where
  | dat (d : PyData)
  | lst (ds : List PyData)
def RsOk (H G' H' : Hp) : Rs → V → Prop
  | .dat d, v => Dq G' v d
  | .lst ds, v => ∃ p xs, v = .ref p ∧ H p = none ∧ H' p = some (.lst xs) ∧ G' p = none ∧ DqAll G' xs ds
def SpR (R : List Sl → Rs → Prop) : Sp := fun vs H Q _ => ∃ (G : Hp) (as : List Sl) (r : Rs), Same G H ∧ ArgsOk G as vs ∧ R as r ∧ ∀ v G' H', Fx G H G' H' → RsOk H G' H' r v → Q v H'
structure Df (P : Program) (w : World) (K : PySem.W.Frag) (mg : Str → Option Value) (base : Heap) (x : Str) (k : Nat) (ps : List Str) (R : List Sl → Rs → Prop) : Prop where
  ex : ∃ (f : Addr) (fd : FuncData), FnOk P w K mg base CX0 k f fd ps (SpR R) ∧ mg x = some (.ref f) ∧ PySem.W.keepIn K (.ref f) = true ∧ Binds K fd ps []
/-- a method, of the class at C -/
structure Dm (P : Program) (w : World) (K : PySem.W.Frag) (mg : Str → Option Value) (base : Heap) (C : Addr) (m : Str) (k : Nat) (ps : List Str) (R : List Sl → Rs → Prop) : Prop where
  ex : ∃ (f : Addr) (fd : FuncData), FnOk P w K mg base CX0 k f fd ps (SpR R) ∧ Meth K C m f ∧ Binds K fd ps []

section
variable {ι : Type} {X : ι → Cx} {δ : DEnv} {P : Program} {w : World} {K : PySem.W.Frag} {mg : Str → Option Value} {base : Heap} {k kk : Nat} [M : Fm X P w K mg base k] {e a b c : Expr} {es : List Expr} {d d1 d2 : PyData} {ds : List PyData} {pos p apos : Pos} {x m : Str} {ps : List Str} {R : List Sl → Rs → Prop} {as : List Sl} {rs : Rs}
theorem Fm.fn (M : Fm X P w K mg base k) {f : Addr} {fd : FuncData} {sp : Sp} (F : FnOk P w K mg base CX0 kk f fd ps sp) (i : ι) : FnOk (X i).prog (X i).w (X i).K (X i).mg (X i).base CX0 kk f fd ps sp := by
  rw [M.prog i, M.world i, M.frag i, M.glob i, M.bas i]
  exact F
include M
theorem pe_df (F : Df P w K mg base x kk ps R) (hk : kk ≤ k) (hg : ∀ i, Gl (X i) x) (hs : ∀ i, starEach (e :: es) (X i).env = (false, eval e (X i).env) :: starEach es (X i).env) (hpl : ∀ i, (backTo pos (starEach es (X i).env)).any (·.1) = false)
    (hdb : (x == ("__debug__" : Str)) = false) (i : ι) : PE (X i) (.Call (.Name x p) (e :: es) [] pos) (tCall (SpR R) [] E0 (uA X (e :: es))) := by
  obtain ⟨f, fd, F, h1, h2, h3⟩ := F.ex
  exact pe_call (Fm.fn M F i) ((M.room i).mono hk) (hg i) (by rw [M.glob i]; exact h1) (by rw [M.frag i]; exact h2) (by rw [M.frag i]; exact h3) .nil pass0 (uA_ok i) hdb (hs i) (hpl i)
theorem ed_call (F : Df P w K mg base x kk ps R) (ha : EA X δ (e :: es) as) (hr : R as (.dat d)) (hk : kk ≤ k := by decide) (hg : ∀ i, Gl (X i) x := by intro _; rfl)
    (hs : ∀ i, starEach (e :: es) (X i).env = (false, eval e (X i).env) :: starEach es (X i).env := by intro _; rfl) (hpl : ∀ i, (backTo pos (starEach es (X i).env)).any (·.1) = false := by intro _; rfl)
    (hdb : (x == ("__debug__" : Str)) = false := by decide) : ED X δ (.Call (.Name x p) (e :: es) [] pos) d := fun G0 H0 σ G H rp Q q =>
  ⟨_, pe_df F hk hg hs hpl hdb, ha G0 H0 σ G H rp _ fun vs G1 H1 f1 hv => ⟨G1, as, .dat d, f1.s, by rw [List.append_nil]; exact hv, hr, fun v G2 H2 f2 hq => q v G2 H2 (f1.trans f2) hq⟩⟩
theorem el_call (F : Df P w K mg base x kk ps R) (ha : EA X δ (e :: es) as) (hr : R as (.lst ds)) (hk : kk ≤ k := by decide) (hg : ∀ i, Gl (X i) x := by intro _; rfl)
    (hs : ∀ i, starEach (e :: es) (X i).env = (false, eval e (X i).env) :: starEach es (X i).env := by intro _; rfl) (hpl : ∀ i, (backTo pos (starEach es (X i).env)).any (·.1) = false := by intro _; rfl)
    (hdb : (x == ("__debug__" : Str)) = false := by decide) : EL X δ (.Call (.Name x p) (e :: es) [] pos) ds := fun G0 H0 σ G H rp Q q =>
  ⟨_, pe_df F hk hg hs hpl hdb, ha G0 H0 σ G H rp _ fun vs G1 H1 f1 hv => ⟨G1, as, .lst ds, f1.s, by rw [List.append_nil]; exact hv, hr, fun v G2 H2 f2 hq => by
    obtain ⟨p, xs, rfl, h1, h2, h3, h4⟩ := hq
    exact q p xs G2 H2 (f1.trans f2) (f1.h.free h1) h2 h3 h4⟩⟩
end

/-! ### built-ins with data as arguments -/
section
variable {ι : Type} {X : ι → Cx} {δ : DEnv} {P : Program} {w : World} {K : PySem.W.Frag} {mg : Str → Option Value} {base : Heap} {k kk : Nat} [M : Fm X P w K mg base k] {e a b c : Expr} {es : List Expr} {d d1 d2 : PyData} {ds : List PyData} {pos p apos : Pos} {x m : Str} {id T : String} {r : List V → Hp → VK → Prop}
include M
theorem ed_callB (hc : ∀ i, CallR (X i) (.builtin id) r) (hv : bootBuiltins x = some (.builtin id)) (hm : mg x = none) (ha : EA X δ (e :: es) (ds.map .dat)) (hr : ∀ vs G H, Same G H → DqAll G vs ds → ∀ Q : VK, (∀ z G' H', Fx G H G' H' → Dq G' z d → Q z H') → r vs H Q)
    (hg : ∀ i, Gl (X i) x := by intro _; rfl) (hs : ∀ i, starEach (e :: es) (X i).env = (false, eval e (X i).env) :: starEach es (X i).env := by intro _; rfl) (hpl : ∀ i, (backTo pos (starEach es (X i).env)).any (·.1) = false := by intro _; rfl)
    (hn : x ≠ "__name__" := by decide) (hdb : (x == ("__debug__" : Str)) = false := by decide) : ED X δ (.Call (.Name x p) (e :: es) [] pos) d := fun G0 H0 σ G H rp Q q =>
  ⟨tCB r (uA X (e :: es)), fun i => pe_callB (hc i) (hg i) (by rw [M.glob i]; exact hm) hv (uA_ok i) hn hdb (hs i) (hpl i), ha G0 H0 σ G H rp _ fun vs G1 H1 f1 hv => hr vs G1 H1 f1.s (dq_of_args hv) _ fun z G2 H2 f2 hz => q z G2 H2 (f1.trans f2) hz⟩
theorem ed_callTy (hc : ∀ i, CallR (X i) (.type T) r) (hv : bootBuiltins x = some (.type T)) (hm : mg x = none) (ha : EA X δ (e :: es) (ds.map .dat)) (hr : ∀ vs G H, Same G H → DqAll G vs ds → ∀ Q : VK, (∀ z G' H', Fx G H G' H' → Dq G' z d → Q z H') → r vs H Q)
    (hg : ∀ i, Gl (X i) x := by intro _; rfl) (hs : ∀ i, starEach (e :: es) (X i).env = (false, eval e (X i).env) :: starEach es (X i).env := by intro _; rfl) (hpl : ∀ i, (backTo pos (starEach es (X i).env)).any (·.1) = false := by intro _; rfl)
    (hn : x ≠ "__name__" := by decide) (hdb : (x == ("__debug__" : Str)) = false := by decide) : ED X δ (.Call (.Name x p) (e :: es) [] pos) d := fun G0 H0 σ G H rp Q q =>
  ⟨tCB r (uA X (e :: es)), fun i => pe_callTy (hc i) (hg i) (by rw [M.glob i]; exact hm) hv (uA_ok i) hn hdb (hs i) (hpl i), ha G0 H0 σ G H rp _ fun vs G1 H1 f1 hv => hr vs G1 H1 f1.s (dq_of_args hv) _ fun z G2 H2 f2 hz => q z G2 H2 (f1.trans f2) hz⟩
end

/-! ### targets -/
section
variable {ι : Type} (X : ι → Cx)
/-- storing the data d in a target: the slots ws are changed -/
def GB (δ : DEnv) (tg : Expr) (d : PyData) (δ' : DEnv) (ws : List Nat) : Prop := ∀ (G0 H0 : Hp) (σ : L2.St) (G H : Hp), Rp G0 H0 δ σ G H → ∀ v, Dq G v d → ∀ Q : L2.St → Hp → Prop, (∀ σ', Rp G0 H0 δ' σ' G H → wipe σ' ws = wipe σ ws → Q σ' H) → uG X tg v σ H Q
def GBs (δ : DEnv) (tgs : List Expr) (ds : List PyData) (δ' : DEnv) (ws : List Nat) : Prop := ∀ (G0 H0 : Hp) (σ : L2.St) (G H : Hp), Rp G0 H0 δ σ G H → ∀ vs, DqAll G vs ds → ∀ Q : L2.St → Hp → Prop, (∀ σ', Rp G0 H0 δ' σ' G H → wipe σ' ws = wipe σ ws → Q σ' H) → uGs X tgs vs σ H Q
end
theorem wipe_set {σ : L2.St} {i : Nat} {v : Option V} : ∀ ws : List Nat, (wipe (σ.set i v) ws).set i none = (wipe σ ws).set i none
  | [] => by
    show (σ.set i v).set i none = σ.set i none
    exact List.set_set ..
  | u :: ws => by
    show ((wipe (σ.set i v) ws).set u none).set i none = ((wipe σ ws).set u none).set i none
    by_cases q : u = i
    · rw [q, List.set_set, List.set_set]
      exact wipe_set ws
    · rw [List.set_comm _ _ q, List.set_comm _ _ q, wipe_set ws]
theorem wipe_none {σ : L2.St} {i : Nat} : ∀ {ws : List Nat}, i ∈ ws → (wipe σ ws).set i none = wipe σ ws
  | [], h => by cases h
  | u :: ws, h => by
    show ((wipe σ ws).set u none).set i none = (wipe σ ws).set u none
    by_cases q : u = i
    · rw [q, List.set_set]
    · have h' : i ∈ ws := by
        rcases List.mem_cons.mp h with z | z
        · exact absurd z.symm q
        · exact z
      rw [List.set_comm _ _ q, wipe_none h']
theorem wipe_wipe {σ : L2.St} {ws : List Nat} : ∀ us : List Nat, (∀ u ∈ us, u ∈ ws) → wipe (wipe σ ws) us = wipe σ ws
  | [], _ => rfl
  | u :: us, h => by
    show (wipe (wipe σ ws) us).set u none = wipe σ ws
    rw [wipe_wipe us fun v hv => h v (List.mem_cons_of_mem _ hv)]
    exact wipe_none (h u List.mem_cons_self)
section
variable {ι : Type} {X : ι → Cx} {δ δ' : DEnv} {P : Program} {w : World} {K : PySem.W.Frag} {mg : Str → Option Value} {base : Heap} {k : Nat} [M : Fm X P w K mg base k] {d : PyData} {ds : List PyData} {pos p : Pos} {x : Str} {ws : List Nat}
include M
theorem gb_name (i : Nat) (hi : ∀ j, (X j).N[i]? = some x := by intro _; rfl) (hx : ∀ j, Loc (X j).env.scope x := by intro _; first | exact Or.inl rfl | exact Or.inr rfl) (hf : ∀ j, (X j).fn x = true ∨ (X j).env.scope.names.lookup x = some .local := by intro _; first | exact .inl rfl | exact .inr rfl)
    (hl : i < δ.length := by exact Nat.le_of_ble_eq_true rfl) : GB X δ (.Name x pos) d (δ.set i (some (.dat d))) [i] := fun G0 H0 σ G H rp v hv Q q =>
  ⟨gName i, fun j => pg_name (M.nd j) (hi j) (hx j) (hf j), q _ (rp.set hl hv (fun _ => Sl.noConfusion)) (wipe_set [])⟩
theorem gbs_nil : GBs X δ [] [] δ [] := fun G0 H0 σ G H rp vs hv Q q => by
  cases hv
  exact ⟨gNil, fun j => pgs_nil, rfl, q _ rp rfl⟩
theorem gbs_cons (i : Nat) {tgs : List Expr} (ht : GBs X (δ.set i (some (.dat d))) tgs ds δ' ws) (hi : ∀ j, (X j).N[i]? = some x := by intro _; rfl) (hx : ∀ j, Loc (X j).env.scope x := by intro _; first | exact Or.inl rfl | exact Or.inr rfl) (hf : ∀ j, (X j).fn x = true ∨ (X j).env.scope.names.lookup x = some .local := by intro _; first | exact .inl rfl | exact .inr rfl)
    (hl : i < δ.length := by exact Nat.le_of_ble_eq_true rfl) (hs : ∀ j, (assignEach (.Name x pos :: tgs) (X j).env).map (·.2) = assign (.Name x pos) (X j).env :: (assignEach tgs (X j).env).map (·.2) := by intro _; rfl) : GBs X δ (.Name x pos :: tgs) (d :: ds) δ' (i :: ws) := fun G0 H0 σ G H rp vs hv Q q => by
  cases hv with
  | cons h1 h2 =>
    refine ⟨gCons (gName i) (uGs X tgs), fun j => pgs_cons (pg_name (M.nd j) (hi j) (hx j) (hf j)) (uGs_ok j) (hs j), _, _, rfl, ?_⟩
    exact ht G0 H0 _ G H (rp.set hl h1 (fun _ => Sl.noConfusion)) _ h2 _ fun σ' r' e => q σ' r' (by
      show (wipe σ' ws).set i none = (wipe σ ws).set i none
      rw [e, wipe_set])
theorem gb_tup {tgs : List Expr} {j : Nat} {n : Nat} (h : GBs X δ tgs ds δ' ws) (hd : ds.length = n := by rfl) (hn : ∀ i, (assignEach tgs (X i).env).length = n := by intro _; rfl) (hst : ∀ i, (assignEach tgs (X i).env).findIdx? (·.1) = none := by intro _; rfl) : GB X δ (.Tuple tgs j pos) (.tuple ds) δ' ws := fun G0 H0 σ G H rp v hv Q q => by
  cases hv with
  | tup h1 h2 =>
    exact ⟨gTup K n (uGs X tgs), fun i => by rw [← M.frag i]; exact pg_tup (M.calm i) (uGs_ok i) (hn i) (hst i), _, _, rfl, SqT.of (rp.fx.s _ _ h1), by rw [h2.length, hd], h G0 H0 σ G H rp _ h2 Q q⟩
theorem gb_unl {tgs : List Expr} {j : Nat} {n : Nat} (h : GBs X δ tgs ds δ' ws) (hd : ds.length = n := by rfl) (hn : ∀ i, (assignEach tgs (X i).env).length = n := by intro _; rfl) (hst : ∀ i, (assignEach tgs (X i).env).findIdx? (·.1) = none := by intro _; rfl) : GB X δ (.Tuple tgs j pos) (.list ds) δ' ws := fun G0 H0 σ G H rp v hv Q q => by
  cases hv with
  | lst h1 h2 =>
    exact ⟨gUnl K n (uGs X tgs), fun i => by rw [← M.frag i]; exact pg_unl (M.calm i) (uGs_ok i) (hn i) (hst i), _, _, rfl, SqL.of (rp.fx.s _ _ h1), by rw [h2.length, hd], h G0 H0 σ G H rp _ h2 Q q⟩
end

/-! ### what is walked -/
/-- an iterator that gives the data ds, one behind the other, while G stands -/
structure ItOk (J : It) (G : Hp) (ds : List PyData) : Prop where
  ex : ∃ (Gp : Hp → Prop) (Y : Nat → Hp → V → Hp → Prop), Walk J ds.length Gp Y ∧ (∀ H', Same G H' → Gp H') ∧ ∀ i H' x H'' G', i < ds.length → Same G G' → Same G' H' → Y i H' x H'' → ∃ G'' d, ds[i]? = some d ∧ Fx G' H' G'' H'' ∧ Dq G'' x d
def IS {ι : Type} (X : ι → Cx) (δ : DEnv) (tg iter : Expr) (ds : List PyData) : Prop := ∀ (G0 H0 : Hp) (σ : L2.St) (G H : Hp), Rp G0 H0 δ σ G H → ∀ R : It → Hp → Prop, (∀ J G1 H1, Fx G H G1 H1 → ItOk J G1 ds → R J H1) → uI X tg iter σ H R
section
variable {ι : Type} {X : ι → Cx} {δ δ' : DEnv} {P : Program} {w : World} {K : PySem.W.Frag} {mg : Str → Option Value} {base : Heap} {k : Nat} [M : Fm X P w K mg base k] {e tg : Expr} {d : PyData} {ds : List PyData} {pos p : Pos} {x : Str}
include M
theorem is_list (h : ED X δ e (.list ds)) : IS X δ tg e ds := fun G0 H0 σ G H rp R q =>
  ⟨iList K (uE X e), fun i => by rw [← M.frag i]; exact pi_list (uE_ok i), h G0 H0 σ G H rp _ fun v G1 H1 f1 hv => by
    cases hv with
    | @lst a xs _ h1 h2 =>
      refine ⟨a, rfl, ⟨xs, SqL.of (f1.s _ _ h1)⟩, q _ G1 H1 f1 ⟨⟨_, _, h2.length ▸ walk_list (K := K) (a := a) (xs := xs), fun H' s => SqL.of (s _ _ h1), fun i H' x H'' G' hi s s' y => ?_⟩⟩⟩
      obtain ⟨e, y⟩ := y
      subst e
      obtain ⟨d, hd, hx⟩ := (DqAll.mono s _ _ h2).getV y
      exact ⟨G', d, hd, Fx.refl s', hx⟩⟩
theorem is_tup (h : ED X δ e (.tuple ds)) : IS X δ tg e ds := fun G0 H0 σ G H rp R q =>
  ⟨iTup K (uE X e), fun i => by rw [← M.frag i]; exact pi_tup (uE_ok i), h G0 H0 σ G H rp _ fun v G1 H1 f1 hv => by
    cases hv with
    | @tup a xs _ h1 h2 =>
      refine ⟨a, rfl, ⟨xs, SqT.of (f1.s _ _ h1)⟩, q _ G1 H1 f1 ⟨⟨_, _, h2.length ▸ walk_tup (K := K) (a := a) (xs := xs), fun H' s => SqT.of (s _ _ h1), fun i H' x H'' G' hi s s' y => ?_⟩⟩⟩
      obtain ⟨e, y⟩ := y
      subst e
      obtain ⟨d, hd, hx⟩ := (DqAll.mono s _ _ h2).getV y
      exact ⟨G', d, hd, Fx.refl s', hx⟩⟩
theorem is_range {n : Nat} (h : ED X δ e (.int n)) (hn : n ≤ 16000000) (hm : mg "range" = none) (hg : ∀ i, Gl (X i) "range" := by intro _; rfl) (hs : ∀ i, starEach [e] (X i).env = [(false, eval e (X i).env)] := by intro _; rfl) : IS X δ tg (.Call (.Name "range" p) [e] [] pos) ((List.range n).map fun (j : Nat) => .int (j : Int)) := fun G0 H0 σ G H rp R q =>
  ⟨iRng1 (tCons (uE X e) tNil), fun i => pi_range1 (hg i) (by rw [M.glob i]; exact hm) (pa_cons (uE_ok i) pa_nil (hs i)) (hs i), h G0 H0 σ G H rp _ fun v G1 H1 f1 hv => by
    cases hv
    refine ⟨_, rfl, by omega, by omega, q _ G1 H1 f1 ⟨⟨fun _ => True, YFn fun i => .int (0 + i), ?_, fun _ _ => trivial, fun i H' x H'' G' hi s s' y => ?_⟩⟩⟩
    · have e1 : ((List.range n).map fun (j : Nat) => PyData.int (j : Int)).length = ((n : Nat) : Int).toNat := by simp
      rw [e1]
      exact walk_range
    · obtain ⟨e, y⟩ := y
      subst e y
      have hi' : i < n := by simpa using hi
      refine ⟨G', .int i, by simp [hi'], Fx.refl s', ?_⟩
      show Dq G' (V.int (0 + (i : Int))) (.int i)
      rw [Int.zero_add]
      exact .int _⟩
theorem is_enum {elts : List Expr} {kk : Nat} {tpos : Pos} (h : ED X δ e (.list ds)) (hm : mg "enumerate" = none) (hg : ∀ i, Gl (X i) "enumerate" := by intro _; rfl) (hs : ∀ i, starEach [e] (X i).env = [(false, eval e (X i).env)] := by intro _; rfl) :
    IS X δ (.Tuple elts kk tpos) (.Call (.Name "enumerate" p) [e] [] pos) (ds.zipIdx.map fun z => .tuple [.int z.2, z.1]) := fun G0 H0 σ G H rp R q =>
  ⟨iEnum K (tCons (uE X e) tNil), fun i => by rw [← M.frag i]; exact pi_enum (hg i) (by rw [M.glob i]; exact hm) (pa_cons (uE_ok i) pa_nil (hs i)) (hs i), h G0 H0 σ G H rp _ fun v G1 H1 f1 hv => by
    cases hv with
    | @lst a xs _ h1 h2 =>
      refine ⟨a, xs, rfl, SqL.of (f1.s _ _ h1), q _ G1 H1 f1 ⟨⟨fun H' => SqL K H' a xs, YPair (fun i => some (.int (i : Nat))) (fun i => xs[i]?), ?_, fun H' s => SqL.of (s _ _ h1), fun i H' x H'' G' hi s s' y => ?_⟩⟩⟩
      · have e1 : (ds.zipIdx.map fun z => PyData.tuple [.int z.2, z.1]).length = xs.length := by simp [h2.length]
        rw [e1]
        exact walk_enum (K := K) (a := a)
      · obtain ⟨T, z, u, rfl, hT, rfl, hz, hu⟩ := y
        cases hz
        obtain ⟨d, hd, hx⟩ := (DqAll.mono s _ _ h2).getV hu
        have f2 := Fx.new s' hT (.tup [.int (i : Nat), u])
        refine ⟨_, .tuple [.int i, d], by simp [hd], f2, .tup upd_same (.cons (.int _) (.cons (Dq.mono f2.g _ _ hx) .nil))⟩⟩
end

/-! ### comprehensions -/
def wipeD : DEnv → List Nat → DEnv
  | δ, [] => δ
  | δ, v :: vs => (wipeD δ vs).set v none
theorem wipeD_length {δ : DEnv} : ∀ vs : List Nat, (wipeD δ vs).length = δ.length
  | [] => rfl
  | v :: vs => by
    show ((wipeD δ vs).set v none).length = δ.length
    rw [List.length_set, wipeD_length vs]
theorem wipeD_some {δ : DEnv} {i : Nat} {s : Sl} : ∀ {vs : List Nat}, (wipeD δ vs)[i]? = some (some s) → δ[i]? = some (some s) ∧ i ∉ vs
  | [], h => ⟨h, by simp⟩
  | v :: vs, h => by
    rcases set_eq (show ((wipeD δ vs).set v none)[i]? = some (some s) from h) with ⟨_, q⟩ | ⟨q, h⟩
    · cases q
    · obtain ⟨h1, h2⟩ := wipeD_some h
      exact ⟨h1, by simp only [List.mem_cons, not_or]; exact ⟨q, h2⟩⟩
theorem wipe_out {σ : L2.St} {i : Nat} : ∀ {vs : List Nat}, i ∉ vs → (wipe σ vs)[i]? = σ[i]?
  | [], _ => rfl
  | v :: vs, h => by
    simp only [List.mem_cons, not_or] at h
    show ((wipe σ vs).set v none)[i]? = σ[i]?
    rw [List.getElem?_set_ne (fun z => h.1 z.symm), wipe_out h.2]
theorem Rp.wiped {G0 H0 G H : Hp} {δ : DEnv} {σ : L2.St} (r : Rp G0 H0 δ σ G H) (vs : List Nat) : Rp G0 H0 (wipeD δ vs) (wipe σ vs) G H :=
  r.weak (wipeD_length vs) (wipe_length σ vs) fun i s h => let ⟨h1, h2⟩ := wipeD_some h; ⟨h1, wipe_out h2⟩
def blk {ι : Type} (X : ι → Cx) (scope : Scope) : ι × Shared × Hp × Addr × List (Str × Addr) × List Addr → Cx := fun q => (X q.1).blk q.2.1 q.2.2.1 scope (compEnvC scope q.2.2.2.2.1 q.2.2.2.1 (X q.1).env) q.2.2.2.2.2
instance Fm.blk {ι : Type} {X : ι → Cx} {P : Program} {w : World} {K : PySem.W.Frag} {mg : Str → Option Value} {base : Heap} {k : Nat} [M : Fm X P w K mg base k] {scope : Scope} : Fm (blk X scope) P w K mg base k :=
  ⟨fun q => M.prog q.1, fun q => M.world q.1, fun q => M.frag q.1, fun q => M.glob q.1, fun q => M.bas q.1, fun q => M.calm q.1, fun q => M.room q.1, fun q => M.nd q.1, fun _ => PassesOwn.never⟩
def ETs {ι : Type} (X : ι → Cx) (δ : DEnv) (ifs : List Expr) (b : Bool) : Prop := ∀ (G0 H0 : Hp) (σ : L2.St) (G H : Hp), Rp G0 H0 δ σ G H → ∀ Q : Bool → Hp → Prop, (∀ G' H', Fx G H G' H' → Q b H') → uTs X ifs σ H Q
section
variable {ι : Type} {X : ι → Cx} {δ δ' : DEnv} {a : Expr}
theorem ets_nil : ETs X δ [] true := fun G0 H0 σ G H rp Q q => ⟨tYes, fun _ => pts_nil, q G H (Fx.refl rp.fx.s)⟩
theorem ets_one {b : Bool} (h : ET X δ a b) : ETs X δ [a] b := fun G0 H0 σ G H rp Q q => ⟨uT X a, fun i => pts_one (uT_ok i), h G0 H0 σ G H rp Q q⟩
end
section
variable {ι : Type} {X : ι → Cx} {δ δ' : DEnv} {P : Program} {w : World} {K : PySem.W.Frag} {mg : Str → Option Value} {base : Heap} {k : Nat} [M : Fm X P w K mg base k] {elt tg iter : Expr} {ifs : List Expr} {scope : Scope} {pos : Pos} {α : Type}
/-- what a turn of a comprehension does -/
def LcTurn {ι : Type} (X : ι → Cx) (scope : Scope) (δ : DEnv) (ws : List Nat) (tg : Expr) (ifs : List Expr) (elt : Expr) (d : PyData) (b : Bool) (f : PyData) : Prop :=
  ∃ δ', GB (blk X scope) (wipeD δ ws) tg d δ' ws ∧ ETs (blk X scope) δ' ifs b ∧ (b = true → ED (blk X scope) δ' elt f)
theorem lc_run {ws : List Nat} {xs : List α} {enc : α → PyData} {c : α → Bool} {f : α → PyData} (hi : IS X δ tg iter (xs.map enc)) (hl : xs.length ≤ 16000000) (ht : ∀ x ∈ xs, LcTurn X scope δ ws tg ifs elt (enc x) (c x) (f x))
    {G0 H0 G H : Hp} {σ : L2.St} (rp : Rp G0 H0 δ σ G H) {Q : VK} (q : ∀ p ys G' H', Fx G H G' H' → H p = none → H' p = some (.lst ys) → G' p = none → DqAll G' ys ((xs.filter c).map f) → Q (.ref p) H') :
    tLc (uI X tg iter) (uG (blk X scope) tg) (uTs (blk X scope) ifs) (uE (blk X scope) elt) ws σ H Q := by
  refine hi G0 H0 σ G H rp _ fun J G1 H1 f1 hJ D hD => ?_
  obtain ⟨Gp, Y, wk, hG, hY⟩ := hJ.ex
  rw [List.length_map] at wk
  have gD : G1 D = none := f1.s.free hD
  refine lc_it wk (fun i H2 => ∃ G2 acc, Fx G1 H1 G2 H2 ∧ G2 D = none ∧ H2 D = some (.lst acc) ∧ DqAll G2 acc (((xs.take i).filter c).map f)) ⟨G1, [], Fx.lay f1.s hD _, gD, upd_same, by simp; exact .nil⟩ (fun i H2 _ ⟨G2, _, f2, _⟩ => hG H2 (f2.g.trans f2.s)) ?_ ?_
  · rintro i x H2 H3 hi' ⟨G2, acc, f2, g2, h2, hacc⟩ y
    obtain ⟨G3, d, hd, f3, hx⟩ := hY i H2 x H3 G2 (by rw [List.length_map]; exact hi') f2.g f2.s y
    have hxi : xs[i]? = some xs[i] := List.getElem?_eq_getElem hi'
    rw [List.getElem?_map, hxi] at hd
    cases hd
    obtain ⟨δ', hg, hts, he⟩ := ht xs[i] (List.getElem_mem hi')
    have f13 := f2.trans f3
    have r3 : Rp G0 H0 (wipeD δ ws) (wipe σ ws) G3 H3 := (rp.wiped ws).go (f1.trans f13)
    refine hg G0 H0 _ G3 H3 r3 x hx _ fun σ2 r2 e2 => ⟨?_, ?_⟩
    · rw [e2]
      exact wipe_wipe ws fun u hu => hu
    · refine hts G0 H0 σ2 G3 H3 r2 _ fun G4 H4 f4 => ?_
      have take_succ : xs.take (i + 1) = xs.take i ++ [xs[i]] := by rw [List.take_add_one, hxi] <;> rfl
      cases hc : c xs[i] with
      | false =>
        show ∃ G2 acc, Fx G1 H1 G2 H4 ∧ G2 D = none ∧ H4 D = some (.lst acc) ∧ DqAll G2 acc (((xs.take (i + 1)).filter c).map f)
        have f14 := f3.trans f4
        refine ⟨G4, acc, f2.trans f14, f14.m D g2 (by rw [h2]; exact fun z => nomatch z), f14.h _ _ h2, ?_⟩
        rw [take_succ, List.filter_append]
        have : [xs[i]].filter c = [] := by simp [hc]
        rw [this, List.append_nil]
        exact DqAll.mono f14.g _ _ hacc
      | true =>
        refine he hc G0 H0 σ2 G4 H4 (r2.go f4) _ fun z G5 H5 f5 hz => ?_
        have f15 := (f3.trans f4).trans f5
        have h5 := f15.h _ _ h2
        have g5 := f15.m D g2 (by rw [h2]; exact fun z => nomatch z)
        have hlen : acc.length ≤ i := by
          rw [hacc.length, List.length_map]
          refine Nat.le_trans (List.length_filter_le _ _) ?_
          rw [List.length_take]
          omega
        refine ⟨acc, h5, Nat.lt_of_le_of_lt (Nat.le_trans hlen (by omega : i ≤ 16000000)) (by decide), G5, acc ++ [z], (f2.trans f15).write hD g5, g5, upd_same, ?_⟩
        rw [take_succ, List.filter_append]
        have : [xs[i]].filter c = [xs[i]] := by simp [hc]
        rw [this, List.map_append]
        exact (DqAll.mono f15.g _ _ hacc).append (.cons hz .nil)
  · rintro H2 ⟨G2, acc, f2, g2, h2, hacc⟩
    rw [List.take_length] at hacc
    exact q D acc G2 H2 (f1.trans f2) (f1.h.free hD) h2 g2 hacc
include M
theorem el_lc (own : List (Str × Nat)) {xs : List α} {enc : α → PyData} {c : α → Bool} {f : α → PyData} (hi : IS X δ tg iter (xs.map enc)) (hl : xs.length ≤ 16000000) (ht : ∀ x ∈ xs, LcTurn X scope δ (own.map (·.2)) tg ifs elt (enc x) (c x) (f x))
    (ok : ∀ i, BlkOk (X i).N (X i).env.scope scope own := by intro _; exact blkOk_by (by kernel_rfl)) (hs : ∀ i x, foldedSetIterable iter (X i).env x = pure x := by intro _ _; rfl) : EL X δ (.ListComp elt [⟨tg, iter, ifs, 0⟩] scope pos) ((xs.filter c).map f) := fun G0 H0 σ G H rp Q q =>
  ⟨_, fun i => pe_lc (M.calm i) (M.nd i) (uI_ok i) (ok i) (fun s H C cl fp => uG_ok (X := blk X scope) (i, s, H, C, cl, fp)) (fun s H C cl fp => uTs_ok (X := blk X scope) (i, s, H, C, cl, fp)) (fun s H C cl fp => uE_ok (X := blk X scope) (i, s, H, C, cl, fp)) (hs i), lc_run hi hl ht rp q⟩
end
end DL

namespace DL
open PySem L2

/-! ### statements -/
structure DK where
  nx : DEnv → Prop
  rt : Rs → Prop
  bk : DEnv → Prop := fun _ => False
  ct : DEnv → Prop := fun _ => False
structure Meets (G0 H0 : Hp) (K : DK) (D : Ends) : Prop where
  nx : ∀ (δ : DEnv) (σ : L2.St) (G H : Hp), Rp G0 H0 δ σ G H → K.nx δ → D.nx σ H
  rt : ∀ (r : Rs) (v : V) (G H : Hp), Fx G0 H0 G H → RsOk H0 G H r v → K.rt r → D.rt v H
  bk : ∀ (δ : DEnv) (σ : L2.St) (G H : Hp), Rp G0 H0 δ σ G H → K.bk δ → D.bk σ H
  ct : ∀ (δ : DEnv) (σ : L2.St) (G H : Hp), Rp G0 H0 δ σ G H → K.ct δ → D.ct σ H
section
variable {ι : Type} (X : ι → Cx)
def DS (δ : DEnv) (st : Stmt) (J : DK) : Prop := ∀ (G0 H0 : Hp) (σ : L2.St) (G H : Hp) (D : Ends), Rp G0 H0 δ σ G H → Meets G0 H0 J D → uS X st D σ H
def DB (δ : DEnv) (sts : List Stmt) (J : DK) : Prop := ∀ (G0 H0 : Hp) (σ : L2.St) (G H : Hp) (D : Ends), Rp G0 H0 δ σ G H → Meets G0 H0 J D → uB X sts D σ H
end
/-- a larger frozen part as the beginning -/
theorem Fx.back {G0 H0 G1 H1 G H : Hp} (a : Fx G0 H0 G1 H1) (b : Fx G1 H0 G H) : Fx G0 H0 G H :=
  ⟨a.g.trans b.g, b.h, b.s, fun x e n => b.m x (a.m x e n) n⟩
theorem Rp.back {G0 H0 G1 H1 G H : Hp} {δ : DEnv} {σ : L2.St} (a : Fx G0 H0 G1 H1) (r : Rp G1 H0 δ σ G H) : Rp G0 H0 δ σ G H := ⟨a.back r.fx, r.len, r.sl, r.ap⟩
theorem Rp.base {G0 H0 G H : Hp} {δ : DEnv} {σ : L2.St} (r : Rp G0 H0 δ σ G H) : Rp G H0 δ σ G H :=
  ⟨⟨Same.refl G, r.fx.h, r.fx.s, fun _ e _ => e⟩, r.len, r.sl, r.ap⟩
section
variable {ι : Type} {X : ι → Cx} {δ δ' : DEnv} {P : Program} {w : World} {K : PySem.W.Frag} {mg : Str → Option Value} {base : Heap} {k : Nat} [M : Fm X P w K mg base k] {e c tg iter : Expr} {es : List Expr} {d : PyData} {ds : List PyData} {pos p apos cpos : Pos} {x : Str} {J : DK} {st : Stmt} {rest body orelse : List Stmt} {ws : List Nat}
theorem db_nil (h : J.nx δ) : DB X δ [] J := fun G0 H0 σ G H D r m => ⟨tNext, fun _ => pss_nil, m.nx δ σ G H r h⟩
theorem db_cons (h : DS X δ st { J with nx := fun δ' => DB X δ' rest J }) : DB X δ (st :: rest) J := fun G0 H0 σ G H D r m =>
  ⟨tSeq (uS X st) (uB X rest), fun i => pss_cons (uS_ok i) (uB_ok i), h G0 H0 σ G H { D with nx := uB X rest D } r ⟨fun δ' σ' G' H' r' q => q G0 H0 σ' G' H' D r' m, m.rt, m.bk, m.ct⟩⟩
theorem db_one (h : DS X δ st J) : DB X δ [st] J := fun G0 H0 σ G H D r m => ⟨uS X st, fun i => pss_one (uS_ok i), h G0 H0 σ G H D r m⟩
/-- a list of one's own is frozen from here on -/
theorem db_freeze (i : Nat) (h : DB X (δ.set i (some (.dat (.list ds)))) rest J) (hl : δ[i]? = some (some (.lst ds)) := by rfl) : DB X δ rest J := fun G0 H0 σ G H D r m => by
  obtain ⟨G', r'⟩ := r.freeze hl
  exact h G0 H0 σ G' H D r' m
theorem db_weak (h : DB X δ' rest J) (hl : δ'.length = δ.length) (hs : ∀ (i : Nat) (s : Sl), δ'[i]? = some (some s) → δ[i]? = some (some s)) : DB X δ rest J := fun G0 H0 σ G H D r m =>
  h G0 H0 σ G H D (r.weak hl rfl fun i s q => ⟨hs i s q, rfl⟩) m
theorem ds_pass (k : J.nx δ) : DS X δ (.Pass pos) J := fun G0 H0 σ G H D r m => ⟨tNext, fun _ => ps_pass, m.nx δ σ G H r k⟩
theorem ds_break (k : J.bk δ) : DS X δ (.Break pos) J := fun G0 H0 σ G H D r m => ⟨tBreak, fun _ => ps_break, m.bk δ σ G H r k⟩
theorem ds_continue (k : J.ct δ) : DS X δ (.Continue pos) J := fun G0 H0 σ G H D r m => ⟨tCont, fun _ => ps_continue, m.ct δ σ G H r k⟩
theorem ds_if {b : Bool} (hc : ET X δ c b) (h1 : b = true → DB X δ body J) (h2 : b = false → DB X δ orelse J) : DS X δ (.If c body orelse pos) J := fun G0 H0 σ G H D r m =>
  ⟨tIfS (uT X c) (uB X body) (uB X orelse), fun i => ps_if (uT_ok i) (uB_ok i) (uB_ok i), hc G0 H0 σ G H r _ fun G1 H1 f1 => by
    cases b with
    | true => exact h1 rfl G0 H0 σ G1 H1 D (r.go f1) m
    | false => exact h2 rfl G0 H0 σ G1 H1 D (r.go f1) m⟩
theorem ds_ret (he : ED X δ e d) (k : J.rt (.dat d)) : DS X δ (.Return (some e) pos) J := fun G0 H0 σ G H D r m =>
  ⟨tRet (uE X e), fun i => ps_ret (uE_ok i), he G0 H0 σ G H r _ fun v G1 H1 f1 hv => m.rt (.dat d) v G1 H1 (r.fx.trans f1) hv k⟩
theorem ds_retL (he : EL X δ e ds) (k : J.rt (.lst ds)) : DS X δ (.Return (some e) pos) J := fun G0 H0 σ G H D r m =>
  ⟨tRet (uE X e), fun i => ps_ret (uE_ok i), he G0 H0 σ G H r _ fun p xs G1 H1 f1 h1 h2 h3 h4 => m.rt (.lst ds) _ G1 H1 (r.fx.trans f1) ⟨p, xs, rfl, r.fx.h.free h1, h2, h3, h4⟩ k⟩
theorem ds_retV (i : Nat) (k : J.rt (.lst ds)) (hN : ∀ j, (X j).N[i]? = some x := by intro _; rfl) (hv : ∀ j, Vis (X j).env.scope x := by intro _; first | exact Or.inl rfl | exact Or.inr (Or.inl rfl) | exact Or.inr (Or.inr rfl))
    (hl : δ[i]? = some (some (.lst ds)) := by rfl) (hd : (x == ("__debug__" : Str)) = false := by decide) (hcd : (x == ("__classdict__" : Str)) = false := by decide) : DS X δ (.Return (some (.Name x p)) pos) J := fun G0 H0 σ G H D r m => by
  obtain ⟨v, ev, a, xs, rfl, h1, h2, h3, h4⟩ := r.sl i _ hl
  exact ⟨tRet (tVar i), fun j => ps_ret (pe_var (hN j) (hv j) hd hcd), _, ev, m.rt (.lst ds) _ G H r.fx ⟨a, xs, rfl, h3, h1, h2, h4⟩ k⟩
include M
theorem ds_asg {d : PyData} (he : ED X δ e d) (hg : GB X δ tg d δ' ws) (k : J.nx δ') (hs : ∀ i, swapsWithSole [tg] e pos.line (X i).env = pure false := by intro _; rfl) (hw : ∀ i, swappedStores [tg] e (X i).env = pure none := by intro _; rfl)
    (h1 : ∀ i, (assignEach [tg] (X i).env).map (·.2) = [assign tg (X i).env] := by intro _; rfl) : DS X δ (.Assign [tg] e pos) J := fun G0 H0 σ G H D r m =>
  ⟨tAsg (uE X e) (uG X tg), fun i => ps_asg (uE_ok i) (uG_ok i) (hs i) (hw i) (h1 i), he G0 H0 σ G H r _ fun v G1 H1 f1 hv => hg G0 H0 σ G1 H1 (r.go f1) v hv _ fun σ' r' _ => m.nx δ' σ' G1 H1 r' k⟩
theorem ds_set (i : Nat) (he : ED X δ e d) (k : J.nx (δ.set i (some (.dat d)))) (hi : ∀ j, (X j).N[i]? = some x := by intro _; rfl) (hx : ∀ j, Loc (X j).env.scope x := by intro _; first | exact Or.inl rfl | exact Or.inr rfl) (hf : ∀ j, (X j).fn x = true ∨ (X j).env.scope.names.lookup x = some .local := by intro _; first | exact .inl rfl | exact .inr rfl)
    (hl : i < δ.length := by exact Nat.le_of_ble_eq_true rfl) (hs : ∀ i, swapsWithSole [.Name x p] e pos.line (X i).env = pure false := by intro _; rfl) (hw : ∀ i, swappedStores [.Name x p] e (X i).env = pure none := by intro _; rfl)
    (h1 : ∀ i, (assignEach [.Name x p] (X i).env).map (·.2) = [assign (.Name x p) (X i).env] := by intro _; rfl) : DS X δ (.Assign [.Name x p] e pos) J := ds_asg he (gb_name i hi hx hf hl) k hs hw h1
theorem setL_of {G0 H0 G H G1 H1 : Hp} {σ : L2.St} (r : Rp G0 H0 δ σ G H) (f1 : Fx G H G1 H1) {i : Nat} {a : Addr} {xs : List V} (hl : i < δ.length) (h1 : H a = none) (h2 : H1 a = some (.lst xs)) (h3 : G1 a = none) (h4 : DqAll G1 xs ds) :
    Rp G0 H0 (δ.set i (some (.lst ds))) (σ.set i (some (.ref a))) G1 H1 :=
  (r.go f1).setL hl h2 h3 (r.fx.h.free h1) h4 fun j es _ e z => by
    obtain ⟨v, ev, b, ys, rfl, q1, _⟩ := r.sl j _ e
    rw [ev] at z
    cases z
    rw [h1] at q1
    cases q1
theorem ds_setL (i : Nat) (he : EL X δ e ds) (k : J.nx (δ.set i (some (.lst ds)))) (hi : ∀ j, (X j).N[i]? = some x := by intro _; rfl) (hx : ∀ j, Loc (X j).env.scope x := by intro _; first | exact Or.inl rfl | exact Or.inr rfl) (hf : ∀ j, (X j).fn x = true ∨ (X j).env.scope.names.lookup x = some .local := by intro _; first | exact .inl rfl | exact .inr rfl)
    (hl : i < δ.length := by exact Nat.le_of_ble_eq_true rfl) (hs : ∀ i, swapsWithSole [.Name x p] e pos.line (X i).env = pure false := by intro _; rfl) (hw : ∀ i, swappedStores [.Name x p] e (X i).env = pure none := by intro _; rfl)
    (h1 : ∀ i, (assignEach [.Name x p] (X i).env).map (·.2) = [assign (.Name x p) (X i).env] := by intro _; rfl) : DS X δ (.Assign [.Name x p] e pos) J := fun G0 H0 σ G H D r m =>
  ⟨tAsg (uE X e) (gName i), fun j => ps_asg (uE_ok j) (pg_name (M.nd j) (hi j) (hx j) (hf j)) (hs j) (hw j) (h1 j), he G0 H0 σ G H r _ fun a xs G1 H1 f1 h1 h2 h3 h4 => m.nx _ _ G1 H1 (setL_of (M := M) r f1 hl h1 h2 h3 h4) k⟩
/-- name = [.. for ..] on one line, the name a local that no block reads -/
theorem ds_setLc (i : Nat) (own : List (Str × Nat)) {α : Type} {elt : Expr} {ifs : List Expr} {scope : Scope} {xs : List α} {enc : α → PyData} {c : α → Bool} {f : α → PyData} {spos : Pos} (hi : IS X δ tg iter (xs.map enc)) (hlen : xs.length ≤ 16000000) (ht : ∀ x ∈ xs, LcTurn X scope δ (own.map (·.2)) tg ifs elt (enc x) (c x) (f x))
    (k : J.nx (δ.set i (some (.lst ((xs.filter c).map f))))) (hy : ∀ j, (X j).N[i]? = some x := by intro _; rfl) (hyl : ∀ j, (X j).env.scope.names.lookup x = some .local := by intro _; rfl) (hl : i < δ.length := by exact Nat.le_of_ble_eq_true rfl)
    (hsw : ∀ j, swapsWith (.ListComp elt [⟨tg, iter, ifs, 0⟩] scope pos) (some (.Name x p)) spos.line (X j).env = pure true := by intro _; exact sw_true rfl rfl rfl (by kernel_rfl))
    (ok : ∀ i, BlkOk (X i).N (X i).env.scope scope own := by intro _; exact blkOk_by (by kernel_rfl)) (hs : ∀ i x, foldedSetIterable iter (X i).env x = pure x := by intro _ _; rfl) : DS X δ (.Assign [.Name x p] (.ListComp elt [⟨tg, iter, ifs, 0⟩] scope pos) spos) J := fun G0 H0 σ G H D r m =>
  ⟨_, fun j => ps_setLc (M.calm j) (M.nd j) (hy j) (hyl j) (hsw j) (uI_ok j) (ok j) (fun s H C cl fp => uG_ok (X := blk X scope) (j, s, H, C, cl, fp)) (fun s H C cl fp => uTs_ok (X := blk X scope) (j, s, H, C, cl, fp)) (fun s H C cl fp => uE_ok (X := blk X scope) (j, s, H, C, cl, fp)) (hs j),
    lc_run hi hlen ht r fun a ys G1 H1 f1 h1 h2 h3 h4 => m.nx _ _ G1 H1 (setL_of (M := M) r f1 hl h1 h2 h3 h4) k⟩
/-- xs.append(e) -/
theorem ds_app (i : Nat) (he : ED X δ e d) (hz : ds.length < 16000000) (k : J.nx (δ.set i (some (.lst (ds ++ [d]))))) (hl : δ[i]? = some (some (.lst ds)) := by rfl) (hN : ∀ j, (X j).N[i]? = some x := by intro _; rfl)
    (hv : ∀ j, Vis (X j).env.scope x := by intro _; first | exact Or.inl rfl | exact Or.inr (Or.inl rfl) | exact Or.inr (Or.inr rfl)) (hd : (x == ("__debug__" : Str)) = false := by decide) (hcd : (x == ("__classdict__" : Str)) = false := by decide)
    (hsw : ∀ j, swapsWith (.Call (.Attribute (.Name x p) "append" apos) [e] [] cpos) none pos.line (X j).env = pure false := by intro _; rfl)
    (hbase : ∀ j, attributeBase (.Name x p) "append" (X j).env (eval (.Name x p) (X j).env) = eval (.Name x p) (X j).env := by intro _; rfl)
    (hfew : ∀ j, ((backTo cpos (starEach [e] (X j).env)).all (fun x => !x.1) && (backToKw cpos (keywordEach [] (X j).env)).all (fun x => x.1.isSome)
      && decide (([e] : List Expr).length + ([] : List Keyword).length + (if ([] : List Keyword).isEmpty then 0 else 1) < 30)) = true := by intro _; rfl)
    (hline : (apos.endLine == cpos.line) = true := by rfl) (hs : ∀ j, starEach [e] (X j).env = (false, eval e (X j).env) :: starEach [] (X j).env := by intro _; rfl) :
    DS X δ (.Expr (.Call (.Attribute (.Name x p) "append" apos) [e] [] cpos) pos) J := fun G0 H0 σ G H D r m => by
  obtain ⟨v, ev, a, xs, rfl, h1, h2, h3, h4⟩ := r.sl i _ hl
  refine ⟨tDrop (tBM K "list" rAppend (tVar i) (tCons (uE X e) tNil)), fun j => by
    rw [← M.frag j]
    exact ps_expr (pe_bm PySem.F.plainAttrs_list PySem.F.slot_list_append PySem.F.type_list_append mt_append (pe_var (hN j) (hv j) hd hcd) (pa_cons (uE_ok j) pa_nil (hs j)) (hbase j) (hfew j) hline (hs j) rfl) (hsw j), _, ev, .inl ⟨rfl, xs, SqL.of h1⟩, ?_⟩
  refine he G0 H0 σ G H r _ fun z G1 H1 f1 hz1 => ?_
  have r1 := r.go f1
  refine ⟨a, xs, z, rfl, rfl, f1.h _ _ h1, Nat.lt_of_lt_of_le (by rw [h4.length]; exact hz) (by decide), ?_⟩
  exact m.nx _ _ G1 _ (r1.put hl ev ((DqAll.mono f1.g _ _ h4).append (.cons hz1 .nil))) k
/-- xs.extend(ys) -/
theorem ds_ext (i : Nat) {zs : List PyData} (he : EQ X δ e zs) (hz : ds.length + zs.length ≤ 16000000) (k : J.nx (δ.set i (some (.lst (ds ++ zs))))) (hl : δ[i]? = some (some (.lst ds)) := by rfl) (hN : ∀ j, (X j).N[i]? = some x := by intro _; rfl)
    (hv : ∀ j, Vis (X j).env.scope x := by intro _; first | exact Or.inl rfl | exact Or.inr (Or.inl rfl) | exact Or.inr (Or.inr rfl)) (hd : (x == ("__debug__" : Str)) = false := by decide) (hcd : (x == ("__classdict__" : Str)) = false := by decide)
    (hsw : ∀ j, swapsWith (.Call (.Attribute (.Name x p) "extend" apos) [e] [] cpos) none pos.line (X j).env = pure false := by intro _; rfl)
    (hbase : ∀ j, attributeBase (.Name x p) "extend" (X j).env (eval (.Name x p) (X j).env) = eval (.Name x p) (X j).env := by intro _; rfl)
    (hfew : ∀ j, ((backTo cpos (starEach [e] (X j).env)).all (fun x => !x.1) && (backToKw cpos (keywordEach [] (X j).env)).all (fun x => x.1.isSome)
      && decide (([e] : List Expr).length + ([] : List Keyword).length + (if ([] : List Keyword).isEmpty then 0 else 1) < 30)) = true := by intro _; rfl)
    (hline : (apos.endLine == cpos.line) = true := by rfl) (hs : ∀ j, starEach [e] (X j).env = (false, eval e (X j).env) :: starEach [] (X j).env := by intro _; rfl) :
    DS X δ (.Expr (.Call (.Attribute (.Name x p) "extend" apos) [e] [] cpos) pos) J := fun G0 H0 σ G H D r m => by
  obtain ⟨v, ev, a, xs, rfl, h1, h2, h3, h4⟩ := r.sl i _ hl
  refine ⟨tDrop (tBM K "list" rExtend (tVar i) (tCons (uE X e) tNil)), fun j => by
    rw [← M.frag j]
    exact ps_expr (pe_bm PySem.F.plainAttrs_list PySem.F.slot_list_extend PySem.F.type_list_extend mt_extend (pe_var (hN j) (hv j) hd hcd) (pa_cons (uE_ok j) pa_nil (hs j)) (hbase j) (hfew j) hline (hs j) rfl) (hsw j), _, ev, .inl ⟨rfl, xs, SqL.of h1⟩, ?_⟩
  refine he G0 H0 σ G H r _ fun b ys G1 H1 f1 hb hz1 => ?_
  have r1 := r.go f1
  refine ⟨a, b, xs, ys, rfl, rfl, f1.h _ _ h1, hb, small_of (by rw [h4.length, hz1.length]; exact hz), ?_⟩
  exact m.nx _ _ G1 _ (r1.put hl ev ((DqAll.mono f1.g _ _ h4).append hz1)) k
/-- the reading of xs.pop() -/
theorem pop_run {G0 H0 G H : Hp} {σ : L2.St} {i : Nat} {Q : VK} (hl : δ[i]? = some (some (.lst (ds ++ [d])))) (r : Rp G0 H0 δ σ G H) (q : ∀ v H', Rp G0 H0 (δ.set i (some (.lst ds))) σ G H' → Dq G v d → Q v H') : tBM0 K "list" rPop (tVar i) σ H Q := by
  obtain ⟨v, ev, a, xs, rfl, h1, h2, h3, h4⟩ := r.sl i _ hl
  have hn : xs.length = ds.length + 1 := by rw [h4.length, List.length_append] <;> rfl
  have e1 : (ds ++ [d])[xs.length - 1]? = some d := by
    rw [hn, Nat.add_sub_cancel, List.getElem?_append_right (Nat.le_refl _), Nat.sub_self]
    rfl
  obtain ⟨y, ey, hy⟩ := h4.get e1
  refine ⟨_, ev, .inl ⟨rfl, xs, SqL.of h1⟩, a, xs, y, rfl, rfl, h1, ey, ?_⟩
  refine q y _ (r.put hl ev ?_) hy
  have e2 : xs.dropLast = xs.take ds.length := by rw [List.dropLast_eq_take, hn, Nat.add_sub_cancel]
  have e3 : (ds ++ [d]).take ds.length = ds := by simp
  have e4 := h4.take ds.length
  rw [e3] at e4
  rw [e2]
  exact e4
theorem pe_popV (i : Nat) (hN : ∀ j, (X j).N[i]? = some x) (hv : ∀ j, Vis (X j).env.scope x) (hd : (x == ("__debug__" : Str)) = false) (hcd : (x == ("__classdict__" : Str)) = false)
    (hbase : ∀ j, attributeBase (.Name x p) "pop" (X j).env (eval (.Name x p) (X j).env) = eval (.Name x p) (X j).env) (hline : (apos.endLine == cpos.line) = true) (j : ι) : PE (X j) (.Call (.Attribute (.Name x p) "pop" apos) [] [] cpos) (tBM0 K "list" rPop (tVar i)) := by
  rw [← M.frag j]
  exact pe_bm0 PySem.F.plainAttrs_list PySem.F.slot_list_pop PySem.F.type_list_pop mt_pop (pe_var (hN j) (hv j) hd hcd) (hbase j) hline
theorem pi_popV (i : Nat) (hN : ∀ j, (X j).N[i]? = some x) (hv : ∀ j, Vis (X j).env.scope x) (hd : (x == ("__debug__" : Str)) = false) (hcd : (x == ("__classdict__" : Str)) = false)
    (hbase : ∀ j, attributeBase (.Name x p) "pop" (X j).env (eval (.Name x p) (X j).env) = eval (.Name x p) (X j).env) (hline : (apos.endLine == cpos.line) = true) (j : ι) : PI (X j) tg (.Call (.Attribute (.Name x p) "pop" apos) [] [] cpos) (iList K (tBM0 K "list" rPop (tVar i))) := by
  rw [← M.frag j]
  exact pi_list (pe_bm0 PySem.F.plainAttrs_list PySem.F.slot_list_pop PySem.F.type_list_pop mt_pop (pe_var (hN j) (hv j) hd hcd) (hbase j) hline)
theorem ds_pop (i : Nat) (hl : δ[i]? = some (some (.lst (ds ++ [d])))) (k : J.nx (δ.set i (some (.lst ds)))) (hN : ∀ j, (X j).N[i]? = some x := by intro _; rfl)
    (hv : ∀ j, Vis (X j).env.scope x := by intro _; first | exact Or.inl rfl | exact Or.inr (Or.inl rfl) | exact Or.inr (Or.inr rfl)) (hd : (x == ("__debug__" : Str)) = false := by decide) (hcd : (x == ("__classdict__" : Str)) = false := by decide)
    (hsw : ∀ j, swapsWith (.Call (.Attribute (.Name x p) "pop" apos) [] [] cpos) none pos.line (X j).env = pure false := by intro _; rfl)
    (hbase : ∀ j, attributeBase (.Name x p) "pop" (X j).env (eval (.Name x p) (X j).env) = eval (.Name x p) (X j).env := by intro _; rfl) (hline : (apos.endLine == cpos.line) = true := by rfl) : DS X δ (.Expr (.Call (.Attribute (.Name x p) "pop" apos) [] [] cpos) pos) J := fun G0 H0 σ G H D r m =>
  ⟨tDrop _, fun j => ps_expr (pe_popV i hN hv hd hcd hbase hline j) (hsw j), pop_run (M := M) hl r fun v H' r' _ => m.nx _ _ _ _ r' k⟩
/-- a, b, .. = xs.pop() -/
theorem ds_popT (i : Nat) (hl : δ[i]? = some (some (.lst (ds ++ [d])))) (hg : GB X (δ.set i (some (.lst ds))) tg d δ' ws) (k : J.nx δ') (hN : ∀ j, (X j).N[i]? = some x := by intro _; rfl)
    (hv : ∀ j, Vis (X j).env.scope x := by intro _; first | exact Or.inl rfl | exact Or.inr (Or.inl rfl) | exact Or.inr (Or.inr rfl)) (hd : (x == ("__debug__" : Str)) = false := by decide) (hcd : (x == ("__classdict__" : Str)) = false := by decide)
    (hbase : ∀ j, attributeBase (.Name x p) "pop" (X j).env (eval (.Name x p) (X j).env) = eval (.Name x p) (X j).env := by intro _; rfl) (hline : (apos.endLine == cpos.line) = true := by rfl)
    (hs : ∀ i, swapsWithSole [tg] (.Call (.Attribute (.Name x p) "pop" apos) [] [] cpos) pos.line (X i).env = pure false := by intro _; rfl) (hw : ∀ i, swappedStores [tg] (.Call (.Attribute (.Name x p) "pop" apos) [] [] cpos) (X i).env = pure none := by intro _; rfl)
    (h1 : ∀ i, (assignEach [tg] (X i).env).map (·.2) = [assign tg (X i).env] := by intro _; rfl) : DS X δ (.Assign [tg] (.Call (.Attribute (.Name x p) "pop" apos) [] [] cpos) pos) J := fun G0 H0 σ G H D r m =>
  ⟨tAsg _ (uG X tg), fun j => ps_asg (pe_popV i hN hv hd hcd hbase hline j) (uG_ok j) (hs j) (hw j) (h1 j), pop_run (M := M) hl r fun v H' r' hvd => hg G0 H0 σ G H' r' v hvd _ fun σ' r2 _ => m.nx δ' σ' G H' r2 k⟩

/-! ### loops -/
theorem for_run (hi : ∀ R : It → Hp → Prop, ∀ (G0 H0 : Hp) (σ : L2.St) (G H : Hp), Rp G0 H0 δ σ G H → (∀ J' G1 H1, Rp G0 H0 δ' σ G1 H1 → ItOk J' G1 ds → R J' H1) → uI X tg iter σ H R) (I : Nat → DEnv → Prop) (h0 : I 0 δ')
    (hs : ∀ i d δ', ds[i]? = some d → I i δ' → ∃ δ'' ws, GB X δ' tg d δ'' ws ∧ DB X δ'' body { nx := I (i + 1), ct := I (i + 1), bk := J.nx, rt := J.rt }) (hd : ∀ δ', I ds.length δ' → J.nx δ')
    {G0 H0 G H : Hp} {σ : L2.St} {D : Ends} (r : Rp G0 H0 δ σ G H) (m : Meets G0 H0 J D) : tFor (uI X tg iter) (uG X tg) (uB X body) D σ H := by
  refine hi _ G0 H0 σ G H r fun J' G1 H1 r1 hJ => ?_
  obtain ⟨Gp, Y, wk, hG, hY⟩ := hJ.ex
  refine for_it wk (fun i σ2 H2 => ∃ δ2 G2, Rp G1 H0 δ2 σ2 G2 H2 ∧ I i δ2) ⟨δ', G1, r1.base, h0⟩ (fun i σ2 H2 _ ⟨_, G2, r2, _⟩ => hG H2 (r2.fx.g.trans r2.fx.s)) ?_ ?_
  · rintro i x σ2 H2 H3 hi' ⟨δ2, G2, r2, hI⟩ y
    obtain ⟨G3, d, hd', f3, hx⟩ := hY i H2 x H3 G2 hi' r2.fx.g r2.fx.s y
    obtain ⟨δ3, ws, hg, hb⟩ := hs i d δ2 hd' hI
    refine hg G1 H0 σ2 G3 H3 (r2.go f3) x hx _ fun σ3 r3 _ => ?_
    refine hb G1 H0 σ3 G3 H3 _ r3 ⟨fun δ4 σ4 G4 H4 r4 q => ⟨δ4, G4, r4, q⟩, fun rs v G4 H4 f4 q1 q2 => m.rt rs v G4 H4 (r1.fx.back f4) q1 q2, fun δ4 σ4 G4 H4 r4 q => m.nx δ4 σ4 G4 H4 (r4.back r1.fx) q, fun δ4 σ4 G4 H4 r4 q => ⟨δ4, G4, r4, q⟩⟩
  · rintro σ2 H2 ⟨δ2, G2, r2, hI⟩
    exact m.nx δ2 σ2 G2 H2 (r2.back r1.fx) (hd δ2 hI)
theorem ds_for (hi : IS X δ tg iter ds) (I : Nat → DEnv → Prop) (h0 : I 0 δ)
    (hs : ∀ i d δ', ds[i]? = some d → I i δ' → ∃ δ'' ws, GB X δ' tg d δ'' ws ∧ DB X δ'' body { nx := I (i + 1), ct := I (i + 1), bk := J.nx, rt := J.rt }) (hd : ∀ δ', I ds.length δ' → J.nx δ')
    (hf : ∀ i x, foldedSetIterable iter (X i).env x = pure x := by intro _ _; rfl) : DS X δ (.For tg iter body [] pos) J := fun G0 H0 σ G H D r m =>
  ⟨_, fun i => ps_for (M.pass i) (M.calm i) (uI_ok i) (uG_ok i) (uB_ok i) (hf i), for_run (M := M) (fun R G0 H0 σ G H r q => hi G0 H0 σ G H r R fun J' G1 H1 f hJ => q J' G1 H1 (r.go f) hJ) I h0 hs hd r m⟩
/-- for x in ys.pop(): the popped list is walked -/
theorem ds_forPop (i : Nat) {zs : List PyData} (hl : δ[i]? = some (some (.lst (zs ++ [.list ds])))) (I : Nat → DEnv → Prop) (h0 : I 0 (δ.set i (some (.lst zs))))
    (hs : ∀ i d δ', ds[i]? = some d → I i δ' → ∃ δ'' ws, GB X δ' tg d δ'' ws ∧ DB X δ'' body { nx := I (i + 1), ct := I (i + 1), bk := J.nx, rt := J.rt }) (hd : ∀ δ', I ds.length δ' → J.nx δ')
    (hN : ∀ j, (X j).N[i]? = some x := by intro _; rfl) (hv : ∀ j, Vis (X j).env.scope x := by intro _; first | exact Or.inl rfl | exact Or.inr (Or.inl rfl) | exact Or.inr (Or.inr rfl)) (hd' : (x == ("__debug__" : Str)) = false := by decide) (hcd : (x == ("__classdict__" : Str)) = false := by decide)
    (hbase : ∀ j, attributeBase (.Name x p) "pop" (X j).env (eval (.Name x p) (X j).env) = eval (.Name x p) (X j).env := by intro _; rfl) (hline : (apos.endLine == cpos.line) = true := by rfl)
    (hf : ∀ i z, foldedSetIterable (.Call (.Attribute (.Name x p) "pop" apos) [] [] cpos) (X i).env z = pure z := by intro _ _; rfl) : DS X δ (.For tg (.Call (.Attribute (.Name x p) "pop" apos) [] [] cpos) body [] pos) J := fun G0 H0 σ G H D r m =>
  ⟨_, fun j => ps_for (M.pass j) (M.calm j) (uI_ok j) (uG_ok j) (uB_ok j) (hf j), for_run (M := M) (fun R G0 H0 σ G H r q => ⟨iList K (tBM0 K "list" rPop (tVar i)), pi_popV (M := M) i hN hv hd' hcd hbase hline, pop_run (M := M) hl r fun v H' r' hvd => by
    cases hvd with
    | @lst a xs _ h1 h2 =>
      refine ⟨a, rfl, ⟨xs, SqL.of (r'.fx.s _ _ h1)⟩, q _ G H' r' ⟨⟨_, _, h2.length ▸ walk_list (K := K) (a := a) (xs := xs), fun H' s => SqL.of (s _ _ h1), fun i H' x H'' G' hi s s' y => ?_⟩⟩⟩
      obtain ⟨e, y⟩ := y
      subst e
      obtain ⟨d, hd, hx⟩ := (DqAll.mono s _ _ h2).getV y
      exact ⟨G', d, hd, Fx.refl s', hx⟩⟩) I h0 hs hd r m⟩
theorem ds_while (I : Nat → DEnv → Prop) {m0 : Nat} (h0 : I m0 δ)
    (hs : ∀ n δ', I n δ' → ∃ b, ET X δ' c b ∧ (b = true → DB X δ' body { nx := fun δ'' => ∃ n', n' < n ∧ I n' δ'', ct := fun δ'' => ∃ n', n' < n ∧ I n' δ'', bk := J.nx, rt := J.rt }) ∧ (b = false → J.nx δ')) : DS X δ (.While c body [] pos) J := fun G0 H0 σ G H D r m =>
  ⟨tWhile (uT X c) (uB X body), fun i => ps_while (M.pass i) (uT_ok i) (uB_ok i), fun n σ2 H2 => ∃ δ2 G2, Rp G0 H0 δ2 σ2 G2 H2 ∧ I n δ2, ⟨m0, δ, G, r, h0⟩, fun n σ2 H2 ⟨δ2, G2, r2, hI⟩ => by
    obtain ⟨b, hc, ht, hf⟩ := hs n δ2 hI
    refine hc G0 H0 σ2 G2 H2 r2 _ fun G3 H3 f3 => ?_
    cases b with
    | true =>
      show ∃ N : L2.St → Hp → Prop, _
      refine ⟨fun σ' H' => ∃ δ' G', Rp G0 H0 δ' σ' G' H' ∧ ∃ n', n' < n ∧ I n' δ', fun σ' H' ⟨δ', G', r', n', hn, hI'⟩ => ⟨n', hn, δ', G', r', hI'⟩, ?_⟩
      exact ht rfl G0 H0 σ2 G3 H3 _ (r2.go f3) ⟨fun δ4 σ4 G4 H4 r4 q => ⟨δ4, G4, r4, q⟩, m.rt, m.nx, fun δ4 σ4 G4 H4 r4 q => ⟨δ4, G4, r4, q⟩⟩
    | false => exact m.nx δ2 σ2 G3 H3 (r2.go f3) (hf rfl)⟩
end

/-! ### a def by its body -/
abbrev fcx (P : Program) (w : World) (K : PySem.W.Frag) (mg : Str → Option Value) (base : Heap) (N : List Str) (qual : Str) (st : Stmt) (f : Addr) (cdv : Value) (A : Around) (outer : List Env) (s : Shared) (H : Hp) (E : XK) : Unit → Cx :=
  fun _ => (cxOf CX0 P w K mg base N qual (defScope st) f cdv A outer s H E).nox
def env0 (as : List Sl) (n : Nat) : DEnv := as.map some ++ List.replicate (n - as.length) none
theorem rp_start {G H : Hp} {as : List Sl} {vs : List V} {N : List Str} (s : Same G H) (h : ArgsOk G as vs) : Rp G H (env0 as N.length) (L2.start N vs) G H := by
  have hl : as.length = vs.length := Paired.length h
  have nolst : ∀ (i : Nat) (ds : List PyData), (env0 as N.length)[i]? = some (some (.lst ds)) → False := fun i ds e => by
    unfold env0 at e
    by_cases q : i < as.length
    · rw [List.getElem?_append_left (by simpa using q), List.getElem?_map, List.getElem?_eq_getElem q] at e
      have e1 : as[i] = .lst ds := Option.some.inj (Option.some.inj e)
      have q2 : i < vs.length := hl ▸ q
      have : SlF G as[i] vs[i] := by
        clear e e1
        induction h generalizing i with
        | nil => exact absurd q (Nat.not_lt_zero _)
        | cons h _ ih =>
          cases i with
          | zero => exact h
          | succ i => exact ih (Nat.succ.inj hl) i (Nat.lt_of_succ_lt_succ q) (Nat.lt_of_succ_lt_succ q2)
      rw [e1] at this
      exact this
    · rw [List.getElem?_append_right (by simpa using q), List.getElem?_replicate] at e
      split at e <;> cases e
  refine ⟨Fx.refl s, ?_, fun i t e => ?_, fun i j ds es v e1 _ _ _ => (nolst i ds e1).elim⟩
  · unfold L2.start env0
    rw [List.length_append, List.length_append, List.length_map, List.length_map, List.length_replicate, List.length_replicate, hl]
  · unfold env0 at e
    unfold L2.start
    by_cases q : i < as.length
    · have q2 : i < vs.length := hl ▸ q
      rw [List.getElem?_append_left (by simpa using q), List.getElem?_map, List.getElem?_eq_getElem q] at e
      have e1 : as[i] = t := Option.some.inj (Option.some.inj e)
      refine ⟨vs[i], ?_, ?_⟩
      · rw [List.getElem?_append_left (by simpa using q2), List.getElem?_map, List.getElem?_eq_getElem q2] <;> rfl
      · rw [← e1]
        refine SlF.ok ?_
        clear e e1 nolst
        induction h generalizing i with
        | nil => exact absurd q (Nat.not_lt_zero _)
        | cons h _ ih =>
          cases i with
          | zero => exact h
          | succ i => exact ih (Nat.succ.inj hl) i (Nat.lt_of_succ_lt_succ q) (Nat.lt_of_succ_lt_succ q2)
    · rw [List.getElem?_append_right (by simpa using q), List.getElem?_replicate] at e
      split at e <;> cases e
section
variable {P : Program} {w : World} {K : PySem.W.Frag} {mg : Str → Option Value} {base : Heap} {x qual : Str} {st : Stmt} {f : Addr} {fd : FuncData} {N ps : List Str} {k : Nat} {R : List Sl → Rs → Prop}
/-- the promise of a def, by its body over data -/
theorem fn_data (F : Fun K x qual st f fd) (S : FnScope N ps (defScope st)) (len : ∀ as r, R as r → as.length = ps.length)
    (hb : ∀ (cdv : Value) (A : Around) (outer : List Env) (s : Shared) (H : Hp) (E : XK), Fm (fcx P w K mg base N qual st f cdv A outer s H E) P w K mg base k → ∀ as r, R as r →
      DB (fcx P w K mg base N qual st f cdv A outer s H E) (env0 as N.length) (defBody st) { nx := fun _ => r = .dat .none, rt := fun r' => r' = r }) : FnOk P w K mg base CX0 (k + 1) f fd ps (SpR R) := by
  refine F.ok S (fun vs H Q E h => ?_) (fun cdv A outer s H vs Q E hr h => ?_)
  · obtain ⟨G, as, r, _, ha, hR, _⟩ := h
    rw [← Paired.length ha]
    exact len as r hR
  · obtain ⟨G, as, r, sm, ha, hR, q⟩ := h
    have M : Fm (fcx P w K mg base N qual st f cdv A outer s H E) P w K mg base k :=
      ⟨fun _ => rfl, fun _ => rfl, fun _ => rfl, fun _ => rfl, fun _ => rfl, fun _ => rfl, fun _ => hr, fun _ => S.nd, fun _ => PassesOwn.never⟩
    refine ⟨uB (fcx P w K mg base N qual st f cdv A outer s H E) (defBody st), uB_ok (X := fcx P w K mg base N qual st f cdv A outer s H E) (), ?_⟩
    refine hb cdv A outer s H E M as r hR G H _ G H _ (rp_start sm ha) ⟨fun δ σ G' H' r' e => ?_, fun r' v G' H' f' h' e => ?_, fun _ _ _ _ _ z => z.elim, fun _ _ _ _ _ z => z.elim⟩
    · refine q .non G' H' r'.fx ?_
      rw [show r = .dat .none from e]
      exact .non
    · rw [show r' = r from e] at h'
      exact q v G' H' f' h'
theorem df_mk (F : Fun K x qual st f fd) (S : FnScope N ps (defScope st)) (hm : mg x = some (.ref f)) (hbd : Binds K fd ps []) (len : ∀ as r, R as r → as.length = ps.length)
    (hb : ∀ (cdv : Value) (A : Around) (outer : List Env) (s : Shared) (H : Hp) (E : XK), Fm (fcx P w K mg base N qual st f cdv A outer s H E) P w K mg base k → ∀ as r, R as r →
      DB (fcx P w K mg base N qual st f cdv A outer s H E) (env0 as N.length) (defBody st) { nx := fun _ => r = .dat .none, rt := fun r' => r' = r }) : Df P w K mg base x (k + 1) ps R :=
  ⟨f, fd, fn_data F S len hb, hm, F.kp, hbd⟩
end
end DL

namespace DL
open PySem L2
section
variable {ι : Type} {X : ι → Cx} {δ : DEnv} {P : Program} {w : World} {K : PySem.W.Frag} {mg : Str → Option Value} {base : Heap} {k kk : Nat} [M : Fm X P w K mg base k] {e a b c : Expr} {es : List Expr} {d d1 d2 d3 : PyData} {ds : List PyData} {pos p apos : Pos} {x : Str}
/-! ### a chain of comparisons -/
theorem et_chain {op op' : CmpOp} {r r' : R2} {k1 k2 : Bool} (ho : ∀ i, OpR (X i) (compareOp op) r) (ho' : ∀ i, OpR (X i) (compareOp op') r') (ha : ED X δ a d1) (hb : ED X δ b d2) (hc : ED X δ c d3) (hm : lastMarks [op, op'] [b, c] = false)
    (hr : ∀ v u G H, Same G H → Dq G v d1 → Dq G u d2 → ∀ Q : VK, Q (.bl k1) H → r v u H Q) (hr' : ∀ v u G H, Same G H → Dq G v d2 → Dq G u d3 → ∀ Q : VK, Q (.bl k2) H → r' v u H Q) : ET X δ (.Compare a [op, op'] [b, c] pos) (k1 && k2) := fun G0 H0 σ G H rp Q q =>
  ⟨tTest (tChain r r' (uE X a) (uE X b) (uE X c)), fun i => pt_chain (ho i) (ho' i) (uE_ok i) (uE_ok i) (uE_ok i) hm, ha G0 H0 σ G H rp _ fun v G1 H1 f1 hv => hb G0 H0 σ G1 H1 (rp.go f1) _ fun u G2 H2 f2 hu =>
    hr v u G2 H2 f2.s (Dq.mono f2.g _ v hv) hu _ ⟨k1, rfl, by
      cases k1 with
      | false => exact ⟨false, rfl, q G2 H2 (f1.trans f2)⟩
      | true => exact hc G0 H0 σ G2 H2 ((rp.go f1).go f2) _ fun z G3 H3 f3 hz => hr' u z G3 H3 f3.s (Dq.mono f3.g _ u hu) hz _ ⟨k2, rfl, q G3 H3 ((f1.trans f2).trans f3)⟩⟩⟩
theorem et_leLt {i j l : Int} (ha : ED X δ a (.int i)) (hb : ED X δ b (.int j)) (hc : ED X δ c (.int l)) (hm : lastMarks [.LtE, .Lt] [b, c] = false := by with_unfolding_all rfl) : ET X δ (.Compare a [.LtE, .Lt] [b, c] pos) (decide (i ≤ j) && decide (j < l)) :=
  et_chain (fun _ => op_le) (fun _ => op_lt) ha hb hc hm (fun v u G H _ hv hu Q q => by cases hv; cases hu; exact ⟨i, j, rfl, rfl, q⟩) (fun v u G H _ hv hu Q q => by cases hv; cases hu; exact ⟨j, l, rfl, rfl, q⟩)
include M
/-! ### built-ins -/
theorem ed_min2 {i j : Int} (ha : EA X δ [a, b] [.dat (.int i), .dat (.int j)]) (hm : mg "min" = none) (hg : ∀ i, Gl (X i) "min" := by intro _; rfl) (hs : ∀ i, starEach [a, b] (X i).env = (false, eval a (X i).env) :: starEach [b] (X i).env := by intro _; rfl) (hpl : ∀ i, (backTo pos (starEach [b] (X i).env)).any (·.1) = false := by intro _; rfl) :
    ED X δ (.Call (.Name "min" p) [a, b] [] pos) (.int (min i j)) :=
  ed_callB (ds := [.int i, .int j]) (fun i => call_min2 (M.calm i)) PyProof.Rows.boot_min hm ha (fun vs G H s hv Q q => by
    cases hv with
    | cons h1 h2 =>
      cases h2 with
      | cons h2 h3 =>
        cases h1; cases h2; cases h3
        exact ⟨i, j, rfl, q _ G H (Fx.refl s) (by rw [show (if j < i then j else i) = min i j by omega]; exact .int _)⟩) hg hs hpl
theorem ed_max2 {i j : Int} (ha : EA X δ [a, b] [.dat (.int i), .dat (.int j)]) (hm : mg "max" = none) (hg : ∀ i, Gl (X i) "max" := by intro _; rfl) (hs : ∀ i, starEach [a, b] (X i).env = (false, eval a (X i).env) :: starEach [b] (X i).env := by intro _; rfl) (hpl : ∀ i, (backTo pos (starEach [b] (X i).env)).any (·.1) = false := by intro _; rfl) :
    ED X δ (.Call (.Name "max" p) [a, b] [] pos) (.int (max i j)) :=
  ed_callB (ds := [.int i, .int j]) (fun i => call_max2 (M.calm i)) PyProof.Rows.boot_max hm ha (fun vs G H s hv Q q => by
    cases hv with
    | cons h1 h2 =>
      cases h2 with
      | cons h2 h3 =>
        cases h1; cases h2; cases h3
        exact ⟨i, j, rfl, q _ G H (Fx.refl s) (by rw [show (if j > i then j else i) = max i j by omega]; exact .int _)⟩) hg hs hpl
theorem ed_divmod {i j : Int} (ha : EA X δ [a, b] [.dat (.int i), .dat (.int j)]) (hc : CDiv i j) (hm : mg "divmod" = none) (hg : ∀ i, Gl (X i) "divmod" := by intro _; rfl) (hs : ∀ i, starEach [a, b] (X i).env = (false, eval a (X i).env) :: starEach [b] (X i).env := by intro _; rfl) (hpl : ∀ i, (backTo pos (starEach [b] (X i).env)).any (·.1) = false := by intro _; rfl) :
    ED X δ (.Call (.Name "divmod" p) [a, b] [] pos) (.tuple [.int (i / j), .int (i % j)]) :=
  ed_callB (ds := [.int i, .int j]) (fun i => call_divmod) PyProof.Rows.boot_divmod hm ha (fun vs G H s hv Q q => by
    cases hv with
    | cons h1 h2 =>
      cases h2 with
      | cons h2 h3 =>
        cases h1; cases h2; cases h3
        exact ⟨i, j, rfl, hc, fun p hp => q _ _ _ (Fx.new s hp _) (.tup upd_same (.cons (.int _) (.cons (.int _) .nil)))⟩) hg hs hpl
theorem ed_intB {b : Bool} (ha : ED X δ a (.bool b)) (hm : mg "int" = none) (hg : ∀ i, Gl (X i) "int" := by intro _; rfl) (hs : ∀ i, starEach [a] (X i).env = [(false, eval a (X i).env)] := by intro _; rfl) :
    ED X δ (.Call (.Name "int" p) [a] [] pos) (.int (if b then 1 else 0)) :=
  ed_callTy (ds := [.bool b]) (fun i => call_int1) PyProof.Rows.boot_int hm (ea_cons ha ea_nil hs) (fun vs G H s hv Q q => by
    cases hv with
    | cons h1 h2 =>
      cases h1; cases h2
      exact .inr ⟨b, rfl, q _ G H (Fx.refl s) (.int _)⟩) hg hs (by intro _; rfl)
theorem ed_strI {n : Int} (ha : ED X δ a (.int n)) (hn : n.natAbs.log2 < 1920) (hm : mg "str" = none) (hg : ∀ i, Gl (X i) "str" := by intro _; rfl) (hs : ∀ i, starEach [a] (X i).env = [(false, eval a (X i).env)] := by intro _; rfl) :
    ED X δ (.Call (.Name "str" p) [a] [] pos) (.str (Str.ofString (toString n))) :=
  ed_callTy (ds := [.int n]) (fun i => call_str_int) PyProof.Rows.boot_str hm (ea_cons ha ea_nil hs) (fun vs G H s hv Q q => by
    cases hv with
    | cons h1 h2 =>
      cases h1; cases h2
      exact ⟨n, rfl, hn, q _ G H (Fx.refl s) (.str _)⟩) hg hs (by intro _; rfl)
/-! ### list(xs), tuple(xs) -/
theorem el_listT (ha : ED X δ a (.tuple ds)) (hm : mg "list" = none) (hg : ∀ i, Gl (X i) "list" := by intro _; rfl) (hs : ∀ i, starEach [a] (X i).env = [(false, eval a (X i).env)] := by intro _; rfl) : EL X δ (.Call (.Name "list" p) [a] [] pos) ds := fun G0 H0 σ G H rp Q q =>
  ⟨tCB (fun xs H Q => ∃ p ys, xs = [.ref p] ∧ (SqL K H p ys ∨ SqT K H p ys) ∧ ∀ l, H l = none → Q (.ref l) (upd H l (.lst ys))) (tCons (uE X a) tNil), fun i => pe_callTy (by rw [← M.frag i]; exact call_list_of) (hg i) (by rw [M.glob i]; exact hm) PyProof.Rows.boot_list (pa_cons (uE_ok i) pa_nil (hs i)) (by decide) (by decide) (hs i) rfl,
    ha G0 H0 σ G H rp _ fun v G1 H1 f1 hv => by
      cases hv with
      | tup h1 h2 =>
        rename_i ra rxs
        refine ⟨ra, rxs, rfl, .inr (SqT.of (f1.s _ _ h1)), fun n hn => ?_⟩
        have f2 := Fx.lay f1.s hn (.lst rxs)
        exact q n _ G1 _ (f1.trans f2) (f1.h.free hn) upd_same (f1.s.free hn) h2⟩
theorem el_listL (ha : EQ X δ a ds) (hm : mg "list" = none) (hg : ∀ i, Gl (X i) "list" := by intro _; rfl) (hs : ∀ i, starEach [a] (X i).env = [(false, eval a (X i).env)] := by intro _; rfl) : EL X δ (.Call (.Name "list" p) [a] [] pos) ds := fun G0 H0 σ G H rp Q q =>
  ⟨tCB (fun xs H Q => ∃ p ys, xs = [.ref p] ∧ (SqL K H p ys ∨ SqT K H p ys) ∧ ∀ l, H l = none → Q (.ref l) (upd H l (.lst ys))) (tCons (uE X a) tNil), fun i => pe_callTy (by rw [← M.frag i]; exact call_list_of) (hg i) (by rw [M.glob i]; exact hm) PyProof.Rows.boot_list (pa_cons (uE_ok i) pa_nil (hs i)) (by decide) (by decide) (hs i) rfl,
    ha G0 H0 σ G H rp _ fun p xs G1 H1 f1 hp hd => by
      refine ⟨p, xs, rfl, .inl (SqL.of hp), fun n hn => ?_⟩
      have f2 := Fx.lay f1.s hn (.lst xs)
      exact q n _ G1 _ (f1.trans f2) (f1.h.free hn) upd_same (f1.s.free hn) hd⟩
theorem ed_tupleL (ha : EQ X δ a ds) (hm : mg "tuple" = none) (hg : ∀ i, Gl (X i) "tuple" := by intro _; rfl) (hs : ∀ i, starEach [a] (X i).env = [(false, eval a (X i).env)] := by intro _; rfl) : ED X δ (.Call (.Name "tuple" p) [a] [] pos) (.tuple ds) := fun G0 H0 σ G H rp Q q =>
  ⟨tCB (fun xs H Q => ∃ p ys, xs = [.ref p] ∧ ((SqL K H p ys ∧ ∀ l, H l = none → Q (.ref l) (upd H l (.tup ys))) ∨ (SqT K H p ys ∧ Q (.ref p) H))) (tCons (uE X a) tNil), fun i => pe_callTy (by rw [← M.frag i]; exact call_tuple_of) (hg i) (by rw [M.glob i]; exact hm) PyProof.Rows.boot_tuple (pa_cons (uE_ok i) pa_nil (hs i)) (by decide) (by decide) (hs i) rfl,
    ha G0 H0 σ G H rp _ fun p xs G1 H1 f1 hp hd => by
      refine ⟨_, _, rfl, .inl ⟨SqL.of hp, fun n hn => ?_⟩⟩
      have f2 := Fx.new f1.s hn (.tup xs)
      exact q _ _ _ (f1.trans f2) (.tup upd_same (DqAll.mono f2.g _ _ hd))⟩
theorem ed_sum {ns : List Int} (ha : EQ X δ a (ns.map .int)) (hm : mg "sum" = none) (hg : ∀ i, Gl (X i) "sum" := by intro _; rfl) (hs : ∀ i, starEach [a] (X i).env = [(false, eval a (X i).env)] := by intro _; rfl) : ED X δ (.Call (.Name "sum" p) [a] [] pos) (.int ns.sum) := fun G0 H0 σ G H rp Q q =>
  ⟨tCB (rSum K) (tCons (uE X a) tNil), fun i => pe_callB (by rw [← M.frag i]; exact cr_sum (M.calm i)) (hg i) (by rw [M.glob i]; exact hm) PyProof.Rows.boot_sum (pa_cons (uE_ok i) pa_nil (hs i)) (by decide) (by decide) (hs i) rfl,
    ha G0 H0 σ G H rp _ fun p xs G1 H1 f1 hp hd => ⟨p, ns, rfl, by rw [← hd.ints]; exact SqL.of hp, q _ _ _ f1 (.int _)⟩⟩
/-! ### isinstance(x, list), isinstance(x, tuple) -/
theorem et_isi {T : String} {t : Value} {k1 : Bool} {q1 : Pos} (ha : ED X δ a d) (hv : bootBuiltins x = some (.type T)) (hmT : mg x = none) (hT : ∀ v G H, Same G H → Dq G v d → TyOf K H v t) (hk : PySem.W.kitOne K t (.type T) = some k1) (hm : mg "isinstance" = none)
    (hg : ∀ i, Gl (X i) "isinstance" := by intro _; rfl) (hgT : ∀ i, Gl (X i) x := by intro _; rfl) (hn : x ≠ "__name__" := by decide) (hdb : (x == ("__debug__" : Str)) = false := by decide)
    (hs : ∀ i, starEach [a, .Name x q1] (X i).env = (false, eval a (X i).env) :: starEach [.Name x q1] (X i).env := by intro _; rfl) (hs2 : ∀ i, starEach [.Name x q1] (X i).env = [(false, eval (.Name x q1) (X i).env)] := by intro _; rfl) (hpl : ∀ i, (backTo pos (starEach [.Name x q1] (X i).env)).any (·.1) = false := by intro _; rfl) :
    ED X δ (.Call (.Name "isinstance" p) [a, .Name x q1] [] pos) (.bool k1) := fun G0 H0 σ G H rp Q q =>
  ⟨tCB (rIsi K) (tCons (uE X a) (tCons (tC (.ty T)) tNil)), fun i => pe_callB (by rw [← M.frag i]; exact call_isi) (hg i) (by rw [M.glob i]; exact hm) PyProof.Rows.boot_isinstance
      (pa_cons (uE_ok i) (pa_cons (pe_bltn (hgT i) (by rw [M.glob i]; exact hmT) hv (show RelV (.ty T) (.type T) from rfl) hn hdb) pa_nil (hs2 i)) (hs i)) (by decide) (by decide) (hs i) (hpl i),
    ha G0 H0 σ G H rp _ fun v G1 H1 f1 hv => ⟨v, .ty T, t, .type T, k1, rfl, .ty T, .base (hT v G1 H1 f1.s hv), hk, q _ _ _ f1 (.bl _)⟩⟩
/-! ### xs.index(y) -/
theorem ed_index {j : Nat} {z : PyData} {apos' cpos : Pos} (ha : EQ X δ a ds) (hb : ED X δ b d) (s1 : SeqAt.shaped (.list ds) = true) (s2 : SeqAt.shaped d = true) (hz : ds[j]? = some z) (hzj : PyData.eqv z d = true) (hno : ∀ (m : Nat) (z' : PyData), m < j → ds[m]? = some z' → PyData.eqv z' d = false)
    (hbase : ∀ j, attributeBase a "index" (X j).env (eval a (X j).env) = eval a (X j).env := by intro _; rfl)
    (hfew : ∀ j, ((backTo cpos (starEach [b] (X j).env)).all (fun x => !x.1) && (backToKw cpos (keywordEach [] (X j).env)).all (fun x => x.1.isSome)
      && decide (([b] : List Expr).length + ([] : List Keyword).length + (if ([] : List Keyword).isEmpty then 0 else 1) < 30)) = true := by intro _; rfl)
    (hline : (apos'.endLine == cpos.line) = true := by rfl) (hs : ∀ j, starEach [b] (X j).env = (false, eval b (X j).env) :: starEach [] (X j).env := by intro _; rfl) :
    ED X δ (.Call (.Attribute a "index" apos') [b] [] cpos) (.int j) := fun G0 H0 σ G H rp Q q =>
  ⟨tBM K "list" (rIndexD K) (uE X a) (tCons (uE X b) tNil), fun i => by
    rw [← M.frag i]
    exact pe_bm PySem.F.plainAttrs_list PySem.F.slot_list_index PySem.F.type_list_index (mt_indexD (hu65 (M.room i))) (uE_ok i) (pa_cons (uE_ok i) pa_nil (hs i)) (hbase i) (hfew i) hline (hs i) rfl,
    ha G0 H0 σ G H rp _ fun p xs G1 H1 f1 hp hd => by
      refine ⟨.inl ⟨rfl, xs, SqL.of hp⟩, hb G0 H0 σ G1 H1 (rp.go f1) _ fun v G2 H2 f2 hv => ?_⟩
      exact ⟨p, v, d, ds, j, z, rfl, rfl, dp_q f2.s (f2.h _ _ hp) (DqAll.mono f2.g _ _ hd), Dq.dp _ _ (Dq.mono f2.s _ _ hv), s1, s2, hz, hzj, hno, q _ _ _ (f1.trans f2) (.int _)⟩⟩
/-! ### other ranges -/
theorem is_rangeC {i j c' : Int} {n : Nat} (ha : EA X δ [a, b, c] [.dat (.int i), .dat (.int j), .dat (.int c')]) (hr : RgC i j c' n) (hm : mg "range" = none) {tg : Expr} (hg : ∀ i, Gl (X i) "range" := by intro _; rfl)
    (hs : ∀ i, starEach [a, b, c] (X i).env = (false, eval a (X i).env) :: starEach [b, c] (X i).env := by intro _; rfl) (hpl : ∀ i, (backTo pos (starEach [b, c] (X i).env)).any (·.1) = false := by intro _; rfl) :
    IS X δ tg (.Call (.Name "range" p) [a, b, c] [] pos) ((List.range n).map fun (m : Nat) => .int (i + (m : Int) * c')) := fun G0 H0 σ G H rp R q =>
  ⟨iRng3 (uA X [a, b, c]), fun i => pi_range3 (hg i) (by rw [M.glob i]; exact hm) (uA_ok i) (hs i) (hpl i), ha G0 H0 σ G H rp _ fun vs G1 H1 f1 hv => by
    have hv' := dq_of_args (ds := [.int i, .int j, .int c']) hv
    cases hv' with
    | cons h1 h2 =>
      cases h2 with
      | cons h2 h3 =>
        cases h3 with
        | cons h3 h4 =>
          cases h1; cases h2; cases h3; cases h4
          refine ⟨i, j, c', n, rfl, hr, q _ G1 H1 f1 ⟨⟨fun _ => True, YFn fun m => .int (i + (m : Nat) * c'), ?_, fun _ _ => trivial, fun m H' x H'' G' hi s s' y => ?_⟩⟩⟩
          · have e1 : ((List.range n).map fun (m : Nat) => PyData.int (i + (m : Int) * c')).length = n := by simp
            rw [e1]
            exact walk_rangeC
          · obtain ⟨e, y⟩ := y
            subst e y
            have hi' : m < n := by simpa using hi
            exact ⟨G', .int (i + (m : Int) * c'), by simp [hi'], Fx.refl s', .int _⟩⟩
/-! ### a list known from outside (the script) -/
def PScr (K : PySem.W.Frag) (ns : List Int) : Hp → V → Prop := fun G v => ∃ a, v = .ref a ∧ SqL K G a (ns.map V.int)
theorem ev_ph {Ph : Hp → V → Prop} {x : Str} {p : Pos} (i : Nat) (hN : ∀ j, (X j).N[i]? = some x := by intro _; rfl) (hv : ∀ j, Vis (X j).env.scope x := by intro _; first | exact Or.inl rfl | exact Or.inr (Or.inl rfl) | exact Or.inr (Or.inr rfl))
    (hl : δ[i]? = some (some (.ph Ph)) := by rfl) (hd : (x == ("__debug__" : Str)) = false := by decide) (hcd : (x == ("__classdict__" : Str)) = false := by decide) {G0 H0 G H : Hp} {σ : L2.St} (rp : Rp G0 H0 δ σ G H) {Q : VK} (q : ∀ v, (∀ G', Same G G' → Ph G' v) → Q v H) : uE X (.Name x p) σ H Q := by
  obtain ⟨v, ev, hv'⟩ := rp.sl i _ hl
  exact ⟨tVar i, fun j => pe_var (hN j) (hv j) hd hcd, v, ev, q v hv'⟩
theorem ed_lenS {ns : List Int} {x : Str} {p' : Pos} (i : Nat) (hl : δ[i]? = some (some (.ph (PScr K ns)))) (hm : mg "len" = none) (hN : ∀ j, (X j).N[i]? = some x := by intro _; rfl) (hv : ∀ j, Vis (X j).env.scope x := by intro _; first | exact Or.inl rfl | exact Or.inr (Or.inl rfl) | exact Or.inr (Or.inr rfl))
    (hd : (x == ("__debug__" : Str)) = false := by decide) (hcd : (x == ("__classdict__" : Str)) = false := by decide) (hg : ∀ i, Gl (X i) "len" := by intro _; rfl) (hs : ∀ i, starEach [.Name x p'] (X i).env = [(false, eval (.Name x p') (X i).env)] := by intro _; rfl) : ED X δ (.Call (.Name "len" p) [.Name x p'] [] pos) (.int ns.length) := fun G0 H0 σ G H rp Q q =>
  ⟨tCB _ (tCons (uE X (.Name x p')) tNil), fun i => pe_callB (r := fun xs H Q => ∃ p ys, xs = [V.ref p] ∧ (SqL K H p ys ∨ SqT K H p ys) ∧ Q (.int ys.length) H) (by rw [← M.frag i]; exact call_len_seq) (hg i) (by rw [M.glob i]; exact hm) boot_len' (pa_cons (uE_ok i) pa_nil (hs i)) (by decide) (by decide) (hs i) rfl,
    ev_ph (M := M) i hN hv hl hd hcd rp fun v h => by
      obtain ⟨a, rfl, h'⟩ := h H rp.fx.s
      exact ⟨a, _, rfl, .inl h', by rw [List.length_map]; exact q _ G H (Fx.refl rp.fx.s) (.int _)⟩⟩
theorem ed_ixScr {ns : List Int} {m n : Int} {x : Str} {p' : Pos} (i : Nat) (hl : δ[i]? = some (some (.ph (PScr K ns)))) (hb : ED X δ b (.int m)) (e : atI ns m = some n) (hN : ∀ j, (X j).N[i]? = some x := by intro _; rfl) (hv : ∀ j, Vis (X j).env.scope x := by intro _; first | exact Or.inl rfl | exact Or.inr (Or.inl rfl) | exact Or.inr (Or.inr rfl))
    (hd : (x == ("__debug__" : Str)) = false := by decide) (hcd : (x == ("__classdict__" : Str)) = false := by decide) (hs : PlainIx b := by exact fun _ _ => rfl) : ED X δ (.Subscript (.Name x p') b pos) (.int n) := fun G0 H0 σ G H rp Q q =>
  ⟨tOp (rIxL K) (uE X (.Name x p')) (uE X b), fun i => by rw [← M.frag i]; exact pe_ix ix_list (uE_ok i) (uE_ok i) hs, ev_ph (M := M) i hN hv hl hd hcd rp fun v h => hb G0 H0 σ G H rp _ fun u G2 H2 f2 hu => by
    cases hu
    obtain ⟨a, rfl, h'⟩ := h H2 (rp.fx.s.trans f2.h)
    exact ⟨_, _, m, _, rfl, rfl, h', (atI_map V.int ns m).trans (by rw [e]; rfl), q _ G2 H2 f2 (.int n)⟩⟩
omit M in
theorem cutV_map (ns : List Int) (l u : Option Int) : ∃ ms : List Int, cutV (ns.map V.int) l u = ms.map V.int ∧ cutD (ns.map .int) l u = ms.map .int ∧ ms = (ns.drop (HT.sIx ns.length 0 l)).take (HT.sIx ns.length ns.length u - HT.sIx ns.length 0 l) := by
  refine ⟨_, ?_, ?_, rfl⟩
  · unfold cutV
    simp [List.map_drop, List.map_take]
  · unfold cutD
    simp [List.map_drop, List.map_take]
theorem el_sliceScr {ns : List Int} {lo hi : Option Expr} {l u : Option Int} {x : Str} {p' p2 : Pos} (i : Nat) (hl : δ[i]? = some (some (.ph (PScr K ns)))) (h1 : EO X δ lo l) (h2 : EO X δ hi u) (hN : ∀ j, (X j).N[i]? = some x := by intro _; rfl) (hv : ∀ j, Vis (X j).env.scope x := by intro _; first | exact Or.inl rfl | exact Or.inr (Or.inl rfl) | exact Or.inr (Or.inr rfl))
    (hd : (x == ("__debug__" : Str)) = false := by decide) (hcd : (x == ("__classdict__" : Str)) = false := by decide) : EL X δ (.Subscript (.Name x p') (.Slice lo hi none p2) pos) (cutD (ns.map .int) l u) := fun G0 H0 σ G H rp Q q =>
  ⟨tSl (rSlL K) (uE X (.Name x p')) (uO X lo) (uO X hi), fun i => by rw [← M.frag i]; exact pe_slice sl_list (uE_ok i) (uO_ok i) (uO_ok i), ev_ph (M := M) i hN hv hl hd hcd rp fun v h => h1 G0 H0 σ G H rp _ fun G2 H2 f2 =>
    h2 G0 H0 σ G2 H2 (rp.go f2) _ fun G3 H3 f3 => by
      obtain ⟨a, rfl, h'⟩ := h H3 (rp.fx.s.trans (f2.h.trans f3.h))
      refine ⟨a, _, rfl, h', fun n hn => ?_⟩
      have f4 := Fx.lay f3.s hn (.lst (cutV (ns.map V.int) l u))
      obtain ⟨ms, e1, e2, _⟩ := cutV_map ns l u
      refine q n _ G3 _ ((f2.trans f3).trans f4) (f2.h.free (f3.h.free hn)) upd_same (f3.s.free hn) ?_
      rw [e1, e2]
      exact DqAll.of_ints⟩
end
end DL

namespace DL
open PySem L2
/-- what is known of fewer slots -/
inductive Sub : DEnv → DEnv → Prop
  | nil : Sub [] []
  | keep {o : Option Sl} {a b : DEnv} : Sub a b → Sub (o :: a) (o :: b)
  | skip {o : Option Sl} {a b : DEnv} : Sub a b → Sub (none :: a) (o :: b)
theorem Sub.len {a b : DEnv} (h : Sub a b) : a.length = b.length := by
  induction h with
  | nil => rfl
  | keep _ ih => exact congrArg Nat.succ ih
  | skip _ ih => exact congrArg Nat.succ ih
theorem Sub.at {a b : DEnv} (h : Sub a b) : ∀ (i : Nat) (s : Sl), a[i]? = some (some s) → b[i]? = some (some s) := by
  induction h with
  | nil => intro i s e; cases e
  | keep _ ih =>
    intro i s e
    cases i with
    | zero => exact e
    | succ i => exact ih i s e
  | skip _ ih =>
    intro i s e
    cases i with
    | zero => cases e
    | succ i => exact ih i s e
section
variable {ι : Type} {X : ι → Cx} {δ δ' : DEnv} {P : Program} {w : World} {K : PySem.W.Frag} {mg : Str → Option Value} {base : Heap} {k : Nat} [M : Fm X P w K mg base k] {c : Expr} {pos : Pos} {J : DK} {st : Stmt} {rest body orelse : List Stmt}
theorem db_sub (δ' : DEnv) (h : DB X δ' rest J) (hs : Sub δ' δ := by repeat (first | exact Sub.nil | apply Sub.keep | apply Sub.skip)) : DB X δ rest J := db_weak h hs.len hs.at
theorem db_end (δ' : DEnv) (h : J.nx δ') (hs : Sub δ' δ := by repeat (first | exact Sub.nil | apply Sub.keep | apply Sub.skip)) : DB X δ [] J := db_weak (db_nil h) hs.len hs.at
include M
theorem db_if (N : DEnv → Prop) {b : Bool} (hc : ET X δ c b) (h1 : b = true → DB X δ body { J with nx := N }) (h2 : b = false → DB X δ orelse { J with nx := N }) (h : ∀ δ', N δ' → DB X δ' rest J) : DB X δ (.If c body orelse pos :: rest) J := fun G0 H0 σ G H D r m =>
  ⟨tSeq (uS X (.If c body orelse pos)) (uB X rest), fun i => pss_cons (uS_ok i) (uB_ok i), by
    have hh : DS X δ (.If c body orelse pos) { J with nx := fun δ' => DB X δ' rest J } := fun G0 H0 σ G H D r m => by
      refine ds_if (J := { J with nx := N }) hc h1 h2 G0 H0 σ G H D r ⟨fun δ' σ' G' H' r' q => m.nx δ' σ' G' H' r' (h δ' q), m.rt, m.bk, m.ct⟩
    exact hh G0 H0 σ G H { D with nx := uB X rest D } r ⟨fun δ' σ' G' H' r' q => q G0 H0 σ' G' H' D r' m, m.rt, m.bk, m.ct⟩⟩
/-- a loop behind which more stands -/
theorem db_for {tg iter : Expr} {ds : List PyData} (hi : IS X δ tg iter ds) (I : Nat → DEnv → Prop) (h0 : I 0 δ)
    (hs : ∀ i d δ', ds[i]? = some d → I i δ' → ∃ δ'' ws, GB X δ' tg d δ'' ws ∧ DB X δ'' body { nx := I (i + 1), ct := I (i + 1), bk := I ds.length, rt := J.rt }) (hd : ∀ δ', I ds.length δ' → DB X δ' rest J)
    (hf : ∀ i x, foldedSetIterable iter (X i).env x = pure x := by intro _ _; rfl) : DB X δ (.For tg iter body [] pos :: rest) J := fun G0 H0 σ G H D r m => by
  refine db_cons (ds_for (J := { J with nx := fun δ' => DB X δ' rest J }) hi I h0 (fun i d δ' e q => ?_) hd hf) G0 H0 σ G H D r m
  obtain ⟨δ'', ws, h1, h2⟩ := hs i d δ' e q
  refine ⟨δ'', ws, h1, fun G0 H0 σ G H D r m => h2 G0 H0 σ G H D r ⟨m.nx, m.rt, fun δ4 σ4 G4 H4 r4 q => m.bk δ4 σ4 G4 H4 r4 (hd δ4 q), m.ct⟩⟩
end
end DL

namespace DL
open PySem L2
/-! ### max(xs, default=z) -/
def rMaxDef (K : PySem.W.Frag) (α : Type) [DecidableEq α] [PySem.W.DatumOrd α] (toV : α → V) : List V → List V → Hp → VK → Prop := fun vs zs H Q => ∃ (a : Addr) (xs : List V) (ys : List α) (z : V), vs = [V.ref a] ∧ zs = [z] ∧ SqL K H a xs ∧ DpAll K H xs (ys.map PySem.W.Datum.toD) ∧
  PySem.W.Datum.depth α = 0 ∧ (∀ (h : Heap) (v : Value) (m : α), PySem.W.Holds h v m → RelV (toV m) v) ∧ (ys = [] → Q z H) ∧ ∀ y r, ys = y :: r → Q (toV (PySem.W.maxOf y r)) H
theorem cr_maxDef {X : Cx} {α : Type} [DecidableEq α] [PySem.W.DatumOrd α] {toV : α → V} {k : Nat} (hc : X.calm = true) (hr : Room k X.A) : CallRK X (.builtin "max") [Str.ofString "default"] (rMaxDef X.K α toV) := by
  intro pins s σ H xs zs us ws Q I rx rz h
  obtain ⟨a, vs, ys, z, rfl, rfl, hs, hd, h0, hrel, q0, q1⟩ := h
  obtain ⟨its, rv, hl, _⟩ := I.list hs
  rw [Vals.ref1 rx]
  cases rz with
  | cons rz rt =>
    cases rt
    obtain ⟨as, rd⟩ := Dp.readsAll I (ys.map PySem.W.Datum.toD) vs its hd rv
    refine PySem.W.max_list_datum_default (I.ok.hd hc) hl.isList (xs := ys) ⟨as, rd⟩ (by rw [h0]; have := hr.un; omega) (fun e h' tk hk => ?_) fun y r i v h' tk e hi hv hk => ?_
    · exact ⟨z, H, I.kept hk, rz, q0 e⟩
    · exact ⟨_, H, I.kept hk, hrel _ _ _ hv, q1 y r e⟩
theorem rel_int (h : Heap) (v : Value) (m : Int) (q : PySem.W.Holds h v m) : RelV (.int m) v := by
  obtain ⟨as, r⟩ := q
  cases r
  exact ⟨_, rfl⟩
theorem rel_bool (h : Heap) (v : Value) (m : Bool) (q : PySem.W.Holds h v m) : RelV (.bl m) v := by
  obtain ⟨as, r⟩ := q
  cases r
  rfl
section
variable {ι : Type} {X : ι → Cx} {δ : DEnv} {P : Program} {w : World} {K : PySem.W.Frag} {mg : Str → Option Value} {base : Heap} {k kk : Nat} [M : Fm X P w K mg base k] {e a b c : Expr} {es : List Expr} {d d1 d2 d3 : PyData} {ds : List PyData} {pos p apos kpos : Pos} {x : Str}
include M
theorem ed_maxD {α : Type} [DecidableEq α] [PySem.W.DatumOrd α] {toV : α → V} {ys : List α} (ha : EQ X δ a (ys.map PySem.W.Datum.toD)) (hb : ED X δ b d1) (h0 : PySem.W.Datum.depth α = 0) (hrel : ∀ (h : Heap) (v : Value) (m : α), PySem.W.Holds h v m → RelV (toV m) v) (hV : ∀ G m, Dq G (toV m) (PySem.W.Datum.toD m))
    (hm : mg "max" = none) (e0 : ys = [] → d = d1) (e1 : ∀ y r, ys = y :: r → d = PySem.W.Datum.toD (PySem.W.maxOf y r)) (hg : ∀ i, Gl (X i) "max" := by intro _; rfl) (hs : ∀ i, starEach [a] (X i).env = [(false, eval a (X i).env)] := by intro _; rfl)
    (he : ∀ i, backTo pos (starEach [a] (X i).env) = (false, eval a (X i).env) :: backTo pos (starEach [] (X i).env) := by intro _; rfl) (hpl : ∀ i, (backTo pos (starEach [a] (X i).env)).any (·.1) = false := by intro _; rfl)
    (hall : ∀ i, (backToKw pos (keywordEach [⟨some "default", b, kpos⟩] (X i).env)).all (·.1.isSome) = true := by intro _; rfl) (hnone : ∀ i, (backToKw pos (keywordEach [⟨some "default", b, kpos⟩] (X i).env)).any (·.1.isNone) = false := by intro _; rfl)
    (hks : ∀ i, (backToKw pos (keywordEach [⟨some "default", b, kpos⟩] (X i).env)).filterMap (·.1) = [Str.ofString "default"] := by intro _; rfl) : ED X δ (.Call (.Name "max" p) [a] [⟨some "default", b, kpos⟩] pos) d := fun G0 H0 σ G H rp Q q =>
  ⟨tCKw (rMaxDef K α toV) (tCons (uE X a) tNil) (tCons (uE X b) tNil), fun i => pe_callBK (by rw [← M.frag i]; exact cr_maxDef (M.calm i) (M.room i)) (hg i) (by rw [M.glob i]; exact hm) PyProof.Rows.boot_max (pa_cons (uE_ok i) pa_nil (hs i)) (pk_cons (uE_ok i) pk_nil) (by decide) (by decide) (he i) (hpl i) (hall i) (hnone i) (hks i),
    ha G0 H0 σ G H rp _ fun p' xs G1 H1 f1 hp hd => hb G0 H0 σ G1 H1 (rp.go f1) _ fun z G2 H2 f2 hz => by
      refine ⟨p', xs, ys, z, rfl, rfl, SqL.of (f2.h _ _ hp), DqAll.dp _ _ (DqAll.mono (f2.g.trans f2.s) _ _ hd), h0, hrel, fun e => q z G2 H2 (f1.trans f2) ?_, fun y r e => q _ G2 H2 (f1.trans f2) ?_⟩
      · rw [e0 e]; exact hz
      · rw [e1 y r e]; exact hV G2 _⟩
theorem foldl_maxN : ∀ (l : List Nat) (m : Nat), l.foldl (fun (a : Int) (y : Nat) => if decide (a < (y : Int)) = true then (y : Int) else a) (m : Int) = ((l.foldl max m : Nat) : Int)
  | [], m => rfl
  | x :: r, m => by
    rw [List.foldl_cons, List.foldl_cons, ← foldl_maxN r (max m x)]
    congr 1
    by_cases h : (m : Int) < x
    · rw [if_pos (decide_eq_true h)]; omega
    · rw [if_neg (by simpa using h)]; omega
/-- of natural numbers, nought by default -/
theorem ed_maxN {ys : List Nat} (ha : EQ X δ a (ys.map fun (y : Nat) => .int (y : Int))) (hb : ED X δ b (.int 0)) (hm : mg "max" = none) (hg : ∀ i, Gl (X i) "max" := by intro _; rfl) (hs : ∀ i, starEach [a] (X i).env = [(false, eval a (X i).env)] := by intro _; rfl)
    (he : ∀ i, backTo pos (starEach [a] (X i).env) = (false, eval a (X i).env) :: backTo pos (starEach [] (X i).env) := by intro _; rfl) (hpl : ∀ i, (backTo pos (starEach [a] (X i).env)).any (·.1) = false := by intro _; rfl)
    (hall : ∀ i, (backToKw pos (keywordEach [⟨some "default", b, kpos⟩] (X i).env)).all (·.1.isSome) = true := by intro _; rfl) (hnone : ∀ i, (backToKw pos (keywordEach [⟨some "default", b, kpos⟩] (X i).env)).any (·.1.isNone) = false := by intro _; rfl)
    (hks : ∀ i, (backToKw pos (keywordEach [⟨some "default", b, kpos⟩] (X i).env)).filterMap (·.1) = [Str.ofString "default"] := by intro _; rfl) : ED X δ (.Call (.Name "max" p) [a] [⟨some "default", b, kpos⟩] pos) (.int (ys.foldl max 0 : Nat)) :=
  ed_maxD (α := Int) (toV := V.int) (ys := ys.map fun (y : Nat) => (y : Int)) (by rw [List.map_map]; exact ha) hb rfl rel_int (fun _ _ => .int _) hm (fun e => by
    have e' : ys = [] := List.map_eq_nil_iff.mp e
    subst e'
    rfl) (fun y r e => by
    cases ys with
    | nil => cases e
    | cons z zs =>
      rw [List.map_cons] at e
      injection e with e1 e2
      subst e1 e2
      show PyData.int _ = PyData.int _
      unfold PySem.W.maxOf
      rw [List.foldl_map, List.foldl_cons, ← foldl_maxN (M := M), Nat.zero_max]
      rfl) hg hs he hpl hall hnone hks
theorem foldl_or : ∀ (l : List Bool) (m : Bool), l.foldl (fun a y => if (!a && y) = true then y else a) m = (m || l.any id)
  | [], m => by simp
  | x :: r, m => by
    rw [List.foldl_cons, foldl_or r]
    cases m <;> cases x <;> simp
theorem ed_maxB {ys : List Bool} (ha : EQ X δ a (ys.map .bool)) (hb : ED X δ b (.bool false)) (hm : mg "max" = none) (hg : ∀ i, Gl (X i) "max" := by intro _; rfl) (hs : ∀ i, starEach [a] (X i).env = [(false, eval a (X i).env)] := by intro _; rfl)
    (he : ∀ i, backTo pos (starEach [a] (X i).env) = (false, eval a (X i).env) :: backTo pos (starEach [] (X i).env) := by intro _; rfl) (hpl : ∀ i, (backTo pos (starEach [a] (X i).env)).any (·.1) = false := by intro _; rfl)
    (hall : ∀ i, (backToKw pos (keywordEach [⟨some "default", b, kpos⟩] (X i).env)).all (·.1.isSome) = true := by intro _; rfl) (hnone : ∀ i, (backToKw pos (keywordEach [⟨some "default", b, kpos⟩] (X i).env)).any (·.1.isNone) = false := by intro _; rfl)
    (hks : ∀ i, (backToKw pos (keywordEach [⟨some "default", b, kpos⟩] (X i).env)).filterMap (·.1) = [Str.ofString "default"] := by intro _; rfl) : ED X δ (.Call (.Name "max" p) [a] [⟨some "default", b, kpos⟩] pos) (.bool (ys.any id)) :=
  ed_maxD (α := Bool) (toV := V.bl) (ys := ys) ha hb rfl rel_bool (fun _ _ => .bl _) hm (fun e => by subst e; rfl) (fun y r e => by
    subst e
    show PyData.bool _ = PyData.bool _
    congr 1
    unfold PySem.W.maxOf
    refine Eq.trans ?_ (foldl_or (M := M) r y).symm
    simp) hg hs he hpl hall hnone hks
/-- all items of a list, one variable -/
theorem el_lcAll (own : List (Str × Nat)) {elt tg iter : Expr} {scope : Scope} {α : Type} {xs : List α} {enc : α → PyData} {f : α → PyData} (hi : IS X δ tg iter (xs.map enc)) (hl : xs.length ≤ 16000000) (ht : ∀ x ∈ xs, LcTurn X scope δ (own.map (·.2)) tg [] elt (enc x) true (f x))
    (ok : ∀ i, BlkOk (X i).N (X i).env.scope scope own := by intro _; exact blkOk_by (by kernel_rfl)) (hs : ∀ i x, foldedSetIterable iter (X i).env x = pure x := by intro _ _; rfl) : EL X δ (.ListComp elt [⟨tg, iter, [], 0⟩] scope pos) (xs.map f) :=
  (el_lc own (c := fun _ => true) hi hl ht ok hs).is (by rw [List.filter_eq_self.mpr (fun _ _ => rfl)])
theorem ds_setLcAll {J : DK} (i : Nat) (own : List (Str × Nat)) {elt tg iter : Expr} {scope : Scope} {spos : Pos} {α : Type} {xs : List α} {enc : α → PyData} {f : α → PyData} (hi : IS X δ tg iter (xs.map enc)) (hlen : xs.length ≤ 16000000) (ht : ∀ x ∈ xs, LcTurn X scope δ (own.map (·.2)) tg [] elt (enc x) true (f x))
    (k : J.nx (δ.set i (some (.lst (xs.map f))))) (hy : ∀ j, (X j).N[i]? = some x := by intro _; rfl) (hyl : ∀ j, (X j).env.scope.names.lookup x = some .local := by intro _; rfl) (hl : i < δ.length := by exact Nat.le_of_ble_eq_true rfl)
    (hsw : ∀ j, swapsWith (.ListComp elt [⟨tg, iter, [], 0⟩] scope pos) (some (.Name x p)) spos.line (X j).env = pure true := by intro _; exact sw_true rfl rfl rfl (by kernel_rfl))
    (ok : ∀ i, BlkOk (X i).N (X i).env.scope scope own := by intro _; exact blkOk_by (by kernel_rfl)) (hs : ∀ i x, foldedSetIterable iter (X i).env x = pure x := by intro _ _; rfl) : DS X δ (.Assign [.Name x p] (.ListComp elt [⟨tg, iter, [], 0⟩] scope pos) spos) J :=
  ds_setLc i own (c := fun _ => true) hi hlen ht (by rw [List.filter_eq_self.mpr (fun _ _ => rfl)]; exact k) hy hyl hl hsw ok hs
end
end DL

namespace DL
open PySem L2
/-! ### xs[:0:-1]: all but the first, from the last -/
theorem rt_bounds (n : Nat) : sliceBounds none (some 0) (some (-1)) n = ((n : Int) - 1, min 0 ((n : Int) - 1), -1) := by
  simp only [sliceBounds]
  first
  | rfl
  | (simp; omega)
theorem rt_range (n : Nat) : sliceRange ((n : Int) - 1) (min 0 ((n : Int) - 1)) (-1) = (List.range (n - 1)).map fun k => n - 1 - k := by
  unfold sliceRange
  have h1 : ¬ ((-1 : Int) > 0) := by decide
  by_cases h : n ≤ 1
  · have e : ¬ ((n : Int) - 1 > min 0 ((n : Int) - 1)) := by omega
    simp only [h1, if_false, e]
    rw [show n - 1 = 0 by omega]
    rfl
  · have e : ((n : Int) - 1 > min 0 ((n : Int) - 1)) := by omega
    have e2 : (((n : Int) - 1) - min 0 ((n : Int) - 1) - -1 - 1) / (- -1) = (n - 1 : Nat) := by
      rw [show (- -1 : Int) = 1 by decide, Int.ediv_one]
      omega
    simp only [h1, if_false, e, if_true, e2, Int.toNat_natCast]
    apply List.map_congr_left
    intro k hk
    have := List.mem_range.mp hk
    omega
theorem fm_congr {α β : Type} {f g : α → Option β} : ∀ l : List α, (∀ x ∈ l, f x = g x) → l.filterMap f = l.filterMap g
  | [], _ => rfl
  | x :: r, h => by
    rw [List.filterMap_cons, List.filterMap_cons, h x List.mem_cons_self, fm_congr r fun y hy => h y (List.mem_cons_of_mem _ hy)]
theorem rt_pick {items : Array Value} : slicePick items none (some 0) (some (-1)) = (items.toList.drop 1).reverse.toArray := by
  unfold slicePick
  rw [rt_bounds]
  show ((sliceRange ((items.size : Int) - 1) (min 0 ((items.size : Int) - 1)) (-1)).filterMap (items[·]?)).toArray = _
  rw [rt_range]
  congr 1
  rw [List.filterMap_map]
  have e : (List.range (items.size - 1)).filterMap ((fun x => items[x]?) ∘ fun k => items.size - 1 - k) = (List.range (items.size - 1)).filterMap (fun k => some ((items.toList.drop 1).reverse.getD k Value.none)) := by
    refine fm_congr _ fun k hk => ?_
    have hk' := List.mem_range.mp hk
    have hl : k < (items.toList.drop 1).reverse.length := by simp; omega
    rw [List.getD_eq_getElem?_getD, List.getElem?_eq_getElem hl]
    show items[items.size - 1 - k]? = _
    rw [Array.getElem?_eq_getElem (by omega)]
    simp
    congr 1
    omega
  rw [e, List.filterMap_eq_map']
  apply List.ext_getElem
  · simp
  · intro i h1 h2
    simp only [List.getElem_map, List.getElem_range]
    rw [List.getD_eq_getElem?_getD, List.getElem?_eq_getElem h2]
    rfl
open PySem.Spec PyProof.Rows in
def tRevT (K : PySem.W.Frag) (te : TE) : TE := fun σ H Q => te σ H fun x H1 => ∃ a xs, x = .ref a ∧ SqL K H1 a xs ∧ ∀ p, H1 p = none → Q (.ref p) (upd H1 p (.lst (xs.drop 1).reverse))
section
open PySem.Spec PyProof.Rows
variable {X : Cx}
theorem pe_revT {e : Expr} {te : TE} {k k2 : Nat} {p0 p1 p2 p3 pos : Pos} (he : PE X e te) : PE X (.Subscript e (.Slice none (some (.Constant (.int 0) k2 p0)) (some (.UnaryOp .USub (.Constant (.int 1) k p1) p2)) p3) pos) (tRevT X.K te) := by
  refine ⟨fun pins s σ H Q I h => ?_⟩
  refine Subscript_ (thn (he.run pins s σ H _ I h) fun v s1 ⟨x, H1, I1, r1, q1⟩ => ?_)
  obtain ⟨a, xs, ex, hx, q⟩ := q1
  subst ex
  cases r1
  have hst : PO X (some (.UnaryOp .USub (.Constant (.int 1) k p1) p2)) (tPart (tUn (rU fun i => .int (-i)) (tC (.int 1)))) := po_some (pe_un un_neg pe_int)
  have hup : PO X (some (.Constant (.int 0) k2 p0)) (tPart (tC (.int 0))) := po_some pe_int
  refine wpAny_Slice (thn (po_none.run pins s1 σ H1 (fun o H2 => o = none ∧ H2 = H1) I1 ⟨rfl, rfl⟩) fun vl s2 ⟨l, H2, I2, pl, el, e2⟩ => ?_)
  subst el e2
  refine thn (hup.run pins s2 σ H2 (fun o H3 => o = some 0 ∧ H3 = H2) I2 ⟨0, rfl, rfl, rfl⟩) fun vu s3 ⟨u, H3, I3, pu, eu, e3⟩ => ?_
  subst eu e3
  refine thn (hst.run pins s3 σ H3 (fun o H4 => o = some (-1) ∧ H4 = H3) I3 ⟨1, rfl, -1, rfl, rfl, rfl⟩) fun vs s4 ⟨o, H4, I4, ps, eo, e4⟩ => ?_
  subst eo e4
  have I5 : Inv X pins σ H4 { s4 with heap := s4.heap.push { cls := .type "slice", data := .fields #[vl, vu, vs] } } := I4.kept (t' := s4.toks) fun b ob q => Heap.get?_push_of_some _ q
  obtain ⟨its, r, ht, hz⟩ := I5.list hx
  have hlen := r.length
  show wpAny (model X.prog X.w) X.A (subscriptTail e (.Slice none (some (.Constant (.int 0) k2 p0)) (some (.UnaryOp .USub (.Constant (.int 1) k p1) p2)) p3) (.ref a) (.ref s4.heap.objs.size)) (EP X pins σ Q) X.xe { s4 with heap := s4.heap.push { cls := .type "slice", data := .fields #[vl, vu, vs] } }
  refine tail_any (ops := [.ref a, .ref s4.heap.objs.size]) ht.isList.typeIs (PySem.slot_list_getitem.lookup) ?_ (by with_unfolding_all rfl)
  refine wpAny_getItem_list_slice ht.isList (Heap.IsSliceOf.new _ vl vu vs) pl pu ps (by decide) ?_ (by rw [List.size_toArray]; omega)
  rw [rt_pick]
  refine ⟨.ref _, _, I5.laid (t' := s4.toks) (o := .lst (xs.drop 1).reverse) (fun b ob q => Heap.get?_push_of_some _ q) (Nat.le_refl _) ?_, rfl, q _ (I5.hok.fresh (Nat.le_refl _))⟩
  exact ⟨by rw [List.length_reverse, List.length_drop]; omega, _, 0, (r.drop 1).reverse, Heap.get?_push_size _ rfl⟩
end
theorem DqAll.reverse {G : Hp} : ∀ {ds : List PyData} {vs : List V}, DqAll G vs ds → DqAll G vs.reverse ds.reverse
  | [], _, .nil => .nil
  | _ :: _, _, .cons r t => by
    rw [List.reverse_cons, List.reverse_cons]
    exact t.reverse.append (.cons r .nil)
section
variable {ι : Type} {X : ι → Cx} {δ : DEnv} {P : Program} {w : World} {K : PySem.W.Frag} {mg : Str → Option Value} {base : Heap} {k kk : Nat} [M : Fm X P w K mg base k] {e a b c : Expr} {es : List Expr} {d d1 d2 d3 : PyData} {ds : List PyData} {pos p apos kpos : Pos} {x : Str}
include M
theorem el_revT {k1 k2 : Nat} {p0 p1 p2 p3 : Pos} (ha : EQ X δ a ds) : EL X δ (.Subscript a (.Slice none (some (.Constant (.int 0) k2 p0)) (some (.UnaryOp .USub (.Constant (.int 1) k1 p1) p2)) p3) pos) (ds.drop 1).reverse := fun G0 H0 σ G H rp Q q =>
  ⟨tRevT K (uE X a), fun i => by rw [← M.frag i]; exact pe_revT (uE_ok i), ha G0 H0 σ G H rp _ fun p xs G1 H1 f1 hp hd => by
    refine ⟨p, xs, rfl, SqL.of hp, fun n hn => ?_⟩
    have f2 := Fx.lay f1.s hn (.lst (xs.drop 1).reverse)
    exact q n _ G1 _ (f1.trans f2) (f1.h.free hn) upd_same (f1.s.free hn) (hd.drop 1).reverse⟩
end
end DL

namespace DL
open PySem L2
/-! ### enumerate(tuple) -/
section
open AutoSeq1 (wpAny_loadPart')
theorem meets_enumT (l : Addr) (items : Array Value) (n : Nat) (dct : Option Addr) (sl : Array (Option Value)) :
    PySem.Meets (Builtin.«enumerate.__new__» ⟨[.type "enumerate", .ref l], []⟩) (fun _ R s => s.heap.get? l = some { cls := .type "tuple", dict := dct, data := .seq items n, slots := sl } ∧
      R (.ok (.ret (.ref (s.heap.push { cls := .type "tuple_iterator", data := .fields #[.ref l, .int 0 0] }).objs.size)))
        { s with heap := (s.heap.push { cls := .type "tuple_iterator", data := .fields #[.ref l, .int 0 0] }).push { cls := .type "enumerate", data := .fields #[.none, .bool false, .ref s.heap.objs.size, rawInt 0, .none, .none] } }) :=
  .of_wp fun prog w A R s h => by
    obtain ⟨hp, g, d, tk, os⟩ := s; obtain ⟨hl, h⟩ := h
    have hsub := sub_enumerate
    have hL : Heap.IsTuple (Shared.heap ⟨hp, g, d, tk, os⟩) l items := ⟨_, hl, rfl, n, rfl⟩
    wp_walk using wpAny_loadPart' hl
    refine wpAny_stack_any fun st => wpAny_pure ?_
    split
    · rename_i c _ _ _ _ _
      cases (c == Value.type "enumerate")
      · wp_walk using wpAny_loadPart' hl, wpAny_pyIter_tuple hL
        exact ⟨_, rfl, h⟩
      · wp_walk using wpAny_loadPart' hl, wpAny_pyIter_tuple hL
        exact ⟨_, rfl, h⟩
    · wp_walk using wpAny_loadPart' hl, wpAny_pyIter_tuple hL
      exact ⟨_, rfl, h⟩
end
theorem call_enumT {prog : Program} {w : World} {A : Around} {E : Value → Shared → Prop} {s : Shared} {l : Addr} {items : Array Value} {Q : Value → Shared → Prop} (hL : s.heap.IsTuple l items)
    (h : ∀ h', IsEnum h' (s.heap.objs.size + 1) s.heap.objs.size 0 .none → h'.IsTupleIter s.heap.objs.size l 0 → h'.objs.size = s.heap.objs.size + 2 →
      (∀ b o, s.heap.get? b = some o → h'.get? b = some o) → Q (.ref (s.heap.objs.size + 1)) { s with heap := h' }) :
    wpAny (model prog w) A (call (.type "enumerate") [.ref l]) Q E s := by
  obtain ⟨⟨c, dct, dt, sl⟩, hl, hc, n, hd⟩ := hL
  replace hc : c = .type "tuple" := hc
  replace hd : dt = .seq items n := hd
  subst hc hd
  refine callType_new F.called_enumerate (by decide) (F.typeCall_enumerate_1 _) (F.newCall_enumerate_1 _) (fun obj => F.args_object_init_2 obj _) F.entry_enumerate_new
    (meets_enumT l items n dct sl) ⟨hl, ?_⟩
  have hz : (s.heap.push { cls := .type "tuple_iterator", data := .fields #[.ref l, .int 0 0] }).objs.size = s.heap.objs.size + 1 := Heap.size_push ..
  show _ ∧ _
  rw [hz]
  have he : IsEnum ((s.heap.push { cls := .type "tuple_iterator", data := .fields #[.ref l, .int 0 0] }).push
      { cls := .type "enumerate", data := .fields #[.none, .bool false, .ref s.heap.objs.size, rawInt 0, .none, .none] }) (s.heap.objs.size + 1) s.heap.objs.size 0 .none := by
    have := Heap.get?_push_size (s.heap.push { cls := .type "tuple_iterator", data := .fields #[.ref l, .int 0 0] })
      (o := { cls := .type "enumerate", data := .fields #[.none, .bool false, .ref s.heap.objs.size, rawInt 0, .none, .none] }) rfl
    rw [hz] at this; exact this
  refine ⟨⟨_, he, rfl⟩, h _ he ⟨_, Heap.get?_push_of_some _ (Heap.get?_push_size _ rfl), rfl, rfl⟩ (by rw [Heap.size_push, hz]) fun b o x => Heap.get?_push_of_some _ (Heap.get?_push_of_some _ x)⟩
def IteT (K : PySem.W.Frag) (a : Addr) : It :=
  ⟨fun i H => ∃ (xs : List V) (x : V), SqT K H a xs ∧ xs[i]? = some x, fun i H v H' => ∃ T x, v = .ref T ∧ H T = none ∧ H' = upd H T (.tup [.int (i : Nat), x]) ∧ ∀ xs, SqT K H a xs → xs[i]? = some x, fun i H => ∃ xs : List V, SqT K H a xs ∧ xs.length = i⟩
theorem turn_enumT {P : Program} {w : World} {K : PySem.W.Frag} {elts : List Expr} {kk : Nat} {tpos : Pos} (a e it : Addr) (hai : a ≠ it) (hae : a ≠ e) :
    Turn P w K (.Tuple elts kk tpos) (IteT K a) [e, it] e (fun i h => (∃ old, IsEnum h e it ((i : Nat) : Int) old) ∧ h.IsTupleIter it a i ∧ e ≠ it) where
  mem := by simp
  obj := fun i h st b hb => by
    obtain ⟨⟨old, he⟩, ⟨o, ho, hc, hd⟩, _⟩ := st
    have e' : b = e ∨ b = it := by simpa using hb
    rcases e' with z | z
    · rw [z]; exact ⟨_, he, fun v q => nomatch q⟩
    · rw [z]; exact ⟨o, ho, fun v q => by rw [hd] at q; cases q⟩
  keep := fun i h h' st k => let ⟨⟨old, he⟩, hi, hne⟩ := st; ⟨⟨old, k e (by simp) _ he⟩, hi.at fun o q => k it (by simp) o q, hne⟩
  item := by
    intro X hP hw hK hc i pins s σ H E I hf st hg
    subst hP hw hK
    obtain ⟨⟨old, he⟩, hit, hne⟩ := st
    obtain ⟨xs, x, hq, hx⟩ := hg
    obtain ⟨its, rv, p, hz⟩ := I.tuple hq
    obtain ⟨u, hu, ru⟩ := rv.get hx
    have hel : e < s.heap.objs.size := Heap.lt_size he
    have hil : it < s.heap.objs.size := by obtain ⟨_, q, _⟩ := hit; exact Heap.lt_size q
    have hpt : s.heap.IsTuple a its.toArray := p
    have hil2 : i < its.toArray.size := by
      have := (List.getElem?_eq_some_iff.mp hu).1
      simpa using this
    refine wpAny_pyNext_enum_itemD (Draws.tuple (A := X.A.in1) (I.ok.hd hc) it a hai its.toArray) he ⟨hit, hpt⟩ hil2 hne (by simp [hne, Ne.symm hae]) fun y h' tk hy ho hst hT hsz hk => ?_
    have ey : y = u := by
      have : its.toArray[i]? = some u := by simpa using hu
      rw [this] at hy
      exact (Option.some.inj hy).symm
    subst ey
    have hit' := hst.1
    refine ⟨_, rfl, wpAny_letOwnedTupleGo_enum (s := { s with heap := h', toks := tk + 1 }) ho fun h'' he' sb => ?_⟩
    have hT2 : h''.get? s.heap.objs.size = some { cls := .type "tuple", data := .seq #[.int i tk, y] } := (sb.2 _ (Nat.ne_of_gt hel)).trans hT
    have new : ObjOk X.prog X.w (upd H s.heap.objs.size (.tup [.int (i : Nat), x])) h'' s.heap.objs.size (.tup [.int (i : Nat), x]) :=
      ⟨by show 2 ≤ sizeLine; decide, [.int i tk, y], .cons ⟨_, rfl⟩ (.cons ru .nil), ⟨_, hT2, rfl, _, rfl⟩⟩
    have I1 : Inv X pins σ (upd H s.heap.objs.size (.tup [.int (i : Nat), x])) { s with heap := h'', toks := tk + 1 } :=
      I.turnedNew (ch := [e, it]) (fun b ob hb q => (sb.2 b (fun z => hb (by simp [z]))).trans (hk b ob (fun z => hb (by simp [z])) (fun z => hb (by simp [z])) q)) hf (Nat.le_refl _) new
    refine ⟨.ref s.heap.objs.size, _, I1, rfl, ⟨_, x, rfl, I.hok.fresh (Nat.le_refl _), rfl, fun ys hy => by rw [I.tuple_inj hy hq]; exact hx⟩, ⟨⟨y, ?_⟩, hit'.at fun o q => (sb.2 it (Ne.symm hne)).trans q, hne⟩, fun b hb => ?_⟩
    · have e1 : ((i + 1 : Nat) : Int) = (i : Int) + 1 := by omega
      rw [e1]; exact he'
    · have hb' : b < s.heap.objs.size := by
        have e' : b = e ∨ b = it := by simpa using hb
        rcases e' with z | z
        · rw [z]; exact hel
        · rw [z]; exact hil
      rw [upd_ne (Nat.ne_of_lt hb')]
      exact (hf b hb).1
  done := by
    intro X hP hw hK hc i pins s σ H E I hf st hg
    subst hP hw hK
    obtain ⟨⟨old, he⟩, hit, hne⟩ := st
    obtain ⟨xs, hq, hx⟩ := hg
    obtain ⟨its, rv, p, hz⟩ := I.tuple hq
    obtain ⟨f0, f1, f2, f3, f4, f5⟩ := hf it (by simp)
    have hl := rv.length
    have hpt : s.heap.IsTuple a its.toArray := p
    have hsz : its.toArray.size = i := by rw [List.size_toArray]; omega
    refine wpAny_pyNext_enum_endD (Draws.tuple (A := X.A.in1) (I.ok.hd hc) it a hai its.toArray) he ⟨by rw [hsz]; exact hit, hpt⟩ fun h' eb => ⟨rfl, I.turned (t' := s.toks) (fun b o hb q => eb b o hb q) f0 f1 f3 f4 f5⟩
  self := fun A i s Q E st h => let ⟨⟨_, he⟩, _⟩ := st; wpAny_pyIter_enum he h
def iEnumT (K : PySem.W.Frag) (ta : TA) : TI := fun σ H R => ta σ H fun vs H1 => ∃ a xs, vs = [.ref a] ∧ SqT K H1 a xs ∧ R (IteT K a) H1
open PySem.Spec PyProof.Rows in
theorem pi_enumT {X : Cx} {e : Expr} {ta : TA} {p pos tpos : Pos} {elts : List Expr} {kk : Nat} (hg : Gl X "enumerate") (hm : X.mg "enumerate" = none) (ha : PA X [e] ta) (hs : starEach [e] X.env = [(false, eval e X.env)] := by rfl) :
    PI X (.Tuple elts kk tpos) (.Call (.Name "enumerate" p) [e] [] pos) (iEnumT X.K ta) := by
  refine ⟨fun pins s σ H R I h => ?_⟩
  refine Call_ (ld_blt I hg hm boot_enumerate (PyProof.Rows.callWith_type1 (thn (ha.run pos pins s σ H _ I h) fun us s1 ⟨vs, H1, I1, r1, q1⟩ => ?_) hs rfl))
  obtain ⟨a, xs, ex, hq, q⟩ := q1
  subst ex
  cases r1 with
  | cons r rr =>
    cases rr
    cases r
    obtain ⟨its, rv, p', hz⟩ := I1.tuple hq
    have hal : a < s1.heap.objs.size := by
      obtain ⟨o, ho, _⟩ := p'
      exact Heap.lt_size ho
    refine call_enumT (show s1.heap.IsTuple a its.toArray from p') fun h' he hit hsz hk => wpAny_pyIter_enum he ?_
    have I2 : Inv X pins σ H1 { s1 with heap := h' } := I1.kept (t' := s1.toks) hk
    refine ⟨s1.heap.objs.size + 1, [s1.heap.objs.size + 1, s1.heap.objs.size], _, _, H1, rfl, I2, turn_enumT a (s1.heap.objs.size + 1) s1.heap.objs.size (Nat.ne_of_lt hal) (Nat.ne_of_lt (Nat.lt_succ_of_lt hal)), ⟨⟨.none, he⟩, hit, Nat.succ_ne_self _⟩, fun b hb => ?_, q⟩
    have e' : b = s1.heap.objs.size + 1 ∨ b = s1.heap.objs.size := by simpa using hb
    have hle : s1.heap.objs.size ≤ b := by
      rcases e' with z | z
      · rw [z]; exact Nat.le_add_right _ _
      · rw [z]; exact Nat.le_refl _
    exact I1.fpOk hle (I1.hok.fresh hle)
theorem walk_enumT {K : PySem.W.Frag} {a : Addr} {xs : List V} : Walk (IteT K a) xs.length (fun H => SqT K H a xs) (YPair (fun i => some (.int (i : Nat))) (fun i => xs[i]?)) :=
  ⟨fun i _ hi q => ⟨xs, xs[i], q, by simp [hi]⟩, fun _ q => ⟨xs, q, rfl⟩, fun i H v H' hi q y => by
    obtain ⟨T, x, rfl, h1, rfl, h2⟩ := y
    exact ⟨T, _, x, rfl, h1, rfl, rfl, h2 xs q⟩⟩
section
variable {ι : Type} {X : ι → Cx} {δ δ' : DEnv} {P : Program} {w : World} {K : PySem.W.Frag} {mg : Str → Option Value} {base : Heap} {k : Nat} [M : Fm X P w K mg base k] {e tg : Expr} {d : PyData} {ds : List PyData} {pos p : Pos} {x : Str}
include M
theorem is_enumT {elts : List Expr} {kk : Nat} {tpos : Pos} (h : ED X δ e (.tuple ds)) (hm : mg "enumerate" = none) (hg : ∀ i, Gl (X i) "enumerate" := by intro _; rfl) (hs : ∀ i, starEach [e] (X i).env = [(false, eval e (X i).env)] := by intro _; rfl) :
    IS X δ (.Tuple elts kk tpos) (.Call (.Name "enumerate" p) [e] [] pos) (ds.zipIdx.map fun z => .tuple [.int z.2, z.1]) := fun G0 H0 σ G H rp R q =>
  ⟨iEnumT K (tCons (uE X e) tNil), fun i => by rw [← M.frag i]; exact pi_enumT (hg i) (by rw [M.glob i]; exact hm) (pa_cons (uE_ok i) pa_nil (hs i)) (hs i), h G0 H0 σ G H rp _ fun v G1 H1 f1 hv => by
    cases hv with
    | @tup a xs _ h1 h2 =>
      refine ⟨a, xs, rfl, SqT.of (f1.s _ _ h1), q _ G1 H1 f1 ⟨⟨fun H' => SqT K H' a xs, YPair (fun i => some (.int (i : Nat))) (fun i => xs[i]?), ?_, fun H' s => SqT.of (s _ _ h1), fun i H' x H'' G' hi s s' y => ?_⟩⟩⟩
      · have e1 : (ds.zipIdx.map fun z => PyData.tuple [.int z.2, z.1]).length = xs.length := by simp [h2.length]
        rw [e1]
        exact walk_enumT (K := K) (a := a)
      · obtain ⟨T, z, u, rfl, hT, rfl, hz, hu⟩ := y
        cases hz
        obtain ⟨d, hd, hx⟩ := (DqAll.mono s _ _ h2).getV hu
        have f2 := Fx.new s' hT (.tup [.int (i : Nat), u])
        refine ⟨_, .tuple [.int i, d], by simp [hd], f2, .tup upd_same (.cons (.int _) (.cons (Dq.mono f2.g _ _ hx) .nil))⟩⟩
end
end DL

namespace DL
open PySem L2
/-! ### results of which only something is known: a new list -/
def EN {ι : Type} (X : ι → Cx) (δ : DEnv) (e : Expr) (Po : List PyData → Prop) : Prop := ∀ (G0 H0 : Hp) (σ : L2.St) (G H : Hp), Rp G0 H0 δ σ G H → ∀ Q : VK, (∀ ds p xs G' H', Po ds → Fx G H G' H' → H p = none → H' p = some (.lst xs) → G' p = none → DqAll G' xs ds → Q (.ref p) H') → uE X e σ H Q
def SpN (R : List Sl → (List PyData → Prop) → Prop) : Sp := fun vs H Q _ => ∃ (G : Hp) (as : List Sl) (Po : List PyData → Prop), Same G H ∧ ArgsOk G as vs ∧ R as Po ∧ ∀ ds v G' H', Po ds → Fx G H G' H' → RsOk H G' H' (.lst ds) v → Q v H'
structure Dfn (P : Program) (w : World) (K : PySem.W.Frag) (mg : Str → Option Value) (base : Heap) (x : Str) (k : Nat) (ps : List Str) (R : List Sl → (List PyData → Prop) → Prop) : Prop where
  ex : ∃ (f : Addr) (fd : FuncData), FnOk P w K mg base CX0 k f fd ps (SpN R) ∧ mg x = some (.ref f) ∧ PySem.W.keepIn K (.ref f) = true ∧ Binds K fd ps []
section
variable {ι : Type} {X : ι → Cx} {δ : DEnv} {P : Program} {w : World} {K : PySem.W.Frag} {mg : Str → Option Value} {base : Heap} {k kk : Nat} [M : Fm X P w K mg base k] {e a b c : Expr} {es : List Expr} {d d1 d2 : PyData} {ds : List PyData} {pos p apos : Pos} {x m : Str} {ps : List Str} {R : List Sl → (List PyData → Prop) → Prop} {as : List Sl} {Po : List PyData → Prop} {J : DK}
include M
theorem en_call (F : Dfn P w K mg base x kk ps R) (ha : EA X δ (e :: es) as) (hr : R as Po) (hk : kk ≤ k := by decide) (hg : ∀ i, Gl (X i) x := by intro _; rfl)
    (hs : ∀ i, starEach (e :: es) (X i).env = (false, eval e (X i).env) :: starEach es (X i).env := by intro _; rfl) (hpl : ∀ i, (backTo pos (starEach es (X i).env)).any (·.1) = false := by intro _; rfl)
    (hdb : (x == ("__debug__" : Str)) = false := by decide) : EN X δ (.Call (.Name x p) (e :: es) [] pos) Po := fun G0 H0 σ G H rp Q q => by
  obtain ⟨f, fd, F, h1, h2, h3⟩ := F.ex
  refine ⟨tCall (SpN R) [] E0 (uA X (e :: es)), fun i => pe_call (Fm.fn M F i) ((M.room i).mono hk) (hg i) (by rw [M.glob i]; exact h1) (by rw [M.frag i]; exact h2) (by rw [M.frag i]; exact h3) .nil pass0 (uA_ok i) hdb (hs i) (hpl i), ?_⟩
  refine ha G0 H0 σ G H rp _ fun vs G1 H1 f1 hv => ⟨G1, as, Po, f1.s, by rw [List.append_nil]; exact hv, hr, fun ds v G2 H2 hp f2 hq => ?_⟩
  obtain ⟨p, xs, rfl, h1, h2, h3, h4⟩ := hq
  exact q ds p xs G2 H2 hp (f1.trans f2) (f1.h.free h1) h2 h3 h4
theorem ds_setN (i : Nat) (he : EN X δ e Po) (k : ∀ ds, Po ds → J.nx (δ.set i (some (.lst ds)))) (hi : ∀ j, (X j).N[i]? = some x := by intro _; rfl) (hx : ∀ j, Loc (X j).env.scope x := by intro _; first | exact Or.inl rfl | exact Or.inr rfl) (hf : ∀ j, (X j).fn x = true ∨ (X j).env.scope.names.lookup x = some .local := by intro _; first | exact .inl rfl | exact .inr rfl)
    (hl : i < δ.length := by exact Nat.le_of_ble_eq_true rfl) (hs : ∀ i, swapsWithSole [.Name x p] e pos.line (X i).env = pure false := by intro _; rfl) (hw : ∀ i, swappedStores [.Name x p] e (X i).env = pure none := by intro _; rfl)
    (h1 : ∀ i, (assignEach [.Name x p] (X i).env).map (·.2) = [assign (.Name x p) (X i).env] := by intro _; rfl) : DS X δ (.Assign [.Name x p] e pos) J := fun G0 H0 σ G H D r m =>
  ⟨tAsg (uE X e) (gName i), fun j => ps_asg (uE_ok j) (pg_name (M.nd j) (hi j) (hx j) (hf j)) (hs j) (hw j) (h1 j), he G0 H0 σ G H r _ fun ds a xs G1 H1 hp f1 h1 h2 h3 h4 => m.nx _ _ G1 H1 (setL_of (M := M) r f1 hl h1 h2 h3 h4) (k ds hp)⟩
end
section
variable {P : Program} {w : World} {K : PySem.W.Frag} {mg : Str → Option Value} {base : Heap} {x qual : Str} {st : Stmt} {f : Addr} {fd : FuncData} {N ps : List Str} {k : Nat} {R : List Sl → (List PyData → Prop) → Prop}
theorem dfn_mk (F : Fun K x qual st f fd) (S : FnScope N ps (defScope st)) (hm : mg x = some (.ref f)) (hbd : Binds K fd ps []) (len : ∀ as r, R as r → as.length = ps.length)
    (hb : ∀ (cdv : Value) (A : Around) (outer : List Env) (s : Shared) (H : Hp) (E : XK), Fm (fcx P w K mg base N qual st f cdv A outer s H E) P w K mg base k → ∀ as Po, R as Po →
      DB (fcx P w K mg base N qual st f cdv A outer s H E) (env0 as N.length) (defBody st) { nx := fun _ => False, rt := fun r' => ∃ ds, r' = .lst ds ∧ Po ds }) : Dfn P w K mg base x (k + 1) ps R := by
  refine ⟨f, fd, ?_, hm, F.kp, hbd⟩
  refine F.ok S (fun vs H Q E h => ?_) (fun cdv A outer s H vs Q E hr h => ?_)
  · obtain ⟨G, as, r, _, ha, hR, _⟩ := h
    rw [← Paired.length ha]
    exact len as r hR
  · obtain ⟨G, as, Po, sm, ha, hR, q⟩ := h
    have M : Fm (fcx P w K mg base N qual st f cdv A outer s H E) P w K mg base k :=
      ⟨fun _ => rfl, fun _ => rfl, fun _ => rfl, fun _ => rfl, fun _ => rfl, fun _ => rfl, fun _ => hr, fun _ => S.nd, fun _ => PassesOwn.never⟩
    refine ⟨uB (fcx P w K mg base N qual st f cdv A outer s H E) (defBody st), uB_ok (X := fcx P w K mg base N qual st f cdv A outer s H E) (), ?_⟩
    refine hb cdv A outer s H E M as Po hR G H _ G H _ (rp_start sm ha) ⟨fun _ _ _ _ _ z => z.elim, fun r' v G' H' f' h' e => ?_, fun _ _ _ _ _ z => z.elim, fun _ _ _ _ _ z => z.elim⟩
    obtain ⟨ds, rfl, hp⟩ := e
    exact q ds v G' H' hp f' h'
end
end DL

namespace DL
open PySem L2
open PySem.Spec PyProof.Rows
/-! ### sets of one kind of keys whose table can be walked: set(list), sorted(set) -/
section
variable {P : Program} {w : World} {κ : Type} [DecidableEq κ]
def SetG (kn : PySem.KeyKind P w κ) (h : Heap) (a : Addr) (S : κ → Bool) (n : Nat) : Prop :=
  ∃ ob es ep t, h.get? a = some ob ∧ ob.ExactSet ∧ ob.data = .set es ep t ∧ ElemsOf kn es.toList ∧ (∀ k, S k = true ↔ ∃ e ∈ es.toList, kn.is k e.2 = true) ∧ es.size < scanBound ∧ t.fits es.size = true ∧ es.size = n ∧ Ris t.place.toList ∧ (w.params.followText "set-order" = true ∨ t.led = true)
variable {kn : PySem.KeyKind P w κ} {A : Around} {E : Value → Shared → Prop} {s : Shared} {a : Addr} {S : κ → Bool} {n : Nat}
theorem SetG.to {h h' : Heap} (R : SetG kn h a S n) (k : ∀ o, h.get? a = some o → h'.get? a = some o) : SetG kn h' a S n := by
  obtain ⟨ob, es, ep, t, ho, r⟩ := R
  exact ⟨ob, es, ep, t, k ob ho, r⟩
theorem SetG.eq {h : Heap} {S' : κ → Bool} (R : SetG kn h a S n) (e : ∀ k, S k = S' k) : SetG kn h a S' n := by
  have : S = S' := funext e
  rw [← this]
  exact R
theorem setG_store {g : Bool → Sem Unit} (hg : ∀ (b : Bool) (s1 : Shared) (Q1 : Unit → Shared → Prop), Q1 () s1 → wpAny (model P w) A (g b) Q1 E s1)
    {ob : Obj} {es : Array (Int × Value)} {ep : Nat} {t : SetTable} (ho : s.heap.get? a = some ob) (hex : ob.ExactSet) (hd : ob.data = .set es ep t)
    {es1 : Array (Int × Value)} {t2 : SetTable} {S1 : κ → Bool} (g1 : ElemsOf kn es1.toList) (m1 : ∀ k, S1 k = true ↔ ∃ e ∈ es1.toList, kn.is k e.2 = true)
    (hb1 : es1.size < scanBound) (hf2 : t2.fits es1.size = true) (hr : Ris t2.place.toList) (hl : w.params.followText "set-order" = true ∨ t2.led = true) {dummy : Bool} {R : Option Bool → Shared → Prop}
    (hR : ∀ h1, Heap.SameBut a s.heap h1 → SetG kn h1 a S1 es1.size → R (some true) { s with heap := h1 }) :
    wpAny (model P w) A (do
        storeSet a es1 t2
        if (!dummy && t2.tooFull) = true then do
            g (relayAll t2 es1 (SetTable.grown es1.size)).2.2
            storeSet a (relayAll t2 es1 (SetTable.grown es1.size)).1 (relayAll t2 es1 (SetTable.grown es1.size)).2.1
            pure (some true)
          else pure (some true)) R E s := by
  refine wpAny_bind (wpAny_storeSet_of ho hd ?_ (fits_of_scanBound hb1))
  have st1 := store_at (es' := es1) (t' := t2) ho hd
  have sm1 := Heap.SameBut.update s.heap a (Obj.putSet es1 t2)
  split
  · have pm := relayAll_perm t2 es1 (SetTable.grown es1.size)
    have q1 := relayAll_fits t2 es1 (SetTable.grown es1.size)
    have q2 := relayAll_ris t2 es1 (SetTable.grown es1.size)
    have q3 := relayAll_led t2 es1 (SetTable.grown es1.size)
    generalize relayAll t2 es1 (SetTable.grown es1.size) = Z at pm q1 q2 q3 ⊢
    obtain ⟨es2, t3, gave⟩ := Z
    dsimp only at pm q1 q2 q3 ⊢
    have hz : es2.size = es1.size := by rw [← Array.length_toList, pm.length_eq, Array.length_toList]
    refine wpAny_bind (hg _ _ _ ?_)
    refine wpAny_bind (wpAny_storeSet_of st1 rfl ?_ (fits_of_scanBound (by rw [hz]; exact hb1)))
    have st2 := store_at (es' := es2) (t' := t3) st1 rfl
    refine wpAny_pure (hR _ (sm1.trans (Heap.SameBut.update _ a _)) ?_)
    refine ⟨_, es2, _, t3, st2, hex, rfl, fun e he => g1 e (pm.mem_iff.mp he), fun k => (m1 k).trans ⟨fun ⟨e, he, q⟩ => ⟨e, pm.mem_iff.mpr he, q⟩, fun ⟨e, he, q⟩ => ⟨e, pm.mem_iff.mp he, q⟩⟩, by rw [hz]; exact hb1, q1, hz, q2, ?_⟩
    rcases hl with z | z
    · exact .inl z
    · exact .inr (by rw [q3]; exact z)
  · exact wpAny_pure (hR _ sm1 ⟨_, es1, _, t2, st1, hex, rfl, g1, m1, hb1, hf2, rfl, hr, hl⟩)
theorem setG_add {k : κ} {x : Value} {Q : Bool → Shared → Prop} (hkey : kn.is k x = true) (hsc : x.scannable = true) (R : SetG kn s.heap a S n) (room : n + 1 < scanBound)
    (hQ : ∀ b h1 m, m ≤ n + 1 → Heap.SameBut a s.heap h1 → SetG kn h1 a (fun j => S j || decide (j = k)) m → Q b { s with heap := h1 }) :
    wpAny (model P w) A (setAddHashed a x (kn.hash k)) Q E s := by
  obtain ⟨ob, es, ep, t, ho, hex, hd, g, hm, hb, hf, hn, hr, hl⟩ := R
  unfold setAddHashed setAddHashedIn
  refine wpAny_holding (wpAny_bind (wpAny_setState_of ho hd hf ?_))
  dsimp only
  rw [byScan_of hsc hb g]
  simp only [↓reduceIte]
  unfold setAddByScan
  refine wpAny_bind ?_
  refine wpAny_bind (wpAny_rule ?_)
  refine wpAny_bind (wpAny_setScan_of hkey ho hd hf g ?_)
  cases hfi : List.findIdx? (fun e => kn.is k e.2) es.toList with
  | some j =>
    dsimp only
    obtain ⟨hj, pj, _⟩ := List.findIdx?_eq_some_iff_getElem.mp hfi
    have hSk : S k = true := (hm k).2 ⟨es.toList[j], List.getElem_mem hj, pj⟩
    refine wpAny_pure (wpAny_pure ?_)
    refine hQ _ s.heap n (Nat.le_succ _) (Heap.SameBut.refl a s.heap) ⟨ob, es, ep, t, ho, hex, hd, g, fun i => ?_, hb, hf, hn, hr, hl⟩
    rw [Bool.or_eq_true, decide_eq_true_eq, ← hm i]
    refine ⟨fun z => ?_, .inl⟩
    rcases z with z | z
    · exact z
    · rw [z]; exact hSk
  | none =>
    dsimp only
    have gave : ∀ (b : Bool) {s1 : Shared} {Q1 : Unit → Shared → Prop}, Q1 () s1 → wpAny (model P w) A (match b with | true => rule "set.scan.the-table-gave-way" | false => pure ()) Q1 E s1 := by
      intro b s1 Q1 q
      cases b
      · exact wpAny_pure q
      · exact wpAny_rule q
    have pm := layNew_perm t es (kn.hash k) x
    have q1 := layNew_fits t es (kn.hash k) x
    have q2 := layNew_ris t es (kn.hash k) x hr
    have q3 := layNew_led t es (kn.hash k) x
    generalize layNew t es (kn.hash k) x = Z at pm q1 q2 q3 ⊢
    obtain ⟨es1, t1, dummy, gw⟩ := Z
    dsimp only at pm q1 q2 q3 ⊢
    rw [Array.toList_push] at pm
    have pc : es1.toList.Perm ((kn.hash k, x) :: es.toList) := pm.trans (List.perm_append_singleton _ _)
    have g1 : ElemsOf kn es1.toList := fun e he => by
      rcases List.mem_cons.mp (pc.mem_iff.mp he) with z | z
      · rw [z]; exact ⟨⟨k, hkey, rfl⟩, hsc⟩
      · exact g e z
    have m1 : ∀ i, (S i || decide (i = k)) = true ↔ ∃ e ∈ es1.toList, kn.is i e.2 = true := fun i => by
      rw [Bool.or_eq_true, decide_eq_true_eq, hm i]
      constructor
      · rintro (⟨e, he, q⟩ | rfl)
        · exact ⟨e, pc.mem_iff.mpr (List.mem_cons_of_mem _ he), q⟩
        · exact ⟨_, pc.mem_iff.mpr List.mem_cons_self, hkey⟩
      · rintro ⟨e, he, q⟩
        rcases List.mem_cons.mp (pc.mem_iff.mp he) with z | z
        · subst z
          exact .inr (kn.inj x i k q hkey)
        · exact .inl ⟨e, z, q⟩
    have hsz : es1.size = n + 1 := by rw [← Array.length_toList, pc.length_eq, List.length_cons, Array.length_toList, hn]
    have hb1 : es1.size < scanBound := by rw [hsz]; exact room
    have hled : w.params.followText "set-order" = true ∨ t1.led = true := by
      rcases hl with z | z
      · exact .inl z
      · exact .inr (by rw [q3]; exact z)
    have fin : ∀ b h1, Heap.SameBut a s.heap h1 → SetG kn h1 a (fun j => S j || decide (j = k)) es1.size → Q b { s with heap := h1 } := fun b h1 sm r => hQ b h1 _ (by rw [hsz]; exact Nat.le_refl _) sm r
    refine wpAny_bind (gave _ ?_)
    split
    · refine wpAny_bind ?_
      rw [hashByValue_scannable 8 hsc]
      refine wpAny_pure ?_
      refine setG_store ?_ ho hex hd g1 m1 hb1 ?_ ?_ ?_ ?_
      · intro b s1 Q1 q; cases b <;> first | exact wpAny_pure q | exact wpAny_rule q
      · first | (split <;> first | exact q1 | exact SetTable.fits_plain_off q1) | exact q1
      · first | (split <;> exact q2) | exact q2
      · first | (split <;> exact hled) | exact hled
      · intro h1 sm r; dsimp only; exact wpAny_pure (fin _ h1 sm r)
    · refine wpAny_bind (wpAny_pure ?_)
      simp only [↓reduceIte]
      refine setG_store ?_ ho hex hd g1 m1 hb1 q1 q2 hled ?_
      · intro b s1 Q1 q; cases b <;> first | exact wpAny_pure q | exact wpAny_rule q
      · intro h1 sm r; dsimp only; exact wpAny_pure (fin _ h1 sm r)
def seenTo (val : Nat → κ) (i : Nat) (k : κ) : Bool := (List.range i).any fun j => decide (k = val j)
theorem seen_succ (val : Nat → κ) (i : Nat) (k : κ) : seenTo val (i + 1) k = (seenTo val i k || decide (k = val i)) := by
  unfold seenTo
  rw [List.range_succ, List.any_append]
  simp
/-- the loop of set.update -/
theorem setG_loop {I : Addr} {fp wr : List Addr} {G : Array GenState → Array GenState → Prop} {n : Nat} {Pv : Nat → Value → Prop} {St : Nat → Shared → Prop} {R : Result → Shared → Prop}
    (W : WalksS P w A.in1 I fp wr G n Pv St) (B : Addr) (hBf : B ∉ fp) (val : Nat → κ) (hval : ∀ i v, Pv i v → kn.is (val i) v = true ∧ v.scannable = true) (hb : n + 1 < scanBound) :
    ∀ (m i : Nat) (s : Shared), n - i = m → i ≤ n → St i s → (∃ c, c ≤ i ∧ SetG kn s.heap B (seenTo val i) c) →
      (∀ s1, Moved (B :: wr) G s s1 → (∃ c, c ≤ n ∧ SetG kn s1.heap B (seenTo val n) c) → R (.ok (.ret .none)) s1) →
      codeAny (model P w) A (.builtin "set.update.loop" ⟨[.ref B, .ref I], []⟩) R s := by
  have hBw : B ∉ wr := fun h => hBf (W.sub _ h)
  have more : ∀ b ∈ wr, b ∈ B :: wr := fun b hb => List.mem_cons_of_mem _ hb
  intro m
  induction m with
  | zero =>
    intro i s hm hi hst ⟨c, hc, hS⟩ hR
    have hin : i = n := by omega
    subst hin
    refine codeAny_builtin F.entry_set_update_loop ?_
    rw [Around.under_plainId F.plain_set_update_loop _]
    show wpAny _ A.in1 (pyNext (.ref I) >>= _) _ _ s
    refine wpAny_bind (W.done s _ _ hst fun s1 hmv => ?_)
    show wpAny _ A.in1 (ret Value.none) _ _ s1
    exact wpAny_pure (hR s1 (hmv.mono more) ⟨c, hc, hS.to fun o e => hmv.heap B o hBw e⟩)
  | succ m ih =>
    intro i s hm hi hst ⟨c, hc, hS⟩ hR
    have hlt : i < n := by omega
    refine codeAny_builtin F.entry_set_update_loop ?_
    rw [Around.under_plainId F.plain_set_update_loop _]
    show wpAny _ A.in1 (pyNext (.ref I) >>= _) _ _ s
    refine wpAny_bind (W.item i s _ _ hlt hst fun v s1 hP hst1 hmv => ?_)
    obtain ⟨hk, hs⟩ := hval i v hP
    have hS1 : SetG kn s1.heap B (seenTo val i) c := hS.to fun o e => hmv.heap B o hBw e
    show wpAny _ A.in1 (holding [v] (setAdd B v) >>= _) _ _ s1
    refine wpAny_bind (wpAny_holding ?_)
    unfold setAdd
    refine wpAny_holding ?_
    refine wpAny_bind (kn.pyHash (k := val i) hk ?_)
    refine setG_add (s := { s1 with toks := s1.toks + 1 }) hk hs hS1 (by omega) fun b h1 c1 hc1 sm hS2 => ?_
    refine wpAny_pure ⟨plainId_quiet F.plain_set_update_loop _, ih (i + 1) _ (by omega) hlt (W.frame _ s1 _ _ hst1 (Nat.le_succ _) fun b hb o e => ?_) ⟨c1, by omega, hS2.eq fun k => (seen_succ val i k).symm⟩ fun s2 hmv2 hS3 => ?_⟩
    · rw [sm.2 b (fun h : b = B => hBf (by rw [← h]; exact hb))]; exact e
    · refine hR s2 (Moved.trans W.gtrans ((hmv.mono more).then_heap (Nat.le_succ _) fun b o hb e => ?_) hmv2) hS3
      rw [sm.2 b (fun h : b = B => hb (by rw [h]; exact List.mem_cons_self))]; exact e
end
end DL

namespace DL
open PySem L2
open PySem.Spec PyProof.Rows
section
variable {P : Program} {w : World} {κ : Type} [DecidableEq κ] {kn : PySem.KeyKind P w κ} {A : Around} {E : Value → Shared → Prop} {s : Shared} {a : Addr} {S : κ → Bool} {n : Nat}
theorem setG_fresh {h : Heap} {b : Addr} (kn : PySem.KeyKind P w κ) (val : Nat → κ) (e : h.get? b = some { cls := .type "set", dict := none, data := .set #[] 0 (.fresh 0 0 (!w.params.followText "set-order")) }) : SetG kn h b (seenTo val 0) 0 :=
  ⟨_, #[], 0, _, e, ⟨rfl, rfl, rfl⟩, rfl, (fun x hx => by simp at hx), (fun k => by simp [seenTo]), (by decide), (by rfl), rfl, List.Pairwise.nil, by
    show _ ∨ (!w.params.followText "set-order") = true
    cases w.params.followText "set-order"
    · exact .inr rfl
    · exact .inl rfl⟩
abbrev setObj (w : World) : Obj := { cls := .type "set", dict := none, data := .set #[] 0 (.fresh 0 0 (!w.params.followText "set-order")) }
/-- set(xs) of a list of such keys -/
theorem call_setG {l : Addr} {items : Array Value} {val : Nat → κ} {Q : Value → Shared → Prop} (hh : A.handled = none) (hl : s.heap.IsList l items) (hval : ∀ i v, items[i]? = some v → kn.is (val i) v = true ∧ v.scannable = true) (hb : items.size + 1 < scanBound)
    (h : ∀ (h1 : Heap) (tk : Nat) (c : Nat), c ≤ items.size → SetG kn h1 s.heap.objs.size (seenTo val items.size) c → (∀ b o, s.heap.get? b = some o → h1.get? b = some o) → Q (.ref s.heap.objs.size) { s with heap := h1, toks := tk }) :
    wpAny (model P w) A (call (.type "set") [.ref l]) Q E s := by
  obtain ⟨cc, tl, hmro⟩ := F.called_set.mro
  have hmade := F.called_set.made
  have hsub := F.called_set.sub
  refine wpAny_call (codeAny_of_tree ?_)
  show wpAny _ _ (callAny (.type "set") _) _ _ _
  refine wpAny_pure ⟨Code.quiet_builtin _ (by decide +kernel), codeAny_builtin F.entry_type_call ?_⟩
  rw [Around.under_plain (weight_type_call_type "set" [.ref l] []) rfl]
  have h1 := F.called_set.notType
  have h2 := F.called_set.canCreate
  have hct := F.typeCall_set_1 (.ref l)
  repeat (any_goals (first | assumption | wp_step))
  refine codeAny_mono (code_set_led1 (.ref l) (E := E) (Q₁ := fun ob s1 => ob = .ref s.heap.objs.size ∧ s1 = { s with heap := s.heap.push (setObj w) }) ⟨rfl, rfl⟩) fun r s1 hr => ?_
  cases r with
  | error e => exact hr
  | ok fl =>
    cases fl with
    | ret ob =>
      obtain ⟨rfl, rfl⟩ := hr
      have hS : (s.heap.push (setObj w)).get? s.heap.objs.size = some (setObj w) := Heap.get?_push_size _ rfl
      have hT : Shared.TypeIs { s with heap := s.heap.push (setObj w) } (.ref s.heap.objs.size) "set" := ⟨_, hS, rfl⟩
      have hli := F.called_set.init.lookup
      have hbi := F.called_set.init.bind (.ref s.heap.objs.size)
      repeat (any_goals (first | assumption | wp_step))
      refine codeAny_mono (codeAny_call_builtin (R := wants (fun r s2 => r = .none ∧ ∃ h1 tk c, s2 = { s with heap := h1, toks := tk } ∧ c ≤ items.size ∧ SetG kn h1 s.heap.objs.size (seenTo val items.size) c ∧
          (∀ b o, s.heap.get? b = some o → h1.get? b = some o)) E) F.called_set.init.plain F.entry_set_init (check_set_init_1 hT ?_)) fun r2 s2 hr2 => ?_
      · obtain ⟨ol, hol, hcl, nl, hdl⟩ := hl
        obtain ⟨ocls, odict, odata, oslots⟩ := ol
        simp only at hcl hdl
        subst hcl; subst hdl
        have hol1 : (s.heap.push (setObj w)).get? l = some { cls := .type "list", dict := odict, data := .seq items nl, slots := oslots } := Heap.get?_push_of_some _ hol
        have hsls := F.sub_list_set
        have hslf := F.sub_list_frozenset
        have hne : (Value.type "list" == Value.type "dict") = false := by decide
        have hl1 : (s.heap.push (setObj w)).IsList l items := ⟨_, hol1, rfl, nl, rfl⟩
        unfold Builtin.«set.__init__» noKeywords Builtin.Frozenset.updateFrom
        generalize hPI : pyIter = PI
        wp_walk
        subst hPI
        refine wpAny_pyIter_list hl1 ?_
        refine wpAny_bind (wpAny_runValue ?_)
        have hlS : l < s.heap.objs.size := Heap.lt_size hol
        have hh3 : A.in1.in1.in1.handled = none := by simp [hh]
        have hz1 : (s.heap.push (setObj w)).objs.size = s.heap.objs.size + 1 := Heap.size_push ..
        have hneI : l ≠ (s.heap.push (setObj w)).objs.size := by
          rw [hz1]
          exact Nat.ne_of_lt (Nat.lt_succ_of_lt hlS)
        have hSf : s.heap.objs.size ∉ [(s.heap.push (setObj w)).objs.size, l] := by
          rw [hz1]
          simp only [List.mem_cons, List.mem_singleton, List.not_mem_nil, or_false, not_or]
          exact ⟨Nat.ne_of_lt (Nat.lt_succ_self _), Nat.ne_of_gt hlS⟩
        refine setG_loop (kn := kn) ((Walks.list hh3 _ l hneI items).toS) s.heap.objs.size hSf val hval hb (items.size - 0) 0 _ (by omega) (Nat.zero_le _)
          ⟨⟨_, Heap.get?_push_size _ rfl, rfl, rfl⟩, (hl1.push _)⟩ ⟨0, Nat.le_refl _, setG_fresh kn val (Heap.get?_push_of_some _ hS)⟩ fun s3 hm ⟨c, hc, hS3⟩ => ?_
        obtain ⟨h3, g3, d3, tk3, os3⟩ := s3
        have eg : g3 = s.gens := hm.gens
        have ed : d3 = s.drawn := hm.drawn
        have eo : os3 = s.os := hm.os
        subst eg; subst ed; subst eo
        show wpAny _ _ _ _ _ _
        refine wpAny_pure ?_
        show wpAny _ _ (ret Value.none) _ _ _
        refine wpAny_pure ⟨rfl, h3, tk3, c, rfl, hc, hS3, fun b o e => ?_⟩
        have hbl := Heap.lt_size e
        refine hm.heap b o (fun z => ?_) (Heap.get?_push_of_some _ (Heap.get?_push_of_some _ e))
        simp only [List.mem_cons, List.mem_singleton, List.not_mem_nil, or_false] at z
        rcases z with z | z
        · exact absurd hbl (by rw [z]; exact Nat.lt_irrefl _)
        · rw [hz1] at z
          exact absurd hbl (by rw [z]; exact Nat.not_lt_of_le (Nat.le_succ _))
      · cases r2 with
        | error e => exact hr2
        | ok fl2 =>
          cases fl2 with
          | ret r =>
            obtain ⟨rfl, h3, tk, c, rfl, hc, hS3, hk3⟩ := hr2
            repeat (any_goals (first | assumption | wp_step))
            exact h _ _ _ hc hS3 hk3
          | _ => exact hr2.elim
    | _ => exact hr.elim
/-- the members, gathered: only such keys, all of them -/
theorem gatherG {Q : List Value → Shared → Prop} (R : SetG kn s.heap a S n) (hh : A.handled = none)
    (hQ : ∀ s1 out, (∀ b o, s.heap.get? b = some o → s1.heap.get? b = some o) → s.heap.objs.size ≤ s1.heap.objs.size → s1.gens = s.gens → s1.os = s.os → (∀ v ∈ out, ∃ k, S k = true ∧ kn.is k v = true) → (∀ k, S k = true → ∃ v ∈ out, kn.is k v = true) → out.length = n → Q out s1) :
    wpAny (model P w) A (collect (.ref a)) Q E s := by
  obtain ⟨ob, es, ep, t, ho, hex, hd, g, hm, hb, hf, hn, hr, hl⟩ := R
  refine collect_set hh ⟨ob, ho, hex.1, hd⟩ hf hb hr hl fun s1 out k1 z g1 o1 pm => hQ s1 out k1 z g1 o1 (fun v hv => ?_) (fun k hk => ?_) ?_
  · obtain ⟨e, he, rfl⟩ := List.mem_map.mp (pm.mem_iff.mp hv)
    obtain ⟨⟨k, hk, _⟩, _⟩ := g e he
    exact ⟨k, (hm k).2 ⟨e, he, hk⟩, hk⟩
  · obtain ⟨e, he, q⟩ := (hm k).1 hk
    exact ⟨e.2, pm.mem_iff.mpr (List.mem_map.mpr ⟨e, he, rfl⟩), q⟩
  · rw [pm.length_eq, List.length_map, Array.length_toList]
    exact hn
end
end DL

namespace DL
open PySem L2
open PySem.Spec PyProof.Rows
/-! ### sorted of sets of ints and of texts -/
section
variable {P : Program} {w : World} {A : Around} {E : Value → Shared → Prop} {s : Shared} {a : Addr} {n : Nat}
theorem ints_are : ∀ (l : List Value), (∀ v ∈ l, ∃ k, (intKind P w).is k v = true) → ∃ ns, IntsAre l ns ∧ ∀ k, k ∈ ns ↔ ∃ v ∈ l, (intKind P w).is k v = true
  | [], _ => ⟨[], .nil, fun k => by simp⟩
  | v :: l, h => by
    obtain ⟨k0, hk0⟩ := h v List.mem_cons_self
    obtain ⟨ns, h1, h2⟩ := ints_are l fun u hu => h u (List.mem_cons_of_mem _ hu)
    cases v with
    | int i tk =>
      have e : ∀ k, (intKind P w).is k (.int i tk) = true ↔ k = i := fun k => by
        constructor
        · intro q
          exact (intKind P w).inj _ k i q (intKind_is P w i tk)
        · rintro rfl
          exact intKind_is P w k tk
      refine ⟨i :: ns, .cons i tk h1, fun k => ?_⟩
      rw [List.mem_cons, h2 k]
      constructor
      · rintro (rfl | ⟨u, hu, q⟩)
        · exact ⟨_, List.mem_cons_self, (e k).2 rfl⟩
        · exact ⟨u, List.mem_cons_of_mem _ hu, q⟩
      · rintro ⟨u, hu, q⟩
        rcases List.mem_cons.mp hu with rfl | hu
        · exact .inl ((e k).1 q)
        · exact .inr ⟨u, hu, q⟩
    | _ => exact absurd hk0 (by simp [PySem.intKind, Value.isInt])
theorem strs_are : ∀ (l : List Value), (∀ v ∈ l, ∃ k, (strKind P w).is k v = true) → ∃ ns, StrsAre l ns ∧ ∀ k, k ∈ ns ↔ ∃ v ∈ l, (strKind P w).is k v = true
  | [], _ => ⟨[], .nil, fun k => by simp⟩
  | v :: l, h => by
    obtain ⟨k0, hk0⟩ := h v List.mem_cons_self
    obtain ⟨ns, h1, h2⟩ := strs_are l fun u hu => h u (List.mem_cons_of_mem _ hu)
    cases v with
    | str i tk =>
      have e : ∀ k, (strKind P w).is k (.str i tk) = true ↔ k = i := fun k => by
        constructor
        · intro q
          exact (strKind P w).inj _ k i q (strKind_is P w i tk)
        · rintro rfl
          exact strKind_is P w k tk
      refine ⟨i :: ns, .cons i tk h1, fun k => ?_⟩
      rw [List.mem_cons, h2 k]
      constructor
      · rintro (rfl | ⟨u, hu, q⟩)
        · exact ⟨_, List.mem_cons_self, (e k).2 rfl⟩
        · exact ⟨u, List.mem_cons_of_mem _ hu, q⟩
      · rintro ⟨u, hu, q⟩
        rcases List.mem_cons.mp hu with rfl | hu
        · exact .inl ((e k).1 q)
        · exact .inr ⟨u, hu, q⟩
    | _ => exact absurd hk0 (by simp [PySem.strKind, Value.isStrOf])
theorem sortedG_ints {S : Int → Bool} {Q : Value → Shared → Prop} (R : SetG (intKind P w) s.heap a S n) (hh : A.handled = none)
    (hQ : ∀ s1 p (out : Array Value) (c : Nat) (ns : List Int), (∀ b o, s.heap.get? b = some o → s1.heap.get? b = some o) → s1.gens = s.gens → s1.os = s.os → s.heap.objs.size ≤ p →
      s1.heap.get? p = some (seqObj "list" out c) → IntsAre out.toList ns → (∀ k, k ∈ ns ↔ S k = true) → ns.length = n → Q (.ref p) s1) :
    wpAny (model P w) A (call (.builtin "sorted") [.ref a]) Q E s := by
  have hn : n < scanBound := by
    obtain ⟨ob, es, ep, t, ho, hex, hd, g, hm, hb, hf, hn, hr, hl⟩ := R
    rw [← hn]
    exact hb
  refine Calls.call_function_entry kind_sorted plain_sorted entry_sorted (args_sorted1 _) ?_
  unfold Builtin.«sorted»
  refine wpAny_bind (m := checkCount "sorted" 1 1 _) (wpAny_pure ?_)
  refine wpAny_bind (gatherG (A := A.in1) R hh fun s1 vs k1 hz g1 o1 c1 c2 hvl => ?_)
  obtain ⟨ns, hI, hmem⟩ := ints_are (P := P) (w := w) vs fun v hv => let ⟨k, _, q⟩ := c1 v hv; ⟨k, q⟩
  have hvs : vs.length ≤ sizeLine := by rw [hvl]; exact fits_of_scanBound hn
  refine wpAny_bind (wpAny_newList ?_ hvs)
  have hoL : (s1.heap.push (seqObj "list" vs.toArray 0)).get? s1.heap.objs.size = some (seqObj "list" vs.toArray 0) := Heap.get?_push_size _ rfl
  refine wpAny_bind (wpAny_holding (wpAny_call_entry slot_list_sort ⟨_, hoL, rfl⟩ entry_list_sort (list_sort_treeAny hoL hI hvs fun out ms a1 a2 a3 => ⟨_, rfl, ?_⟩) (args_list_sort _)))
  obtain ⟨c, hc⟩ := sortedHeap_at (vs := vs) (out := out) hoL
  refine wpAny_pure ⟨_, rfl, hQ _ s1.heap.objs.size out c ms (fun b u e => ?_) g1 o1 hz hc a1 (fun k => ?_) ?_⟩
  · have q := k1 b u e
    have hlt := Heap.lt_size q
    show (sortedHeap (s1.heap.push (seqObj "list" vs.toArray 0)) s1.heap.objs.size vs out).get? b = some u
    rw [sortedHeap_old (Nat.ne_of_lt hlt) (by rw [size_push']; exact Nat.lt_succ_of_lt hlt)]
    exact Heap.get?_push_of_some _ q
  · rw [a2.mem_iff, hmem k]
    constructor
    · rintro ⟨v, hv, q⟩
      obtain ⟨k2, h2, q2⟩ := c1 v hv
      rw [(intKind P w).inj v k k2 q q2]
      exact h2
    · exact c2 k
  · rw [a2.length_eq, ← IntsAre.length hI]
    exact hvl
theorem sortedG_strs {S : Str → Bool} {Q : Value → Shared → Prop} (R : SetG (strKind P w) s.heap a S n) (hh : A.handled = none)
    (hQ : ∀ s1 p (out : Array Value) (c : Nat) (ns : List Str), (∀ b o, s.heap.get? b = some o → s1.heap.get? b = some o) → s1.gens = s.gens → s1.os = s.os → s.heap.objs.size ≤ p →
      s1.heap.get? p = some (seqObj "list" out c) → StrsAre out.toList ns → (∀ k, k ∈ ns ↔ S k = true) → ns.length = n → Q (.ref p) s1) :
    wpAny (model P w) A (call (.builtin "sorted") [.ref a]) Q E s := by
  have hn : n < scanBound := by
    obtain ⟨ob, es, ep, t, ho, hex, hd, g, hm, hb, hf, hn, hr, hl⟩ := R
    rw [← hn]
    exact hb
  refine Calls.call_function_entry kind_sorted plain_sorted entry_sorted (args_sorted1 _) ?_
  unfold Builtin.«sorted»
  refine wpAny_bind (m := checkCount "sorted" 1 1 _) (wpAny_pure ?_)
  refine wpAny_bind (gatherG (A := A.in1) R hh fun s1 vs k1 hz g1 o1 c1 c2 hvl => ?_)
  obtain ⟨ns, hI, hmem⟩ := strs_are (P := P) (w := w) vs fun v hv => let ⟨k, _, q⟩ := c1 v hv; ⟨k, q⟩
  have hvs : vs.length ≤ sizeLine := by rw [hvl]; exact fits_of_scanBound hn
  refine wpAny_bind (wpAny_newList ?_ hvs)
  have hoL : (s1.heap.push (seqObj "list" vs.toArray 0)).get? s1.heap.objs.size = some (seqObj "list" vs.toArray 0) := Heap.get?_push_size _ rfl
  refine wpAny_bind (wpAny_holding (wpAny_call_entry slot_list_sort ⟨_, hoL, rfl⟩ entry_list_sort (list_sort_treeKAny strKind_oneLt hoL hI.keysOf (fun v1 v2 rest e => keyKind_strs (by rw [← e]; exact hI)) hvs fun st1 b1 b2 => ⟨_, rfl, ?_⟩) (args_list_sort _)))
  obtain ⟨ms, a1, a2, a3⟩ := sorted_out_str hI b1 b2
  obtain ⟨c, hc⟩ := sortedHeap_at (vs := vs) (out := (arrOf st1).map (·.2)) hoL
  refine wpAny_pure ⟨_, rfl, hQ _ s1.heap.objs.size _ c ms (fun b u e => ?_) g1 o1 hz hc a1 (fun k => ?_) ?_⟩
  · have q := k1 b u e
    have hlt := Heap.lt_size q
    show (sortedHeap (s1.heap.push (seqObj "list" vs.toArray 0)) s1.heap.objs.size vs _).get? b = some u
    rw [sortedHeap_old (Nat.ne_of_lt hlt) (by rw [size_push']; exact Nat.lt_succ_of_lt hlt)]
    exact Heap.get?_push_of_some _ q
  · rw [a2.mem_iff, hmem k]
    constructor
    · rintro ⟨v, hv, q⟩
      obtain ⟨k2, h2, q2⟩ := c1 v hv
      rw [(strKind P w).inj v k k2 q q2]
      exact h2
    · exact c2 k
  · rw [a2.length_eq]
    have : ∀ {l : List Value} {ns : List Str}, StrsAre l ns → l.length = ns.length := fun h => by
      induction h with
      | nil => rfl
      | cons _ _ _ ih => exact congrArg Nat.succ ih
    rw [← this hI]
    exact hvl
end
end DL

namespace DL
open PySem L2
open PySem.Spec PyProof.Rows
section
variable {P : Program} {w : World} {κ : Type} [DecidableEq κ] {kn : PySem.KeyKind P w κ}
def SetGO (kn : PySem.KeyKind P w κ) (a : Addr) (S : κ → Bool) (n : Nat) : HO := .ext fun h => SetG kn h a S n
theorem setGO_new {H : Hp} {h : Heap} {a : Addr} {S : κ → Bool} {n : Nat} (R : SetG kn h a S n) : ObjOk P w H h a (SetGO kn a S n) := by
  have ⟨ob, es, ep, t, ho, r⟩ := R
  exact ⟨R, ⟨ob, ho⟩, fun h1 h2 p k => SetG.to p k⟩
end
def rSetG {P : Program} {w : World} {κ : Type} [DecidableEq κ] (kn : PySem.KeyKind P w κ) (enc : κ → V) (K : PySem.W.Frag) : List V → Hp → VK → Prop := fun xs H Q => ∃ (l : Addr) (ns : List κ), xs = [V.ref l] ∧ SqL K H l (ns.map enc) ∧ ns.length + 1 < scanBound ∧
  ∀ p c, H p = none → c ≤ ns.length → Q (.ref p) (upd H p (SetGO kn p (fun k => decide (k ∈ ns)) c))
theorem cr_setG {X : Cx} {κ : Type} [DecidableEq κ] [Inhabited κ] {kn : PySem.KeyKind X.prog X.w κ} {enc : κ → V} (hrel : ∀ k v, RelV (enc k) v → kn.is k v = true ∧ v.scannable = true) (hc : X.calm = true) : CallR X (.type "set") (rSetG kn enc X.K) := by
  intro pins s σ H xs us Q I r h
  obtain ⟨l, ns, rfl, hl, hb, q⟩ := h
  rw [Vals.ref1 r]
  obtain ⟨its, rv, pl, hz⟩ := I.list hl
  have hlen := rv.length
  rw [List.length_map] at hlen
  have hn : H s.heap.objs.size = none := I.hok.fresh (Nat.le_refl _)
  refine call_setG (kn := kn) (val := fun i => ns.getD i default) (I.ok.hd hc) pl.isList (fun i v hv => ?_) (by rw [List.size_toArray]; omega) fun h1 tk c hc1 R k => ?_
  · have hv' : its[i]? = some v := by simpa using hv
    have hi : i < ns.length := by
      have := (List.getElem?_eq_some_iff.mp hv').1
      omega
    obtain ⟨u, hu, ru⟩ := rv.get (i := i) (x := enc ns[i]) (by rw [List.getElem?_map, List.getElem?_eq_getElem hi]; rfl)
    rw [hv'] at hu
    cases hu
    have e : ns.getD i default = ns[i] := by rw [List.getD_eq_getElem?_getD, List.getElem?_eq_getElem hi]; rfl
    show kn.is (ns.getD i default) v = true ∧ _
    rw [e]
    exact hrel _ _ ru
  · have hsz : its.toArray.size = ns.length := by rw [List.size_toArray]; omega
    rw [hsz] at R hc1
    have R' : SetG kn h1 s.heap.objs.size (fun k => decide (k ∈ ns)) c := R.eq fun k => by
      unfold seenTo
      rw [Bool.eq_iff_iff, List.any_eq_true, decide_eq_true_eq]
      constructor
      · rintro ⟨j, hj, e⟩
        have hj' := List.mem_range.mp hj
        have e' := of_decide_eq_true e
        rw [e']
        show ns.getD j default ∈ ns
        rw [List.getD_eq_getElem?_getD, List.getElem?_eq_getElem hj']
        exact List.getElem_mem hj'
      · intro hk
        obtain ⟨j, hj, e⟩ := List.getElem_of_mem hk
        refine ⟨j, List.mem_range.mpr hj, decide_eq_true ?_⟩
        show k = ns.getD j default
        rw [List.getD_eq_getElem?_getD, List.getElem?_eq_getElem hj]
        exact e.symm
    exact ⟨.ref s.heap.objs.size, _, I.laid (t' := tk) k (Nat.le_refl _) (setGO_new R'), rfl, q _ c hn hc1⟩
theorem vals_ints : ∀ {vs : List Value} {ns : List Int}, IntsAre vs ns → Vals (ns.map V.int) vs
  | _, _, .nil => .nil
  | _, _, .cons k t r => .cons ⟨t, rfl⟩ (vals_ints r)
theorem vals_strs : ∀ {vs : List Value} {ns : List Str}, StrsAre vs ns → Vals (ns.map V.str) vs
  | _, _, .nil => .nil
  | _, _, .cons k t r => .cons ⟨t, rfl⟩ (vals_strs r)
def rSortG {P : Program} {w : World} {κ : Type} [DecidableEq κ] (kn : PySem.KeyKind P w κ) (enc : κ → V) : List V → Hp → VK → Prop := fun xs H Q => ∃ (a : Addr) (S : κ → Bool) (n : Nat), xs = [V.ref a] ∧ H a = some (SetGO kn a S n) ∧
  ∀ (p : Addr) (ns : List κ), H p = none → (∀ k, k ∈ ns ↔ S k = true) → ns.length = n → Q (.ref p) (upd H p (.lst (ns.map enc)))
theorem setG_small {P : Program} {w : World} {κ : Type} [DecidableEq κ] {kn : PySem.KeyKind P w κ} {h : Heap} {a : Addr} {S : κ → Bool} {n : Nat} (R : SetG kn h a S n) : n ≤ sizeLine := by
  obtain ⟨ob, es, ep, t, ho, hex, hd, g, hm, hb, hf, hn, hr, hl⟩ := R
  rw [← hn]
  exact fits_of_scanBound hb
theorem cr_sortGI {X : Cx} (hc : X.calm = true) : CallR X (.builtin "sorted") (rSortG (PySem.intKind X.prog X.w) V.int) := by
  intro pins s σ H vs us Q I r h
  obtain ⟨a, S, n, rfl, ha, q⟩ := h
  have R : SetG (PySem.intKind X.prog X.w) s.heap a S n := (I.hok a _ ha).1
  rw [Vals.ref1 r]
  refine sortedG_ints R (I.ok.hd hc) fun s1 p out c ns k g o hp hg hI hm hlen => ?_
  have hz : (ns.map V.int).length ≤ sizeLine := by rw [List.length_map, hlen]; exact setG_small R
  have hn : H p = none := I.hok.fresh hp
  have J : Inv X pins σ (upd H p (.lst (ns.map V.int))) { s with heap := s1.heap, gens := s1.gens, drawn := s1.drawn, toks := s1.toks } :=
    I.call (ch := []) (Un.laid k hp hn) (I.hok.laid k hp ⟨hz, out.toList, c, vals_ints hI, hg⟩) (by rw [g]; exact I.bare) (fun _ z => nomatch z)
  have e : s1 = { s with heap := s1.heap, gens := s1.gens, drawn := s1.drawn, toks := s1.toks } := by
    cases s1
    cases s
    cases o
    rfl
  rw [e]
  exact ⟨.ref p, _, J, rfl, q p ns hn hm hlen⟩
theorem cr_sortGS {X : Cx} (hc : X.calm = true) : CallR X (.builtin "sorted") (rSortG (PySem.strKind X.prog X.w) V.str) := by
  intro pins s σ H vs us Q I r h
  obtain ⟨a, S, n, rfl, ha, q⟩ := h
  have R : SetG (PySem.strKind X.prog X.w) s.heap a S n := (I.hok a _ ha).1
  rw [Vals.ref1 r]
  refine sortedG_strs R (I.ok.hd hc) fun s1 p out c ns k g o hp hg hI hm hlen => ?_
  have hz : (ns.map V.str).length ≤ sizeLine := by rw [List.length_map, hlen]; exact setG_small R
  have hn : H p = none := I.hok.fresh hp
  have J : Inv X pins σ (upd H p (.lst (ns.map V.str))) { s with heap := s1.heap, gens := s1.gens, drawn := s1.drawn, toks := s1.toks } :=
    I.call (ch := []) (Un.laid k hp hn) (I.hok.laid k hp ⟨hz, out.toList, c, vals_strs hI, hg⟩) (by rw [g]; exact I.bare) (fun _ z => nomatch z)
  have e : s1 = { s with heap := s1.heap, gens := s1.gens, drawn := s1.drawn, toks := s1.toks } := by
    cases s1
    cases s
    cases o
    rfl
  rw [e]
  exact ⟨.ref p, _, J, rfl, q p ns hn hm hlen⟩
theorem int_rel {P : Program} {w : World} (k : Int) (v : Value) (r : RelV (.int k) v) : (PySem.intKind P w).is k v = true ∧ v.scannable = true := by
  obtain ⟨t, rfl⟩ := r
  exact ⟨intKind_is P w k t, rfl⟩
theorem str_rel {P : Program} {w : World} (k : Str) (v : Value) (r : RelV (.str k) v) : (PySem.strKind P w).is k v = true ∧ v.scannable = true := by
  obtain ⟨t, rfl⟩ := r
  exact ⟨strKind_is P w k t, rfl⟩
section
variable {ι : Type} {X : ι → Cx} {δ : DEnv} {P : Program} {w : World} {K : PySem.W.Frag} {mg : Str → Option Value} {base : Heap} {k kk : Nat} [M : Fm X P w K mg base k] {a : Expr} {pos pos2 p p2 : Pos}
include M
theorem en_sortedI {ns : List Int} (ha : EQ X δ a (ns.map .int)) (hb : ns.length + 1 < scanBound) (hm1 : mg "sorted" = none) (hm2 : mg "set" = none) (hg1 : ∀ i, Gl (X i) "sorted" := by intro _; rfl) (hg2 : ∀ i, Gl (X i) "set" := by intro _; rfl)
    (hs : ∀ i, starEach [a] (X i).env = [(false, eval a (X i).env)] := by intro _; rfl) (hs2 : ∀ i, starEach [.Call (.Name "set" p2) [a] [] pos2] (X i).env = [(false, eval (.Call (.Name "set" p2) [a] [] pos2) (X i).env)] := by intro _; rfl) :
    EN X δ (.Call (.Name "sorted" p) [.Call (.Name "set" p2) [a] [] pos2] [] pos) (fun ds => ∃ ms : List Int, ds = ms.map .int ∧ (∀ k, k ∈ ms ↔ k ∈ ns) ∧ ms.length ≤ ns.length) := fun G0 H0 σ G H rp Q q =>
  ⟨tCB (rSortG (PySem.intKind P w) V.int) (tCons (tCB (rSetG (PySem.intKind P w) V.int K) (tCons (uE X a) tNil)) tNil), fun i => by
    have e1 := cr_sortGI (X := X i) (M.calm i)
    have e2 := cr_setG (X := X i) (kn := PySem.intKind (X i).prog (X i).w) (enc := V.int) int_rel (M.calm i)
    rw [M.prog i, M.world i] at e1 e2
    rw [M.frag i] at e2
    exact pe_callB e1 (hg1 i) (by rw [M.glob i]; exact hm1) PyProof.Rows.boot_sorted (pa_cons (pe_callTy e2 (hg2 i) (by rw [M.glob i]; exact hm2) PyProof.Rows.boot_set (pa_cons (uE_ok i) pa_nil (hs i)) (by decide) (by decide) (hs i) rfl) pa_nil (hs2 i)) (by decide) (by decide) (hs2 i) rfl, by
    refine ha G0 H0 σ G H rp _ fun p1 xs G1 H1 f1 hp hd => ?_
    refine ⟨p1, ns, rfl, by rw [← hd.ints]; exact SqL.of hp, hb, fun p2 c hn hc => ?_⟩
    have f2 := Fx.lay f1.s hn (SetGO (PySem.intKind P w) p2 (fun k => decide (k ∈ ns)) c)
    refine ⟨p2, _, c, rfl, upd_same, fun p3 ms hn3 hm hl => ?_⟩
    have f3 := Fx.lay f2.s hn3 (.lst (ms.map V.int))
    refine q (ms.map .int) p3 (ms.map V.int) G1 _ ⟨ms, rfl, fun k => by rw [hm k, decide_eq_true_eq], by omega⟩ ((f1.trans f2).trans f3) (f1.h.free (f2.h.free hn3)) upd_same (f2.s.free hn3) DqAll.of_ints⟩
theorem en_sortedS {ns : List Str} (ha : EQ X δ a (ns.map .str)) (hb : ns.length + 1 < scanBound) (hm1 : mg "sorted" = none) (hm2 : mg "set" = none) (hg1 : ∀ i, Gl (X i) "sorted" := by intro _; rfl) (hg2 : ∀ i, Gl (X i) "set" := by intro _; rfl)
    (hs : ∀ i, starEach [a] (X i).env = [(false, eval a (X i).env)] := by intro _; rfl) (hs2 : ∀ i, starEach [.Call (.Name "set" p2) [a] [] pos2] (X i).env = [(false, eval (.Call (.Name "set" p2) [a] [] pos2) (X i).env)] := by intro _; rfl) :
    EN X δ (.Call (.Name "sorted" p) [.Call (.Name "set" p2) [a] [] pos2] [] pos) (fun ds => ∃ ms : List Str, ds = ms.map .str ∧ (∀ k, k ∈ ms ↔ k ∈ ns) ∧ ms.length ≤ ns.length) := fun G0 H0 σ G H rp Q q =>
  ⟨tCB (rSortG (PySem.strKind P w) V.str) (tCons (tCB (rSetG (PySem.strKind P w) V.str K) (tCons (uE X a) tNil)) tNil), fun i => by
    have e1 := cr_sortGS (X := X i) (M.calm i)
    have e2 := cr_setG (X := X i) (kn := PySem.strKind (X i).prog (X i).w) (enc := V.str) str_rel (M.calm i)
    rw [M.prog i, M.world i] at e1 e2
    rw [M.frag i] at e2
    exact pe_callB e1 (hg1 i) (by rw [M.glob i]; exact hm1) PyProof.Rows.boot_sorted (pa_cons (pe_callTy e2 (hg2 i) (by rw [M.glob i]; exact hm2) PyProof.Rows.boot_set (pa_cons (uE_ok i) pa_nil (hs i)) (by decide) (by decide) (hs i) rfl) pa_nil (hs2 i)) (by decide) (by decide) (hs2 i) rfl, by
    refine ha G0 H0 σ G H rp _ fun p1 xs G1 H1 f1 hp hd => ?_
    refine ⟨p1, ns, rfl, by rw [← hd.strs]; exact SqL.of hp, hb, fun p2 c hn hc => ?_⟩
    have f2 := Fx.lay f1.s hn (SetGO (PySem.strKind P w) p2 (fun k => decide (k ∈ ns)) c)
    refine ⟨p2, _, c, rfl, upd_same, fun p3 ms hn3 hm hl => ?_⟩
    have f3 := Fx.lay f2.s hn3 (.lst (ms.map V.str))
    refine q (ms.map .str) p3 (ms.map V.str) G1 _ ⟨ms, rfl, fun k => by rw [hm k, decide_eq_true_eq], by omega⟩ ((f1.trans f2).trans f3) (f1.h.free (f2.h.free hn3)) upd_same (f2.s.free hn3) DqAll.of_strs⟩
end
end DL

namespace CM
open PySem L2 DL
/-! the text by places, each def's names by slot -/
def top (i : Nat) : Stmt := PySem.Challenge.pw_callmill_k23_other_keys_and_words.main.body.getD i (.Pass ⟨0, 0, 0, 0⟩)
abbrev s_hand_text : Stmt := top 1
abbrev n_hand_text : List Str := ["line", "word"]
theorem sc_hand_text : FnScope n_hand_text ["line", "word"] (defScope s_hand_text) := ⟨rfl, rfl, rfl, by decide +kernel, rfl, by decide +kernel, by decide +kernel⟩
abbrev s_worth : Stmt := top 3
abbrev n_worth : List Str := ["expression", "boxes", "values", "kind", "names", "one", "other", "name", "size"]
theorem sc_worth : FnScope n_worth ["expression", "boxes", "values"] (defScope s_worth) := ⟨rfl, rfl, rfl, by decide +kernel, rfl, by decide +kernel, by decide +kernel⟩
abbrev s_holds : Stmt := top 4
abbrev n_holds : List Str := ["condition", "boxes", "values", "kind", "one", "other"]
theorem sc_holds : FnScope n_holds ["condition", "boxes", "values"] (defScope s_holds) := ⟨rfl, rfl, rfl, by decide +kernel, rfl, by decide +kernel, by decide +kernel⟩
abbrev s_parts_of : Stmt := top 8
abbrev n_parts_of : List Str := ["statement", "pattern", "body"]
theorem sc_parts_of : FnScope n_parts_of ["statement"] (defScope s_parts_of) := ⟨rfl, rfl, rfl, by decide +kernel, rfl, by decide +kernel, by decide +kernel⟩
abbrev s_patterns_of : Stmt := top 9
abbrev n_patterns_of : List Str := ["script", "found", "bodies", "statement", "name", "body", "pattern"]
theorem sc_patterns_of : FnScope n_patterns_of ["script"] (defScope s_patterns_of) := ⟨rfl, rfl, rfl, by decide +kernel, rfl, by decide +kernel, by decide +kernel⟩
abbrev s_word_by : Stmt := top 10
abbrev n_word_by : List Str := ["number", "word", "place"]
theorem sc_word_by : FnScope n_word_by ["number"] (defScope s_word_by) := ⟨rfl, rfl, rfl, by decide +kernel, rfl, by decide +kernel, by decide +kernel⟩
abbrev s_events_of : Stmt := top 11
abbrev n_events_of : List Str := ["script", "patterns", "keys", "words", "others", "number", "found", "pattern", "key", "word"]
theorem sc_events_of : FnScope n_events_of ["script"] (defScope s_events_of) := ⟨rfl, rfl, rfl, by decide +kernel, rfl, by decide +kernel, by decide +kernel⟩
abbrev s_frozen : Stmt := top 13
abbrev n_frozen : List Str := ["thing", "part"]
theorem sc_frozen : FnScope n_frozen ["thing"] (defScope s_frozen) := ⟨rfl, rfl, rfl, by decide +kernel, rfl, by decide +kernel, by decide +kernel⟩
abbrev s_part_of : Stmt := top 14
abbrev n_part_of : List Str := ["statement", "number"]
theorem sc_part_of : FnScope n_part_of ["statement", "number"] (defScope s_part_of) := ⟨rfl, rfl, rfl, by decide +kernel, rfl, by decide +kernel, by decide +kernel⟩
abbrev s_branch_for : Stmt := top 15
abbrev n_branch_for : List Str := ["wait", "event", "patterns", "pattern", "body"]
theorem sc_branch_for : FnScope n_branch_for ["wait", "event"] (defScope s_branch_for) := ⟨rfl, rfl, rfl, by decide +kernel, rfl, by decide +kernel, by decide +kernel⟩
abbrev s_branch_for_none : Stmt := top 16
abbrev n_branch_for_none : List Str := ["wait", "patterns", "pattern", "body"]
theorem sc_branch_for_none : FnScope n_branch_for_none ["wait"] (defScope s_branch_for_none) := ⟨rfl, rfl, rfl, by decide +kernel, rfl, by decide +kernel, by decide +kernel⟩
abbrev s_cut_to : Stmt := top 17
abbrev n_cut_to : List Str := ["frames", "kind", "left"]
theorem sc_cut_to : FnScope n_cut_to ["frames", "kind"] (defScope s_cut_to) := ⟨rfl, rfl, rfl, by decide +kernel, rfl, by decide +kernel, by decide +kernel⟩
abbrev s_Tinit : Stmt := inClass (top 18) 0
abbrev n_Tinit : List Str := ["self", "script", "k", "talk"]
theorem sc_Tinit : FnScope n_Tinit ["self", "script"] (defScope s_Tinit) := ⟨rfl, rfl, rfl, by decide +kernel, rfl, by decide +kernel, by decide +kernel⟩
abbrev s_Tbody_at : Stmt := inClass (top 18) 1
abbrev n_Tbody_at : List Str := ["self", "path", "body", "at"]
theorem sc_Tbody_at : FnScope n_Tbody_at ["self", "path"] (defScope s_Tbody_at) := ⟨rfl, rfl, rfl, by decide +kernel, rfl, by decide +kernel, by decide +kernel⟩
abbrev s_Tbehind : Stmt := inClass (top 18) 2
abbrev n_Tbehind : List Str := ["self", "statement", "path", "at", "frames", "word", "left"]
theorem sc_Tbehind : FnScope n_Tbehind ["self", "statement", "path", "at", "frames"] (defScope s_Tbehind) := ⟨rfl, rfl, rfl, by decide +kernel, rfl, by decide +kernel, by decide +kernel⟩
abbrev s_Tput_in : Stmt := inClass (top 18) 3
abbrev n_Tput_in : List Str := ["self", "values", "name", "expression", "names", "at", "new", "box"]
theorem sc_Tput_in : FnScope n_Tput_in ["self", "values", "name", "expression"] (defScope s_Tput_in) := ⟨rfl, rfl, rfl, by decide +kernel, rfl, by decide +kernel, by decide +kernel⟩
abbrev s_Tgo : Stmt := inClass (top 18) 4
abbrev n_Tgo : List Str := ["self", "frames", "values", "said", "path", "at", "kind", "body", "statement", "word", "way"]
theorem sc_Tgo : FnScope n_Tgo ["self", "frames", "values"] (defScope s_Tgo) := ⟨rfl, rfl, rfl, by decide +kernel, rfl, by decide +kernel, by decide +kernel⟩
abbrev s_Tbegin : Stmt := inClass (top 18) 5
abbrev n_Tbegin : List Str := ["self", "box"]
theorem sc_Tbegin : FnScope n_Tbegin ["self"] (defScope s_Tbegin) := ⟨rfl, rfl, rfl, by decide +kernel, rfl, by decide +kernel, by decide +kernel⟩
abbrev s_Tstep : Stmt := inClass (top 18) 6
abbrev n_Tstep : List Str := ["self", "standing", "event", "frames", "values", "left", "path", "at", "kind", "wait", "branch"]
theorem sc_Tstep : FnScope n_Tstep ["self", "standing", "event"] (defScope s_Tstep) := ⟨rfl, rfl, rfl, by decide +kernel, rfl, by decide +kernel, by decide +kernel⟩
abbrev s_Tvalues : Stmt := inClass (top 18) 7
abbrev n_Tvalues : List Str := ["self", "standing"]
theorem sc_Tvalues : FnScope n_Tvalues ["self", "standing"] (defScope s_Tvalues) := ⟨rfl, rfl, rfl, by decide +kernel, rfl, by decide +kernel, by decide +kernel⟩
abbrev s_law_cell : Stmt := top 20
abbrev n_law_cell : List Str := ["script", "k"]
theorem sc_law_cell : FnScope n_law_cell ["script", "k"] (defScope s_law_cell) := ⟨rfl, rfl, rfl, by decide +kernel, rfl, by decide +kernel, by decide +kernel⟩
abbrev s_law_stir : Stmt := top 21
abbrev n_law_stir : List Str := ["cell", "k", "number"]
theorem sc_law_stir : FnScope n_law_stir ["cell", "k"] (defScope s_law_stir) := ⟨rfl, rfl, rfl, by decide +kernel, rfl, by decide +kernel, by decide +kernel⟩
abbrev s_law_drawn : Stmt := top 22
abbrev n_law_drawn : List Str := ["cell", "sizes", "found", "rest", "k", "size"]
theorem sc_law_drawn : FnScope n_law_drawn ["cell", "sizes"] (defScope s_law_drawn) := ⟨rfl, rfl, rfl, by decide +kernel, rfl, by decide +kernel, by decide +kernel⟩
abbrev s_law_word : Stmt := top 23
abbrev n_law_word : List Str := ["number", "letters"]
theorem sc_law_word : FnScope n_law_word ["number"] (defScope s_law_word) := ⟨rfl, rfl, rfl, by decide +kernel, rfl, by decide +kernel, by decide +kernel⟩
abbrev s_law_expression : Stmt := top 24
abbrev n_law_expression : List Str := ["d", "boxes", "one", "other", "found"]
theorem sc_law_expression : FnScope n_law_expression ["d", "boxes"] (defScope s_law_expression) := ⟨rfl, rfl, rfl, by decide +kernel, rfl, by decide +kernel, by decide +kernel⟩
abbrev s_law_condition : Stmt := top 25
abbrev n_law_condition : List Str := ["d", "boxes", "one", "other", "plain"]
theorem sc_law_condition : FnScope n_law_condition ["d", "boxes"] (defScope s_law_condition) := ⟨rfl, rfl, rfl, by decide +kernel, rfl, by decide +kernel, by decide +kernel⟩
abbrev s_law_simple : Stmt := top 26
abbrev n_law_simple : List Str := ["cell", "boxes", "calls", "most", "kind", "number", "line", "d0", "d1", "d2", "d3", "word", "name"]
theorem sc_law_simple : FnScope n_law_simple ["cell", "boxes", "calls", "most"] (defScope s_law_simple) := ⟨rfl, rfl, rfl, by decide +kernel, rfl, by decide +kernel, by decide +kernel⟩
abbrev s_law_test : Stmt := top 27
abbrev n_law_test : List Str := ["some", "cell", "boxes", "d", "at", "bodies", "entry"]
theorem sc_law_test : FnScope n_law_test ["some", "cell", "boxes"] (defScope s_law_test) := ⟨rfl, rfl, rfl, by decide +kernel, rfl, by decide +kernel, by decide +kernel⟩
abbrev s_law_wait : Stmt := top 28
abbrev n_law_wait : List Str := ["some", "cell", "most", "limit", "start", "more", "key", "number", "menu", "branches", "k", "j"]
theorem sc_law_wait : FnScope n_law_wait ["some", "cell", "most"] (defScope s_law_wait) := ⟨rfl, rfl, rfl, by decide +kernel, rfl, by decide +kernel, by decide +kernel⟩
abbrev s_law_loop : Stmt := top 29
abbrev n_law_loop : List Str := ["some", "cell", "most", "limit", "place", "key", "number", "leaves", "form", "first", "k", "at", "branches", "held", "body", "entry"]
theorem sc_law_loop : FnScope n_law_loop ["some", "cell", "most"] (defScope s_law_loop) := ⟨rfl, rfl, rfl, by decide +kernel, rfl, by decide +kernel, by decide +kernel⟩
abbrev s_law_entry : Stmt := top 30
abbrev n_law_entry : List Str := ["cell", "some", "boxes", "most", "way", "deep", "opened", "entry", "k"]
theorem sc_law_entry : FnScope n_law_entry ["cell", "some", "boxes", "most", "way"] (defScope s_law_entry) := ⟨rfl, rfl, rfl, by decide +kernel, rfl, by decide +kernel, by decide +kernel⟩
abbrev s_law_talk : Stmt := top 31
abbrev n_law_talk : List Str := ["cells", "boxes", "calls", "most", "pile", "cell", "way", "many", "rest", "some", "entry"]
theorem sc_law_talk : FnScope n_law_talk ["cells", "boxes", "calls", "most"] (defScope s_law_talk) := ⟨rfl, rfl, rfl, by decide +kernel, rfl, by decide +kernel, by decide +kernel⟩
abbrev s_law_script : Stmt := top 32
abbrev n_law_script : List Str := ["script", "way", "many", "named", "turned", "two", "three", "boxes", "most", "menu", "names", "talks", "k", "cells", "j"]
theorem sc_law_script : FnScope n_law_script ["script"] (defScope s_law_script) := ⟨rfl, rfl, rfl, by decide +kernel, rfl, by decide +kernel, by decide +kernel⟩
abbrev s_law_patterns : Stmt := top 33
abbrev n_law_patterns : List Str := ["script", "found", "body", "bodies", "statement", "pattern", "name"]
theorem sc_law_patterns : FnScope n_law_patterns ["script"] (defScope s_law_patterns) := ⟨rfl, rfl, rfl, by decide +kernel, rfl, by decide +kernel, by decide +kernel⟩
abbrev s_law_event : Stmt := top 34
abbrev n_law_event : List Str := ["cell", "patterns", "way", "key", "number", "some", "pattern"]
theorem sc_law_event : FnScope n_law_event ["cell", "patterns"] (defScope s_law_event) := ⟨rfl, rfl, rfl, by decide +kernel, rfl, by decide +kernel, by decide +kernel⟩
abbrev s_law_others : Stmt := top 35
abbrev n_law_others : List Str := ["cell", "patterns", "key", "number", "keys", "word", "found", "k"]
theorem sc_law_others : FnScope n_law_others ["cell", "patterns"] (defScope s_law_others) := ⟨rfl, rfl, rfl, by decide +kernel, rfl, by decide +kernel, by decide +kernel⟩
abbrev s_law : Stmt := top 36
abbrev n_law : List Str := ["script", "made", "patterns", "told", "machine", "said", "standing", "cell", "one", "other", "found", "last", "event"]
theorem sc_law : FnScope n_law ["script"] (defScope s_law) := ⟨rfl, rfl, rfl, by decide +kernel, rfl, by decide +kernel, by decide +kernel⟩
end CM

namespace CM
open PySem
/-! scripts as typed things, and what they are as data -/
inductive Ex where
  | num (n : Int) | box (x : Str) | plus (a b : Ex) | less (a b : Ex)
inductive Co where
  | same (a b : Ex) | under (a b : Ex) | no (c : Co) | both (c d : Co)
inductive Tk where
  | key (k : Int) | word (w : Str) | other | none | quiet
  deriving DecidableEq
inductive Sm where
  | say (w : Str) | hand (l : Int) (w : Str) | put (b : Str) (e : Ex)
  | test (c : Co) (a b : List Sm) | wait (l : Int) (bs : List (Tk × List Sm)) | loop (b : List Sm)
  | again | leave | call (t : Str) | back | stop
def encEx : Ex → PyData
  | .num n => .tuple [.str "number", .int n]
  | .box x => .tuple [.str "box", .str x]
  | .plus a b => .tuple [.str "plus", encEx a, encEx b]
  | .less a b => .tuple [.str "less", encEx a, encEx b]
def encCo : Co → PyData
  | .same a b => .tuple [.str "same", encEx a, encEx b]
  | .under a b => .tuple [.str "under", encEx a, encEx b]
  | .no c => .tuple [.str "not", encCo c]
  | .both c d => .tuple [.str "both", encCo c, encCo d]
def encTk : Tk → PyData
  | .key k => .tuple [.str "key", .int k]
  | .word w => .tuple [.str "word", .str w]
  | .other => .tuple [.str "other"]
  | .none => .tuple [.str "none"]
  | .quiet => .tuple [.str "quiet"]
/-- a list, as it is written (false) or frozen to a tuple (true) -/
def sq (f : Bool) (ds : List PyData) : PyData := if f then .tuple ds else .list ds
mutual
def encS (f : Bool) : Sm → PyData
  | .say w => .tuple [.str "say", .str w]
  | .hand l w => .tuple [.str "hand", .int l, .str w]
  | .put b e => .tuple [.str "put", .str b, encEx e]
  | .test c a b => .tuple [.str "test", encCo c, sq f (encB f a), sq f (encB f b)]
  | .wait l bs => .tuple [.str "wait", .int l, sq f (encBr f bs)]
  | .loop b => .tuple [.str "loop", sq f (encB f b)]
  | .again => .tuple [.str "again"]
  | .leave => .tuple [.str "leave"]
  | .call t => .tuple [.str "call", .str t]
  | .back => .tuple [.str "back"]
  | .stop => .tuple [.str "stop"]
def encB (f : Bool) : List Sm → List PyData
  | [] => []
  | s :: r => encS f s :: encB f r
def encBr (f : Bool) : List (Tk × List Sm) → List PyData
  | [] => []
  | (p, b) :: r => .tuple [encTk p, sq f (encB f b)] :: encBr f r
end
theorem encB_map (f : Bool) : ∀ b : List Sm, encB f b = b.map (encS f)
  | [] => rfl
  | s :: r => by
    show encS f s :: encB f r = encS f s :: r.map (encS f)
    rw [encB_map f r]
def encBr1 (f : Bool) (x : Tk × List Sm) : PyData := .tuple [encTk x.1, sq f (encB f x.2)]
theorem encBr_map (f : Bool) : ∀ b : List (Tk × List Sm), encBr f b = b.map (encBr1 f)
  | [] => rfl
  | (p, b) :: r => by
    show PyData.tuple [encTk p, sq f (encB f b)] :: encBr f r = encBr1 f (p, b) :: r.map (encBr1 f)
    rw [encBr_map f r]
    rfl
def encBox (x : Str × Int) : PyData := .tuple [.str x.1, .int x.2]
def encTalk (f : Bool) (t : Str × List Sm) : PyData := .tuple [.str t.1, sq f (encB f t.2)]
structure Sc where
  boxes : List (Str × Int)
  talks : List (Str × List Sm)
def encSc (f : Bool) (s : Sc) : PyData := .tuple [sq f (s.boxes.map encBox), sq f (s.talks.map (encTalk f))]

/-! ### a list's tuples -/
mutual
def fz : PyData → PyData
  | .list ds => .tuple (fzs ds)
  | .tuple ds => .tuple (fzs ds)
  | .none => .none
  | .bool b => .bool b
  | .int i => .int i
  | .str x => .str x
  | .dict k => .dict k
def fzs : List PyData → List PyData
  | [] => []
  | d :: r => fz d :: fzs r
end
theorem fzs_map : ∀ ds : List PyData, fzs ds = ds.map fz
  | [] => rfl
  | d :: r => by
    show fz d :: fzs r = fz d :: r.map fz
    rw [fzs_map r]
theorem fz_sq (ds : List PyData) : fz (sq false ds) = .tuple (fzs ds) := rfl
theorem fz_ex : ∀ e : Ex, fz (encEx e) = encEx e
  | .num n => rfl
  | .box x => rfl
  | .plus a b => by simp [encEx, fz, fzs, fz_ex a, fz_ex b]
  | .less a b => by simp [encEx, fz, fzs, fz_ex a, fz_ex b]
theorem fz_co : ∀ c : Co, fz (encCo c) = encCo c
  | .same a b => by simp [encCo, fz, fzs, fz_ex a, fz_ex b]
  | .under a b => by simp [encCo, fz, fzs, fz_ex a, fz_ex b]
  | .no c => by simp [encCo, fz, fzs, fz_co c]
  | .both c d => by simp [encCo, fz, fzs, fz_co c, fz_co d]
theorem fz_tk (t : Tk) : fz (encTk t) = encTk t := by cases t <;> rfl
mutual
theorem fz_s : ∀ s : Sm, fz (encS false s) = encS true s
  | .say w => rfl
  | .hand l w => rfl
  | .put b e => by simp [encS, fz, fzs, fz_ex e]
  | .test c a b => by simp [encS, fz, fzs, fz_co c, sq, fz_b a, fz_b b]
  | .wait l bs => by simp [encS, fz, fzs, sq, fz_br bs]
  | .loop b => by simp [encS, fz, fzs, sq, fz_b b]
  | .again => rfl
  | .leave => rfl
  | .call t => rfl
  | .back => rfl
  | .stop => rfl
theorem fz_b : ∀ b : List Sm, fzs (encB false b) = encB true b
  | [] => rfl
  | s :: r => by simp [encB, fzs, fz_s s, fz_b r]
theorem fz_br : ∀ b : List (Tk × List Sm), fzs (encBr false b) = encBr true b
  | [] => rfl
  | (p, b) :: r => by simp [encBr, fzs, fz, fz_tk p, sq, fz_b b, fz_br r]
end
theorem fz_boxes : ∀ b : List (Str × Int), fzs (b.map encBox) = b.map encBox
  | [] => rfl
  | x :: r => by simp [fzs, fz, encBox, fz_boxes r]
theorem fz_talks : ∀ b : List (Str × List Sm), fzs (b.map (encTalk false)) = b.map (encTalk true)
  | [] => rfl
  | x :: r => by simp [fzs, fz, encTalk, sq, fz_b, fz_talks r]
theorem fz_sc (s : Sc) : fz (encSc false s) = encSc true s := by simp [encSc, fz, fzs, sq, fz_boxes, fz_talks]

/-! ### equality of the tokens' data -/
theorem str_beq (x y : Str) : (x == y) = decide (x = y) := by
  by_cases h : x = y
  · subst h; simp
  · simp [h]
theorem int_beq (x y : Int) : (x == y) = decide (x = y) := by
  by_cases h : x = y
  · subst h; simp
  · simp [h]
theorem eqv_tk (a b : Tk) : PyData.eqv (encTk a) (encTk b) = decide (a = b) := by
  have c : ∀ x y : Str, (x == y) = decide (x = y) := str_beq
  have d : ∀ x y : Int, (x == y) = decide (x = y) := int_beq
  cases a <;> cases b <;> simp [encTk, PyData.eqv, PyData.eqvAll, c, d] <;> decide +kernel
end CM

namespace CM
open PySem
/-! the teller over typed scripts -/
inductive Kd where
  | talk | loop | block
  deriving DecidableEq
structure Fr where
  path : List Nat
  pos : Nat
  kind : Kd
def kdS : Kd → Str
  | .talk => "talk"
  | .loop => "loop"
  | .block => "block"
def encPath (p : List Nat) : PyData := .tuple (p.map fun (n : Nat) => .int (n : Int))
def encFr (f : Fr) : PyData := .tuple [encPath f.path, .int f.pos, .str (kdS f.kind)]
/-- a stack has its top ahead; as data the top stands last -/
def encStk (S : List Fr) : List PyData := S.reverse.map encFr
def ixOf (bx : List (Str × Int)) (x : Str) : Nat := bx.findIdx fun y => decide (y.1 = x)
def worthM (bx : List (Str × Int)) (vs : List Int) : Ex → Int
  | .num n => n
  | .box x => vs.getD (ixOf bx x) 0
  | .plus a b => worthM bx vs a + worthM bx vs b
  | .less a b => worthM bx vs a - worthM bx vs b
def holdsM (bx : List (Str × Int)) (vs : List Int) : Co → Bool
  | .same a b => decide (worthM bx vs a = worthM bx vs b)
  | .under a b => decide (worthM bx vs a < worthM bx vs b)
  | .no c => !holdsM bx vs c
  | .both c d => holdsM bx vs c && holdsM bx vs d
def subB : Sm → Nat → Option (List Sm)
  | .test _ a b, n => if n = 0 then some a else if n = 1 then some b else none
  | .loop b, _ => some b
  | .wait _ bs, n => (bs[n]?).map (·.2)
  | _, _ => none
def walkP : List Sm → List Nat → Option (List Sm)
  | B, [] => some B
  | _, [_] => none
  | B, i :: n :: r => match B[i]? with
    | none => none
    | some s => match subB s n with
      | none => none
      | some b => walkP b r
def bodyAt (sc : Sc) : List Nat → Option (List Sm)
  | [] => none
  | k :: r => match sc.talks[k]? with
    | none => none
    | some t => walkP t.2 r
theorem walkP_snoc {i n : Nat} {C b : List Sm} {s : Sm} (h1 : C[i]? = some s) (h2 : subB s n = some b) : ∀ (p : List Nat) (B : List Sm), walkP B p = some C → walkP B (p ++ [i, n]) = some b
  | [], B, h => by
    cases h
    simp [walkP, h1, h2]
  | [_], _, h => by cases h
  | j :: m :: r, B, h => by
    simp only [walkP, List.cons_append] at h ⊢
    cases e1 : B[j]? with
    | none => simp [e1] at h
    | some t =>
      simp only [e1] at h ⊢
      cases e2 : subB t m with
      | none => simp [e2] at h
      | some c =>
        simp only [e2] at h ⊢
        exact walkP_snoc h1 h2 r c h
theorem bodyAt_snoc {sc : Sc} {i n : Nat} {C b : List Sm} {s : Sm} {p : List Nat} (h : bodyAt sc p = some C) (h1 : C[i]? = some s) (h2 : subB s n = some b) : bodyAt sc (p ++ [i, n]) = some b := by
  cases p with
  | nil => cases h
  | cons k r =>
    simp only [bodyAt, List.cons_append] at h ⊢
    cases e : sc.talks[k]? with
    | none => simp [e] at h
    | some t =>
      simp only [e] at h ⊢
      exact walkP_snoc h1 h2 r t.2 h

/-! ### going again; what holds a loop up -/
mutual
def hasAg : Sm → Bool
  | .again => true
  | .test _ a b => hasAgB a || hasAgB b
  | .wait _ bs => hasAgR bs
  | _ => false
def hasAgB : List Sm → Bool
  | [] => false
  | s :: r => hasAg s || hasAgB r
def hasAgR : List (Tk × List Sm) → Bool
  | [] => false
  | (_, b) :: r => hasAgB b || hasAgR r
end
def holder (h : Sm) : Prop := (∃ l bs, h = .wait l bs) ∨ (∃ c l m, h = .test c [.wait l []] [.wait m []]) ∨ (∃ l, h = .loop [.wait l [], .leave]) ∨ h = .call "held"
def wet (b : List Sm) : Prop := ∃ pre h post, b = pre ++ h :: post ∧ hasAgB pre = false ∧ holder h

/-! ### sound statements, their weights -/
structure Prm where
  boxes : List (Str × Int)
  names : List Str
  wt : Str → Nat
  Q : Tk → Prop
def okW (w : Str) : Prop := PyData.canLay0 (.str w) = true ∧ w.length ≤ 20
def okEx (bx : List (Str × Int)) : Ex → Prop
  | .num n => 0 ≤ n ∧ n ≤ 9
  | .box x => ixOf bx x < bx.length
  | .plus a b => okEx bx a ∧ okEx bx b
  | .less a b => okEx bx a ∧ okEx bx b
def dEx : Ex → Nat
  | .num _ => 0
  | .box _ => 0
  | .plus a b => max (dEx a) (dEx b) + 1
  | .less a b => max (dEx a) (dEx b) + 1
def okCo (bx : List (Str × Int)) : Co → Prop
  | .same a b => (okEx bx a ∧ dEx a ≤ 3) ∧ okEx bx b ∧ dEx b ≤ 3
  | .under a b => (okEx bx a ∧ dEx a ≤ 3) ∧ okEx bx b ∧ dEx b ≤ 3
  | .no c => okCo bx c
  | .both c d => okCo bx c ∧ okCo bx d
def dCo : Co → Nat
  | .same _ _ => 0
  | .under _ _ => 0
  | .no c => dCo c + 1
  | .both c d => max (dCo c) (dCo d) + 1
mutual
def okS (Γ : Prm) (lp : Bool) : Sm → Prop
  | .say w => okW w
  | .hand l w => (0 ≤ l ∧ l ≤ 9) ∧ okW w
  | .put b e => ixOf Γ.boxes b < Γ.boxes.length ∧ okEx Γ.boxes e ∧ dEx e ≤ 3
  | .test c a b => (okCo Γ.boxes c ∧ dCo c ≤ 3) ∧ okB Γ lp a ∧ okB Γ lp b
  | .wait l bs => (0 ≤ l ∧ l ≤ 9) ∧ okR Γ lp bs
  | .loop b => wet b ∧ okB Γ true b
  | .again => lp = true
  | .leave => lp = true
  | .call t => t ∈ Γ.names
  | .back => True
  | .stop => True
def okB (Γ : Prm) (lp : Bool) : List Sm → Prop
  | [] => True
  | s :: r => okS Γ lp s ∧ okB Γ lp r
def okR (Γ : Prm) (lp : Bool) : List (Tk × List Sm) → Prop
  | [] => True
  | (p, b) :: r => (Γ.Q p ∧ okB Γ lp b) ∧ okR Γ lp r
end
mutual
def wS (wt : Str → Nat) : Sm → Nat
  | .test _ a b => 2 + wB wt a + wB wt b
  | .wait _ bs => 2 + wR wt bs
  | .loop b => 2 + wB wt b
  | .call t => 2 + wt t
  | _ => 2
def wB (wt : Str → Nat) : List Sm → Nat
  | [] => 1
  | s :: r => wS wt s + wB wt r
def wR (wt : Str → Nat) : List (Tk × List Sm) → Nat
  | [] => 0
  | (_, b) :: r => wB wt b + wR wt r
end
section
variable {Γ : Prm} {lp : Bool} {wt : Str → Nat}
theorem okB_get : ∀ {B : List Sm} {i : Nat} {s : Sm}, okB Γ lp B → B[i]? = some s → okS Γ lp s
  | [], _, _, _, e => by cases e
  | _ :: _, 0, _, h, e => by
    cases e
    exact h.1
  | _ :: _, i + 1, s, h, e => okB_get (i := i) h.2 (by simpa using e)
theorem okR_get : ∀ {B : List (Tk × List Sm)} {i : Nat} {s : Tk × List Sm}, okR Γ lp B → B[i]? = some s → Γ.Q s.1 ∧ okB Γ lp s.2
  | [], _, _, _, e => by cases e
  | (_, _) :: _, 0, _, h, e => by
    cases e
    exact h.1
  | (_, _) :: _, i + 1, s, h, e => okR_get (i := i) h.2 (by simpa using e)
theorem okB_app : ∀ {a b : List Sm}, okB Γ lp (a ++ b) ↔ okB Γ lp a ∧ okB Γ lp b
  | [], _ => by simp [okB]
  | s :: r, b => by simp [okB, okB_app (a := r) (b := b), and_assoc]
theorem wB_app : ∀ {a b : List Sm}, wB wt (a ++ b) + 1 = wB wt a + wB wt b
  | [], _ => by simp [wB, Nat.add_comm]
  | s :: r, b => by
    have := wB_app (a := r) (b := b)
    simp only [wB, List.cons_append]
    omega
theorem hasAg_app : ∀ {a b : List Sm}, hasAgB (a ++ b) = (hasAgB a || hasAgB b)
  | [], _ => by simp [hasAgB]
  | s :: r, b => by simp [hasAgB, hasAg_app (a := r) (b := b), Bool.or_assoc]
theorem wS_two (s : Sm) : 2 ≤ wS wt s := by cases s <;> simp [wS] <;> omega
theorem wB_one : ∀ b : List Sm, 1 ≤ wB wt b
  | [] => Nat.le_refl _
  | s :: r => Nat.le_trans (wB_one r) (Nat.le_add_left _ _)
theorem wS_le : ∀ {B : List Sm} {i : Nat} {s : Sm}, B[i]? = some s → wS wt s + 1 ≤ wB wt B
  | [], _, _, e => by cases e
  | _ :: r, 0, _, e => by
    cases e
    have := wB_one (wt := wt) r
    simp only [wB]
    omega
  | t :: r, i + 1, s, e => by
    have := wS_le (B := r) (i := i) (s := s) (by simpa using e)
    simp only [wB]
    omega
theorem wR_le : ∀ {B : List (Tk × List Sm)} {i : Nat} {s : Tk × List Sm}, B[i]? = some s → wB wt s.2 ≤ wR wt B
  | [], _, _, e => by cases e
  | (_, _) :: r, 0, _, e => by
    cases e
    simp only [wR]
    omega
  | (_, _) :: r, i + 1, s, e => by
    have := wR_le (B := r) (i := i) (s := s) (by simpa using e)
    simp only [wR]
    omega
theorem subB_w {s : Sm} {n : Nat} {b : List Sm} (h : subB s n = some b) : wB wt b + 2 ≤ wS wt s := by
  cases s <;> simp only [subB, reduceCtorEq] at h
  case test c x y =>
    simp only [wS]
    split at h
    · cases h
      omega
    · split at h
      · cases h
        omega
      · cases h
  case wait l bs =>
    cases e : bs[n]? with
    | none => simp [e] at h
    | some x =>
      simp [e] at h
      subst h
      have := wR_le (wt := wt) e
      simp only [wS]
      omega
  case loop x =>
    cases h
    simp only [wS]
    omega
/-- the body within: in the same loops, but of a loop -/
def lpIn (lp : Bool) : Sm → Bool
  | .loop _ => true
  | _ => lp
theorem subB_ok {s : Sm} {n : Nat} {b : List Sm} (h : subB s n = some b) (ok : okS Γ lp s) : okB Γ (lpIn lp s) b := by
  cases s <;> simp only [subB, reduceCtorEq] at h
  case test c x y =>
    split at h
    · cases h
      exact ok.2.1
    · split at h
      · cases h
        exact ok.2.2
      · cases h
  case wait l bs =>
    cases e : bs[n]? with
    | none => simp [e] at h
    | some x =>
      simp [e] at h
      subst h
      exact (okR_get ok.2 e).2
  case loop x =>
    cases h
    exact ok.2
theorem ok_noAg : (∀ s : Sm, okS Γ false s → hasAg s = false) ∧ (∀ b : List Sm, okB Γ false b → hasAgB b = false) := by
  have key : (∀ s : Sm, okS Γ false s → hasAg s = false) := by
    intro s
    refine Sm.rec (motive_1 := fun s => okS Γ false s → hasAg s = false) (motive_2 := fun b => okB Γ false b → hasAgB b = false) (motive_3 := fun b => okR Γ false b → hasAgR b = false) (motive_4 := fun x => okB Γ false x.2 → hasAgB x.2 = false)
      ?_ ?_ ?_ ?_ ?_ ?_ ?_ ?_ ?_ ?_ ?_ ?_ ?_ ?_ ?_ ?_ s
    · intro w _; rfl
    · intro l w _; rfl
    · intro b e _; rfl
    · intro c a b h1 h2 h
      simp [hasAg, h1 h.2.1, h2 h.2.2]
    · intro l bs h1 h
      simp [hasAg, h1 h.2]
    · intro b _ _; rfl
    · intro h; cases h
    · intro _; rfl
    · intro t _; rfl
    · intro _; rfl
    · intro _; rfl
    · intro _; rfl
    · intro s r h1 h2 h
      simp [hasAgB, h1 h.1, h2 h.2]
    · intro _; rfl
    · intro x r h1 h2 h
      obtain ⟨p, b⟩ := x
      simp [hasAgR, h1 h.1.2, h2 h.2]
    · intro p b h1 h
      exact h1 h
  refine ⟨key, fun b => ?_⟩
  induction b with
  | nil => intro _; rfl
  | cons s r ih =>
    intro h
    simp [hasAgB, key s h.1, ih h.2]
end

/-! ### the machine -/
structure ScOk (sc : Sc) (Γ : Prm) (D : Nat) : Prop where
  boxes : Γ.boxes = sc.boxes
  names : Γ.names = sc.talks.map (·.1)
  nd : Γ.names.Nodup
  ne : sc.talks ≠ []
  few : sc.talks.length ≤ 10
  fewb : sc.boxes.length ≤ 10
  sizes : ∀ b ∈ sc.boxes, 0 < b.2 ∧ b.2 ≤ 100
  bnames : ∀ b ∈ sc.boxes, okW b.1
  tnames : ∀ t ∈ sc.talks, okW t.1
  talks : ∀ t ∈ sc.talks, okB Γ false t.2 ∧ wB Γ.wt t.2 ≤ Γ.wt t.1 ∧ wB Γ.wt t.2 ≤ D
  held : ∃ l, (("held" : Str), [Sm.wait l []]) ∈ sc.talks
def lpOf : List Fr → Bool
  | [] => false
  | f :: r => match f.kind with
    | .loop => true
    | .talk => false
    | .block => lpOf r
structure FrOk (sc : Sc) (Γ : Prm) (D : Nat) (f : Fr) (r : List Fr) (B : List Sm) : Prop where
  body : bodyAt sc f.path = some B
  le : f.pos ≤ B.length
  ok : okB Γ (lpOf (f :: r)) B
  wt : f.kind = .loop → wet B
  ne : f.kind ≠ .talk → r ≠ []
  few : r.length + wB Γ.wt B ≤ D
  plen : f.path.length ≤ 2 * r.length + 1
def WS (sc : Sc) (Γ : Prm) (D : Nat) : List Fr → Prop
  | [] => True
  | f :: r => (∃ B, FrOk sc Γ D f r B) ∧ WS sc Γ D r
def tkIx (sc : Sc) (t : Str) : Nat := sc.talks.findIdx fun y => decide (y.1 = t)
def cutTo (k : Kd) : List Fr → List Fr
  | [] => []
  | f :: r => if f.kind = k then f :: r else cutTo k r
def handText (l : Int) (w : Str) : Str := (Str.ofString (toString l) ++ (":" : Str)) ++ w
def putIn (bx : List (Str × Int)) (vs : List Int) (b : Str) (e : Ex) : List Int := vs.set (ixOf bx b) (worthM bx vs e % ((bx[ixOf bx b]?).map (·.2)).getD 1)
inductive Nx where
  | go (S : List Fr) (vs : List Int) (out : List Str)
  | rest (S : List Fr) (vs : List Int) (l : Int)
def agT (S : List Fr) : List Fr := match cutTo .loop S with
  | [] => []
  | g :: r => ⟨g.path, 0, .loop⟩ :: r
def stepS (sc : Sc) (f : Fr) (F : List Fr) (vs : List Int) : Sm → Nx
  | .wait l _ => .rest (⟨f.path, f.pos + 1, f.kind⟩ :: F) vs l
  | .say w => .go (⟨f.path, f.pos + 1, f.kind⟩ :: F) vs [w]
  | .hand l w => .go (⟨f.path, f.pos + 1, f.kind⟩ :: F) vs [handText l w]
  | .put b e => .go (⟨f.path, f.pos + 1, f.kind⟩ :: F) (putIn sc.boxes vs b e) []
  | .test c _ _ => .go (⟨f.path ++ [f.pos, if holdsM sc.boxes vs c then 0 else 1], 0, .block⟩ :: ⟨f.path, f.pos + 1, f.kind⟩ :: F) vs []
  | .loop _ => .go (⟨f.path ++ [f.pos, 0], 0, .loop⟩ :: ⟨f.path, f.pos + 1, f.kind⟩ :: F) vs []
  | .call t => .go (⟨[tkIx sc t], 0, .talk⟩ :: ⟨f.path, f.pos + 1, f.kind⟩ :: F) vs []
  | .again => .go (agT (⟨f.path, f.pos + 1, f.kind⟩ :: F)) vs []
  | .leave => .go (cutTo .loop (⟨f.path, f.pos + 1, f.kind⟩ :: F)).tail vs []
  | .back => .go (cutTo .talk (⟨f.path, f.pos + 1, f.kind⟩ :: F)).tail vs []
  | .stop => .go [] vs []
def step1 (sc : Sc) (f : Fr) (F : List Fr) (vs : List Int) : Option Nx := match bodyAt sc f.path with
  | none => none
  | some B => if f.pos = B.length then some (.go (if f.kind = .loop then ⟨f.path, 0, .loop⟩ :: F else F) vs []) else match B[f.pos]? with
    | none => none
    | some s => some (stepS sc f F vs s)
/-- what is said, and where it rests (none: over) -/
abbrev Rz := List Str × Option (List Fr × List Int × Int)
def runM (sc : Sc) : Nat → List Fr → List Int → Option Rz
  | _, [], _ => some ([], none)
  | 0, _ :: _, _ => none
  | n + 1, f :: F, vs => match step1 sc f F vs with
    | none => none
    | some (.rest S vs' l) => some ([], some (S, vs', l))
    | some (.go S vs' out) => (runM sc n S vs').map fun r => (out ++ r.1, r.2)
theorem runM_nil {sc : Sc} {vs : List Int} (n : Nat) : runM sc n [] vs = some ([], none) := by cases n <;> rfl
theorem runM_mono {sc : Sc} : ∀ {n : Nat} {S : List Fr} {vs : List Int} {r : Rz} (m : Nat), runM sc n S vs = some r → runM sc (n + m) S vs = some r
  | n, [], _, _, m, h => by
    rw [runM_nil] at h ⊢
    exact h
  | 0, _ :: _, _, _, _, h => by cases h
  | n + 1, f :: F, vs, r, m, h => by
    rw [show n + 1 + m = (n + m) + 1 by omega]
    simp only [runM] at h ⊢
    cases e : step1 sc f F vs with
    | none => simp [e] at h
    | some nx =>
      cases nx with
      | rest S vs' l => simpa [e] using h
      | go S vs' out =>
        simp only [e, Option.map_eq_some_iff] at h ⊢
        obtain ⟨q, h1, h2⟩ := h
        exact ⟨q, runM_mono m h1, h2⟩
end CM

namespace CM
open PySem
/-! the machine goes on, keeps its stacks sound, and comes to rest -/
def okT (x : Str) : Prop := PyData.canLay0 (.str x) = true ∧ x.length ≤ 100
theorem canLay_app {x y : Str} (hx : PyData.canLay0 (.str x) = true) (hy : PyData.canLay0 (.str y) = true) : PyData.canLay0 (.str (x ++ y)) = true := by
  simp only [PyData.canLay0, PyData.strOk] at hx hy ⊢
  show (x.cps ++ y.cps).all _ = true
  rw [Array.all_append, hx, hy]
  rfl
theorem len_app (x y : Str) : (x ++ y).length = x.length + y.length := by
  show (x.cps ++ y.cps).size = x.cps.size + y.cps.size
  exact Array.size_append
theorem digit_ok : ∀ n : Nat, n ≤ 9 → PyData.canLay0 (.str (Str.ofString (toString (n : Int)) ++ (":" : Str))) = true ∧ (Str.ofString (toString (n : Int)) ++ (":" : Str)).length ≤ 10 := by decide +kernel
theorem hand_ok {l : Int} {w : Str} (h0 : 0 ≤ l) (h9 : l ≤ 9) (hw : okW w) : okT (handText l w) := by
  obtain ⟨n, rfl⟩ := Int.eq_ofNat_of_zero_le h0
  have h := digit_ok n (by omega)
  refine ⟨canLay_app h.1 hw.1, ?_⟩
  unfold handText
  rw [len_app]
  have := hw.2
  have := h.2
  omega
section
variable {sc : Sc} {Γ : Prm} {D : Nat} (ok : ScOk sc Γ D)
def StOk (sc : Sc) (Γ : Prm) (D : Nat) (S : List Fr) (vs : List Int) (l : Int) : Prop :=
  WS sc Γ D S ∧ vs.length = sc.boxes.length ∧ (0 ≤ l ∧ l ≤ 9) ∧ ∃ f F B l' bs, S = f :: F ∧ bodyAt sc f.path = some B ∧ 1 ≤ f.pos ∧ B[f.pos - 1]? = some (.wait l' bs)
def NxOk (sc : Sc) (Γ : Prm) (D : Nat) : Nx → Prop
  | .go S vs out => WS sc Γ D S ∧ vs.length = sc.boxes.length ∧ out.length ≤ 1 ∧ ∀ x ∈ out, okT x
  | .rest S vs l => StOk sc Γ D S vs l
theorem FrOk.to {f : Fr} {F : List Fr} {B : List Sm} (h : FrOk sc Γ D f F B) {q : Nat} (hq : q ≤ B.length) : FrOk sc Γ D ⟨f.path, q, f.kind⟩ F B :=
  ⟨h.body, hq, h.ok, h.wt, h.ne, h.few, h.plen⟩
theorem cut_loop : ∀ {S : List Fr}, WS sc Γ D S → lpOf S = true → ∃ g r, cutTo .loop S = g :: r ∧ g.kind = .loop ∧ WS sc Γ D (g :: r) ∧ (g :: r).length ≤ S.length
  | [], _, h => by cases h
  | f :: F, w, h => by
    unfold cutTo
    by_cases e : f.kind = .loop
    · rw [if_pos e]
      exact ⟨f, F, rfl, e, w, Nat.le_refl _⟩
    · rw [if_neg e]
      cases k : f.kind with
      | loop => exact absurd k e
      | talk => simp [lpOf, k] at h
      | block =>
        have h' : lpOf F = true := by simpa [lpOf, k] using h
        obtain ⟨g, r, h1, h2, h3, h4⟩ := cut_loop w.2 h'
        exact ⟨g, r, h1, h2, h3, Nat.le_succ_of_le h4⟩
theorem cut_talk : ∀ {S : List Fr}, WS sc Γ D S → S ≠ [] → ∃ g r, cutTo .talk S = g :: r ∧ g.kind = .talk ∧ WS sc Γ D (g :: r) ∧ (g :: r).length ≤ S.length
  | [], _, h => absurd rfl h
  | f :: F, w, h => by
    unfold cutTo
    by_cases e : f.kind = .talk
    · rw [if_pos e]
      exact ⟨f, F, rfl, e, w, Nat.le_refl _⟩
    · rw [if_neg e]
      obtain ⟨B, hB⟩ := w.1
      obtain ⟨g, r, h1, h2, h3, h4⟩ := cut_talk w.2 (hB.ne e)
      exact ⟨g, r, h1, h2, h3, Nat.le_succ_of_le h4⟩
theorem frOk_sub {f : Fr} {F : List Fr} {B b : List Sm} {s : Sm} {n : Nat} {k : Kd} (h : FrOk sc Γ D f F B) (hs : B[f.pos]? = some s) (hb : subB s n = some b) (hk : (k = .loop ∧ lpIn (lpOf (f :: F)) s = true ∧ wet b) ∨ (k = .block ∧ lpIn (lpOf (f :: F)) s = lpOf (f :: F))) :
    FrOk sc Γ D ⟨f.path ++ [f.pos, n], 0, k⟩ (⟨f.path, f.pos + 1, f.kind⟩ :: F) b := by
  have e1 := subB_ok hb (okB_get h.ok hs)
  have e2 := subB_w (wt := Γ.wt) hb
  have e3 := wS_le (wt := Γ.wt) hs
  have e4 := h.few
  have e5 := h.plen
  refine ⟨bodyAt_snoc h.body hs hb, Nat.zero_le _, ?_, ?_, fun _ => List.cons_ne_nil _ _, ?_, ?_⟩
  · rcases hk with ⟨rfl, hk, _⟩ | ⟨rfl, hk⟩
    · rw [hk] at e1
      exact e1
    · rw [hk] at e1
      exact e1
  · rcases hk with ⟨_, _, hk⟩ | ⟨rfl, hk⟩
    · exact fun _ => hk
    · intro z
      cases z
  · simp only [List.length_cons]
    omega
  · simp only [List.length_cons, List.length_append, List.length_nil]
    omega
theorem tkIx_get {t : Str} (h : t ∈ sc.talks.map (·.1)) : ∃ b, sc.talks[tkIx sc t]? = some (t, b) := by
  have h1 : tkIx sc t < sc.talks.length := by
    unfold tkIx
    rw [List.findIdx_lt_length]
    obtain ⟨x, hx, e⟩ := List.mem_map.mp h
    exact ⟨x, hx, decide_eq_true e⟩
  have h2 : (sc.talks[tkIx sc t]'h1).1 = t := of_decide_eq_true (List.findIdx_getElem (w := h1))
  exact ⟨(sc.talks[tkIx sc t]'h1).2, by rw [List.getElem?_eq_getElem h1]; exact congrArg some (Prod.ext h2 rfl)⟩
include ok
theorem step_ok {f : Fr} {F : List Fr} {vs : List Int} (w : WS sc Γ D (f :: F)) (hv : vs.length = sc.boxes.length) : ∃ nx, step1 sc f F vs = some nx ∧ NxOk sc Γ D nx := by
  obtain ⟨⟨B, h⟩, wF⟩ := w
  unfold step1
  rw [h.body]
  by_cases e : f.pos = B.length
  · simp only [if_pos e]
    refine ⟨_, rfl, ?_, hv, Nat.zero_le _, fun x hx => by cases hx⟩
    by_cases k : f.kind = .loop
    · rw [if_pos k]
      refine ⟨⟨B, ?_⟩, wF⟩
      have := h.to (q := 0) (Nat.zero_le _)
      rw [k] at this
      exact this
    · rw [if_neg k]
      exact wF
  · simp only [if_neg e]
    have hlt : f.pos < B.length := by have := h.le; omega
    have hs : B[f.pos]? = some B[f.pos] := List.getElem?_eq_getElem hlt
    rw [hs]
    generalize B[f.pos] = s at hs
    refine ⟨_, rfl, ?_⟩
    have hS := h.to (q := f.pos + 1) hlt
    have wS' : WS sc Γ D (⟨f.path, f.pos + 1, f.kind⟩ :: F) := ⟨⟨B, hS⟩, wF⟩
    have os := okB_get h.ok hs
    have none_out : ∀ x ∈ ([] : List Str), okT x := fun x hx => by cases hx
    cases s with
    | say x => exact ⟨wS', hv, Nat.le_refl _, fun y hy => by
        rw [List.mem_singleton] at hy
        subst hy
        exact ⟨os.1, Nat.le_trans os.2 (by decide)⟩⟩
    | hand l x => exact ⟨wS', hv, Nat.le_refl _, fun y hy => by
        rw [List.mem_singleton] at hy
        subst hy
        exact hand_ok os.1.1 os.1.2 os.2⟩
    | put b e' => exact ⟨wS', by unfold putIn; rw [List.length_set]; exact hv, Nat.zero_le _, none_out⟩
    | test c a b =>
      refine ⟨⟨⟨if holdsM sc.boxes vs c then a else b, ?_⟩, wS'⟩, hv, Nat.zero_le _, none_out⟩
      refine frOk_sub h hs ?_ (.inr ⟨rfl, rfl⟩)
      cases holdsM sc.boxes vs c <;> simp [subB]
    | wait l bs => exact ⟨wS', hv, os.1, _, _, B, l, bs, rfl, h.body, Nat.le_add_left _ _, hs⟩
    | loop b => exact ⟨⟨⟨b, frOk_sub h hs rfl (.inl ⟨rfl, rfl, os.1⟩)⟩, wS'⟩, hv, Nat.zero_le _, none_out⟩
    | again =>
      have hl : lpOf (⟨f.path, f.pos + 1, f.kind⟩ :: F) = true := os
      obtain ⟨g, r, h1, h2, h3, _⟩ := cut_loop wS' hl
      refine ⟨?_, hv, Nat.zero_le _, none_out⟩
      unfold agT
      rw [h1]
      obtain ⟨⟨C, hC⟩, wr⟩ := h3
      have := hC.to (q := 0) (Nat.zero_le _)
      rw [h2] at this
      exact ⟨⟨C, this⟩, wr⟩
    | leave =>
      have hl : lpOf (⟨f.path, f.pos + 1, f.kind⟩ :: F) = true := os
      obtain ⟨g, r, h1, _, h3, _⟩ := cut_loop wS' hl
      refine ⟨?_, hv, Nat.zero_le _, none_out⟩
      rw [h1]
      exact h3.2
    | call t =>
      have ht : t ∈ sc.talks.map (·.1) := by
        rw [← ok.names]
        exact os
      obtain ⟨b, hb⟩ := tkIx_get ht
      have o := ok.talks _ (List.mem_of_getElem? hb)
      have e3 := wS_le (wt := Γ.wt) hs
      have e4 := h.few
      refine ⟨⟨⟨b, ?_, Nat.zero_le _, o.1, fun z => by (cases z), fun z => absurd rfl z, ?_, ?_⟩, wS'⟩, hv, Nat.zero_le _, none_out⟩
      · simp [bodyAt, hb, walkP]
      · simp only [wS] at e3
        simp only [List.length_cons]
        have o2 : wB Γ.wt b ≤ Γ.wt t := o.2.1
        omega
      · simp
    | back =>
      obtain ⟨g, r, h1, _, h3, _⟩ := cut_talk wS' (List.cons_ne_nil _ _)
      refine ⟨?_, hv, Nat.zero_le _, none_out⟩
      rw [h1]
      exact h3.2
    | stop => exact ⟨trivial, hv, Nat.zero_le _, none_out⟩

/-! ### it comes to rest -/
omit ok in
theorem run_step {f : Fr} {F S : List Fr} {vs vs' : List Int} {out : List Str} {n : Nat} (h : step1 sc f F vs = some (.go S vs' out)) (hr : (runM sc n S vs').isSome = true) : (runM sc (n + 1) (f :: F) vs).isSome = true := by
  simp only [runM, h]
  cases e : runM sc n S vs' with
  | none => simp [e] at hr
  | some r => rfl
def Tn (sc : Sc) (n : Nat) (S : List Fr) : Prop := ∀ vs : List Int, vs.length = sc.boxes.length → (runM sc n S vs).isSome = true
omit ok in
theorem Tn.mono {n m : Nat} {S : List Fr} (h : Tn sc n S) (hm : n ≤ m) : Tn sc m S := fun vs hv => by
  have h1 := h vs hv
  cases e : runM sc n S vs with
  | none => simp [e] at h1
  | some r =>
    rw [show m = n + (m - n) by omega, runM_mono (m - n) e]
    rfl
omit ok in
theorem step1_at {p : List Nat} {i : Nat} {k : Kd} {F : List Fr} {B : List Sm} {s : Sm} (hb : bodyAt sc p = some B) (hs : B[i]? = some s) (vs : List Int) : step1 sc ⟨p, i, k⟩ F vs = some (stepS sc ⟨p, i, k⟩ F vs s) := by
  have hlt := (List.getElem?_eq_some_iff.mp hs).1
  simp only [step1, hb]
  rw [if_neg (by omega), hs]
omit ok in
theorem step1_end {p : List Nat} {i : Nat} {k : Kd} {F : List Fr} {B : List Sm} (hb : bodyAt sc p = some B) (hi : i = B.length) (vs : List Int) : step1 sc ⟨p, i, k⟩ F vs = some (.go (if k = .loop then ⟨p, 0, .loop⟩ :: F else F) vs []) := by
  simp only [step1, hb]
  rw [if_pos hi]
omit ok in
/-- a wait is rest -/
theorem tn_wait {p : List Nat} {i : Nat} {k : Kd} {F : List Fr} {B : List Sm} {l : Int} {bs : List (Tk × List Sm)} (hb : bodyAt sc p = some B) (hs : B[i]? = some (.wait l bs)) : Tn sc 1 (⟨p, i, k⟩ :: F) := fun vs hv => by
  simp only [runM, step1_at hb hs, stepS]
  rfl
omit ok in
theorem cut_pos {p : List Nat} {k κ : Kd} {F : List Fr} (i j : Nat) : (cutTo κ (⟨p, i, k⟩ :: F)).tail = (cutTo κ (⟨p, j, k⟩ :: F)).tail := by
  simp only [cutTo]
  split <;> rfl
omit ok in
theorem agT_pos {p : List Nat} {k : Kd} {F : List Fr} (i j : Nat) : agT (⟨p, i, k⟩ :: F) = agT (⟨p, j, k⟩ :: F) := by
  simp only [agT, cutTo]
  by_cases e : k = .loop
  · simp [e]
  · simp [e]
omit ok in
theorem cut_block {p : List Nat} {i : Nat} {S : List Fr} {κ : Kd} (h : κ ≠ .block) : cutTo κ (⟨p, i, .block⟩ :: S) = cutTo κ S := by
  simp only [cutTo]
  rw [if_neg (fun z => h z.symm)]
omit ok in
theorem agT_block {p : List Nat} {i : Nat} {S : List Fr} : agT (⟨p, i, .block⟩ :: S) = agT S := by
  unfold agT
  rw [cut_block (by decide)]
omit ok in
theorem cut_loopB {p : List Nat} {i : Nat} {S : List Fr} : cutTo .talk (⟨p, i, .loop⟩ :: S) = cutTo .talk S := by
  simp only [cutTo]
  rw [if_neg (by decide)]
/-- what holds a loop up rests at once -/
theorem tn_holder {p : List Nat} {i : Nat} {k : Kd} {F : List Fr} {B : List Sm} {h : Sm} (hb : bodyAt sc p = some B) (hs : B[i]? = some h) (hh : holder h) : Tn sc 2 (⟨p, i, k⟩ :: F) := by
  rcases hh with ⟨l, bs, rfl⟩ | ⟨c, l, m, rfl⟩ | ⟨l, rfl⟩ | rfl
  · exact (tn_wait hb hs).mono (by decide)
  · intro vs hv
    refine run_step (step1_at hb hs vs) ?_
    have hsub : ∃ l', subB (.test c [.wait l []] [.wait m []]) (if holdsM sc.boxes vs c then 0 else 1) = some [.wait l' []] := by
      cases holdsM sc.boxes vs c
      · exact ⟨m, rfl⟩
      · exact ⟨l, rfl⟩
    obtain ⟨l', hsub⟩ := hsub
    exact tn_wait (bodyAt_snoc hb hs hsub) (i := 0) rfl vs hv
  · intro vs hv
    refine run_step (step1_at hb hs vs) ?_
    exact tn_wait (bodyAt_snoc hb hs (show subB (.loop [.wait l [], .leave]) 0 = some _ from rfl)) (i := 0) rfl vs hv
  · intro vs hv
    refine run_step (step1_at hb hs vs) ?_
    obtain ⟨l, hl⟩ := ok.held
    obtain ⟨b, hb'⟩ := tkIx_get (sc := sc) (t := "held") (List.mem_map.mpr ⟨_, hl, rfl⟩)
    have : b = [Sm.wait l []] := by
      have nd := ok.nd
      rw [ok.names] at nd
      have m1 := List.mem_of_getElem? hb'
      obtain ⟨i1, h1, e1⟩ := List.getElem_of_mem m1
      obtain ⟨i2, h2, e2⟩ := List.getElem_of_mem hl
      have e : i1 = i2 := by
        have a1 : (sc.talks.map (·.1))[i1]? = some "held" := by rw [List.getElem?_map, List.getElem?_eq_getElem h1, e1] <;> rfl
        have a2 : (sc.talks.map (·.1))[i2]? = some "held" := by rw [List.getElem?_map, List.getElem?_eq_getElem h2, e2] <;> rfl
        obtain ⟨b1, c1⟩ := List.getElem?_eq_some_iff.mp a1
        obtain ⟨b2, c2⟩ := List.getElem?_eq_some_iff.mp a2
        exact (List.getElem_inj nd).mp (c1.trans c2.symm)
      subst e
      rw [e1] at e2
      exact (Prod.mk.inj e2).2
    subst this
    exact tn_wait (B := [.wait l []]) (by simp [bodyAt, hb', walkP]) (i := 0) rfl vs hv
/-- THE SEGMENT: statements from i to e of a body -/
theorem tn_seg : ∀ (w : Nat) (p : List Nat) (k : Kd) (F : List Fr) (B : List Sm) (e n i : Nat), e = i + n → e ≤ B.length → bodyAt sc p = some B → okB Γ (lpOf (⟨p, 0, k⟩ :: F)) B → wB Γ.wt ((B.take e).drop i) ≤ w → ∀ M : Nat,
    Tn sc M (⟨p, e, k⟩ :: F) → (hasAgB ((B.take e).drop i) = true → Tn sc M (agT (⟨p, 0, k⟩ :: F))) → (lpOf (⟨p, 0, k⟩ :: F) = true → Tn sc M (cutTo .loop (⟨p, 0, k⟩ :: F)).tail) → Tn sc M (cutTo .talk (⟨p, 0, k⟩ :: F)).tail →
    Tn sc (wB Γ.wt ((B.take e).drop i) + M) (⟨p, i, k⟩ :: F) := by
  intro w
  induction w using Nat.strongRecOn with
  | _ w IH =>
  -- a loop that is held up
  have loopIn : ∀ (p : List Nat) (F : List Fr) (b : List Sm) (M : Nat), wB Γ.wt b ≤ w → bodyAt sc p = some b → okB Γ true b → wet b → Tn sc M F → Tn sc M (cutTo .talk F).tail → wB Γ.wt b < w → Tn sc (wB Γ.wt b + M) (⟨p, 0, .loop⟩ :: F) := by
    rintro p F b M hw hb ho ⟨pre, h, post, rfl, hag, hh⟩ hF hT hlt
    have e1 : (((pre ++ h :: post).take pre.length).drop 0) = pre := by simp
    have e2 : wB Γ.wt (pre ++ h :: post) + 1 = wB Γ.wt pre + wB Γ.wt (h :: post) := wB_app
    have e3 : wB Γ.wt (h :: post) = wS Γ.wt h + wB Γ.wt post := rfl
    have e4 := wS_two (wt := Γ.wt) h
    have e5 := wB_one (wt := Γ.wt) post
    have r := IH (wB Γ.wt pre) (by omega) p .loop F (pre ++ h :: post) pre.length pre.length 0 (by omega) (by simp) hb (by simpa [lpOf] using ho) (by rw [e1]; exact Nat.le_refl _) (2 + M)
      ((tn_holder ok hb (by simp) hh).mono (by omega)) (by rw [e1, hag]; intro z; cases z)
      (fun _ => by simpa [cutTo] using hF.mono (by omega)) (by simpa [cutTo] using hT.mono (by omega))
    rw [e1] at r
    exact r.mono (by omega)
  intro p k F B e n
  induction n with
  | zero =>
    intro i he hle hb ho hw M hon _ _ _
    have : e = i := by omega
    subst this
    exact hon.mono (by omega)
  | succ n ihn =>
    intro i he hle hb ho hw M hon hag hlv hbk
    have hi : i < B.length := by omega
    have hs : B[i]? = some B[i] := List.getElem?_eq_getElem hi
    have hd : (B.take e).drop i = B[i] :: (B.take e).drop (i + 1) := by
      rw [List.drop_eq_getElem_cons (by rw [List.length_take]; omega), List.getElem_take]
    have os := okB_get ho hs
    generalize B[i] = s at hs hd os
    have e0 : wB Γ.wt ((B.take e).drop i) = wS Γ.wt s + wB Γ.wt ((B.take e).drop (i + 1)) := by rw [hd] <;> rfl
    have a0 : hasAgB ((B.take e).drop i) = (hasAg s || hasAgB ((B.take e).drop (i + 1))) := by rw [hd] <;> rfl
    have tw := wS_two (wt := Γ.wt) s
    have hrest : Tn sc (wB Γ.wt ((B.take e).drop (i + 1)) + M) (⟨p, i + 1, k⟩ :: F) :=
      ihn (i + 1) (by omega) hle hb ho (by omega) M hon (fun z => hag (by rw [a0, z, Bool.or_true])) hlv hbk
    rw [e0]
    -- a body within, as a block
    have block : ∀ (m : Nat) (b : List Sm), subB s m = some b → lpIn (lpOf (⟨p, 0, k⟩ :: F)) s = lpOf (⟨p, 0, k⟩ :: F) → (hasAgB b = true → hasAg s = true) → Tn sc (wB Γ.wt b + (1 + (wB Γ.wt ((B.take e).drop (i + 1)) + M))) (⟨p ++ [i, m], 0, .block⟩ :: ⟨p, i + 1, k⟩ :: F) := by
      intro m b hsub hl ha
      have hb' := bodyAt_snoc hb hs hsub
      have w2 := subB_w (wt := Γ.wt) hsub
      have o2 := subB_ok hsub os
      rw [hl] at o2
      have e1 : ((b.take b.length).drop 0) = b := by simp
      have r := IH (wB Γ.wt b) (by omega) (p ++ [i, m]) .block (⟨p, i + 1, k⟩ :: F) b b.length b.length 0 (by omega) (Nat.le_refl _) hb' (by simpa [lpOf] using o2) (by rw [e1]; exact Nat.le_refl _) (1 + (wB Γ.wt ((B.take e).drop (i + 1)) + M))
        (fun vs hv => by
          rw [Nat.add_comm 1]
          exact run_step (step1_end hb' rfl vs) (hrest vs hv))
        (fun z => by
          rw [e1] at z
          rw [agT_block, agT_pos (i + 1) 0]
          exact (hag (by rw [a0, ha z, Bool.true_or])).mono (by omega))
        (fun z => by
          rw [cut_block (by decide), cut_pos (i + 1) 0]
          exact (hlv z).mono (by omega))
        (by
          rw [cut_block (by decide), cut_pos (i + 1) 0]
          exact hbk.mono (by omega))
      rw [e1] at r
      exact r
    have adv : ∀ (vs' : List Int), vs'.length = sc.boxes.length → (runM sc (wS Γ.wt s - 1 + (wB Γ.wt ((B.take e).drop (i + 1)) + M)) (⟨p, i + 1, k⟩ :: F) vs').isSome = true := fun vs' hv' => (hrest.mono (by omega)) vs' hv'
    intro vs hv
    have es : wS Γ.wt s + wB Γ.wt ((B.take e).drop (i + 1)) + M = (wS Γ.wt s - 1 + (wB Γ.wt ((B.take e).drop (i + 1)) + M)) + 1 := by omega
    rw [es]
    have st := step1_at (k := k) (F := F) hb hs vs
    cases s with
    | say x => exact run_step st (adv vs hv)
    | hand l x => exact run_step st (adv vs hv)
    | put b e' => exact run_step st (adv _ (by unfold putIn; rw [List.length_set]; exact hv))
    | wait l bs =>
      simp only [runM, st, stepS]
      rfl
    | test c a b =>
      refine run_step st ?_
      cases hc : holdsM sc.boxes vs c with
      | true =>
        have r := block 0 a rfl rfl (fun z => by simp [hasAg, z])
        simp only [hc, if_true]
        refine r.mono ?_ vs hv
        simp only [wS]
        omega
      | false =>
        have r := block 1 b rfl rfl (fun z => by simp [hasAg, z])
        simp only [hc, Bool.false_eq_true, if_false]
        refine r.mono ?_ vs hv
        simp only [wS]
        omega
    | loop b =>
      refine run_step st ?_
      have hsub : subB (.loop b) 0 = some b := rfl
      have w2 : wS Γ.wt (.loop b) = 2 + wB Γ.wt b := rfl
      have r := loopIn (p ++ [i, 0]) (⟨p, i + 1, k⟩ :: F) b (wB Γ.wt ((B.take e).drop (i + 1)) + M) (by omega) (bodyAt_snoc hb hs hsub) os.2 os.1 hrest (by
          rw [cut_pos (i + 1) 0]
          exact hbk.mono (by omega)) (by omega)
      refine r.mono ?_ vs hv
      omega
    | again =>
      refine run_step st ?_
      have q : Tn sc M (agT (⟨p, i + 1, k⟩ :: F)) := by
        rw [agT_pos (i + 1) 0]
        exact hag (by rw [a0] <;> rfl)
      refine q.mono ?_ vs hv
      omega
    | leave =>
      refine run_step st ?_
      have q : Tn sc M (cutTo .loop (⟨p, i + 1, k⟩ :: F)).tail := by
        rw [cut_pos (i + 1) 0]
        exact hlv os
      refine q.mono ?_ vs hv
      omega
    | call t =>
      refine run_step st ?_
      have ht : t ∈ sc.talks.map (·.1) := by
        rw [← ok.names]
        exact os
      obtain ⟨b, hb'⟩ := tkIx_get ht
      have o := ok.talks _ (List.mem_of_getElem? hb')
      have hbd : bodyAt sc [tkIx sc t] = some b := by simp [bodyAt, hb', walkP]
      have w2 : wS Γ.wt (.call t) = 2 + Γ.wt t := rfl
      have w3 := o.2.1
      have w3' : wB Γ.wt b ≤ Γ.wt t := w3
      have e1 : ((b.take b.length).drop 0) = b := by simp
      have r := IH (wB Γ.wt b) (by omega) [tkIx sc t] .talk (⟨p, i + 1, k⟩ :: F) b b.length b.length 0 (by omega) (Nat.le_refl _) hbd (by simpa [lpOf] using o.1) (by rw [e1]; exact Nat.le_refl _) (1 + (wB Γ.wt ((B.take e).drop (i + 1)) + M))
        (fun vs hv => by
          rw [Nat.add_comm 1]
          exact run_step (step1_end hbd rfl vs) (hrest vs hv))
        (fun z => by
          rw [e1, ok_noAg.2 b o.1] at z
          cases z)
        (fun z => by simp [lpOf] at z) (by simpa [cutTo] using hrest.mono (by omega))
      rw [e1] at r
      refine r.mono ?_ vs hv
      omega
    | back =>
      refine run_step st ?_
      have q : Tn sc M (cutTo .talk (⟨p, i + 1, k⟩ :: F)).tail := by
        rw [cut_pos (i + 1) 0]
        exact hbk
      refine q.mono ?_ vs hv
      omega
    | stop =>
      refine run_step st ?_
      simp [stepS, runM_nil]
theorem tn_body {p : List Nat} {k : Kd} {F : List Fr} {B : List Sm} {i : Nat} {M : Nat} (hi : i ≤ B.length) (hb : bodyAt sc p = some B) (ho : okB Γ (lpOf (⟨p, 0, k⟩ :: F)) B) (hon : Tn sc M (⟨p, B.length, k⟩ :: F)) (hag : lpOf (⟨p, 0, k⟩ :: F) = true → Tn sc M (agT (⟨p, 0, k⟩ :: F)))
    (hlv : lpOf (⟨p, 0, k⟩ :: F) = true → Tn sc M (cutTo .loop (⟨p, 0, k⟩ :: F)).tail) (hbk : Tn sc M (cutTo .talk (⟨p, 0, k⟩ :: F)).tail) : Tn sc (wB Γ.wt (B.drop i) + M) (⟨p, i, k⟩ :: F) := by
  have r := tn_seg ok _ p k F B B.length (B.length - i) i (by omega) (Nat.le_refl _) hb ho (Nat.le_refl _) M hon (fun z => by
    by_cases q : lpOf (⟨p, 0, k⟩ :: F) = true
    · exact hag q
    · exfalso
      have q' : lpOf (⟨p, 0, k⟩ :: F) = false := by simpa using q
      rw [q'] at ho
      rw [List.take_length] at z
      have : okB Γ false (B.drop i) := by
        have h2 : okB Γ false (B.take i ++ B.drop i) := by rw [List.take_append_drop]; exact ho
        exact (okB_app.mp h2).2
      rw [ok_noAg.2 _ this] at z
      cases z) hlv hbk
  rw [List.take_length] at r
  exact r
/-- a loop that is held up, by itself -/
theorem tn_loop {p : List Nat} {F : List Fr} {b : List Sm} {M : Nat} (hb : bodyAt sc p = some b) (ho : okB Γ true b) (hw : wet b) (hF : Tn sc M F) (hT : Tn sc M (cutTo .talk F).tail) : Tn sc (wB Γ.wt b + M) (⟨p, 0, .loop⟩ :: F) := by
  obtain ⟨pre, h, post, rfl, hag, hh⟩ := hw
  have e1 : (((pre ++ h :: post).take pre.length).drop 0) = pre := by simp
  have e2 : wB Γ.wt (pre ++ h :: post) + 1 = wB Γ.wt pre + wB Γ.wt (h :: post) := wB_app
  have e3 : wB Γ.wt (h :: post) = wS Γ.wt h + wB Γ.wt post := rfl
  have e4 := wS_two (wt := Γ.wt) h
  have e5 := wB_one (wt := Γ.wt) post
  have r := tn_seg ok (wB Γ.wt pre) p .loop F (pre ++ h :: post) pre.length pre.length 0 (by omega) (by simp) hb (by simpa [lpOf] using ho) (by rw [e1]; exact Nat.le_refl _) (2 + M)
    ((tn_holder ok hb (by simp) hh).mono (by omega)) (by rw [e1, hag]; intro z; cases z)
    (fun _ => by simpa [cutTo] using hF.mono (by omega)) (by simpa [cutTo] using hT.mono (by omega))
  rw [e1] at r
  exact r.mono (by omega)
theorem tn_ws : ∀ (m : Nat) (S : List Fr), S.length ≤ m → WS sc Γ D S → Tn sc (m * (2 * D + 3)) S := by
  intro m
  induction m with
  | zero =>
    intro S hl _
    cases S with
    | nil => exact fun vs _ => by rw [runM_nil] <;> rfl
    | cons f F => simp at hl
  | succ m ih =>
    intro S hl w
    cases S with
    | nil => exact fun vs _ => by rw [runM_nil] <;> rfl
    | cons f F =>
      obtain ⟨⟨B, h⟩, wF⟩ := w
      have hl' : F.length ≤ m := by simpa using hl
      have hF := ih F hl' wF
      have few := h.few
      obtain ⟨p, i, k⟩ := f
      have wS0 : WS sc Γ D (⟨p, 0, k⟩ :: F) := ⟨⟨B, h.to (Nat.zero_le _)⟩, wF⟩
      have es : (m + 1) * (2 * D + 3) = m * (2 * D + 3) + (2 * D + 3) := by rw [Nat.succ_mul]
      generalize hM : m * (2 * D + 3) = M0 at *
      -- where back leads
      have hbk : Tn sc M0 (cutTo .talk (⟨p, 0, k⟩ :: F)).tail := by
        obtain ⟨g, r, h1, _, h3, h4⟩ := cut_talk wS0 (List.cons_ne_nil _ _)
        rw [h1]
        refine ih r ?_ h3.2
        simp only [List.length_cons] at h4
        omega
      have hlv : lpOf (⟨p, 0, k⟩ :: F) = true → Tn sc M0 (cutTo .loop (⟨p, 0, k⟩ :: F)).tail := fun z => by
        obtain ⟨g, r, h1, _, h3, h4⟩ := cut_loop wS0 z
        rw [h1]
        refine ih r ?_ h3.2
        simp only [List.length_cons] at h4
        omega
      have restart : k = .loop → Tn sc (D + M0) (⟨p, 0, .loop⟩ :: F) := fun z => by
        subst z
        have bk : Tn sc M0 (cutTo .talk F).tail := by simpa [cutTo] using hbk
        exact (tn_loop ok h.body (by simpa [lpOf] using h.ok) (h.wt rfl) hF bk).mono (by omega)
      have hag : lpOf (⟨p, 0, k⟩ :: F) = true → Tn sc (D + M0) (agT (⟨p, 0, k⟩ :: F)) := fun z => by
        by_cases e : k = .loop
        · subst e
          simpa [agT, cutTo] using restart rfl
        · have e2 : agT (⟨p, 0, k⟩ :: F) = agT F := by simp [agT, cutTo, e]
          have z2 : lpOf F = true := by
            cases k with
            | loop => exact absurd rfl e
            | talk => simp [lpOf] at z
            | block => simpa [lpOf] using z
          obtain ⟨g, r, h1, h2, h3, h4⟩ := cut_loop wF z2
          have e3 : agT F = ⟨g.path, 0, .loop⟩ :: r := by simp [agT, h1]
          obtain ⟨⟨C, hC⟩, wr⟩ := h3
          have hC0 := hC.to (q := 0) (Nat.zero_le _)
          rw [h2] at hC0
          have t := ih (⟨g.path, 0, .loop⟩ :: r) (by simp only [List.length_cons] at h4 ⊢; omega) ⟨⟨C, hC0⟩, wr⟩
          rw [e2, e3]
          exact t.mono (by omega)
      have hon : Tn sc (D + M0 + 1) (⟨p, B.length, k⟩ :: F) := fun vs hv => by
        refine run_step (step1_end h.body rfl vs) ?_
        by_cases e : k = .loop
        · rw [if_pos e]
          exact restart e vs hv
        · rw [if_neg e]
          exact hF.mono (by omega) vs hv
      have r : Tn sc (wB Γ.wt (B.drop i) + (D + M0 + 1)) (⟨p, i, k⟩ :: F) := tn_body ok h.le h.body h.ok hon (fun z => (hag z).mono (by omega)) (fun z => (hlv z).mono (by omega)) (hbk.mono (by omega))
      have w1 : wB Γ.wt (B.drop i) ≤ wB Γ.wt B := by
        have q := wB_app (wt := Γ.wt) (a := B.take i) (b := B.drop i)
        rw [List.take_append_drop] at q
        have := wB_one (wt := Γ.wt) (B.take i)
        omega
      exact r.mono (by omega)
omit ok in
/-- a stack is at most D frames -/
theorem ws_len {S : List Fr} (w : WS sc Γ D S) : S.length ≤ D := by
  cases S with
  | nil => exact Nat.zero_le _
  | cons f F =>
    obtain ⟨⟨B, h⟩, _⟩ := w
    have := h.few
    have := wB_one (wt := Γ.wt) B
    simp only [List.length_cons]
    omega
def RzOk (sc : Sc) (Γ : Prm) (D : Nat) (r : Rz) : Prop := (∀ x ∈ r.1, okT x) ∧ match r.2 with
  | none => True
  | some q => StOk sc Γ D q.1 q.2.1 q.2.2
theorem run_ok : ∀ {n : Nat} {S : List Fr} {vs : List Int} {r : Rz}, WS sc Γ D S → vs.length = sc.boxes.length → runM sc n S vs = some r → RzOk sc Γ D r ∧ r.1.length ≤ n
  | n, [], vs, r, _, _, h => by
    rw [runM_nil] at h
    cases h
    exact ⟨⟨fun x hx => by (cases hx), trivial⟩, Nat.zero_le _⟩
  | 0, _ :: _, _, _, _, _, h => by cases h
  | n + 1, f :: F, vs, r, w, hv, h => by
    obtain ⟨nx, h1, h2⟩ := step_ok ok w hv
    simp only [runM, h1] at h
    cases nx with
    | rest S vs' l =>
      cases h
      exact ⟨⟨fun x hx => by (cases hx), h2⟩, Nat.zero_le _⟩
    | go S vs' out =>
      simp only [Option.map_eq_some_iff] at h
      obtain ⟨q, h3, rfl⟩ := h
      obtain ⟨⟨a1, a2⟩, a3⟩ := run_ok h2.1 h2.2.1 h3
      refine ⟨⟨fun x hx => ?_, a2⟩, ?_⟩
      · rcases List.mem_append.mp hx with z | z
        · exact h2.2.2.2 x z
        · exact a1 x z
      · have := h2.2.2.1
        simp only [List.length_append]
        omega
def lim (D : Nat) : Nat := D * (2 * D + 3)
/-- from every sound stack it comes to rest within lim D steps -/
theorem runs {S : List Fr} {vs : List Int} (w : WS sc Γ D S) (hv : vs.length = sc.boxes.length) : ∃ r, runM sc (lim D) S vs = some r ∧ RzOk sc Γ D r ∧ r.1.length ≤ lim D := by
  have t := tn_ws ok D S (ws_len w) w vs hv
  cases e : runM sc (lim D) S vs with
  | none =>
    unfold lim at e
    rw [e] at t
    cases t
  | some r => exact ⟨r, rfl, run_ok ok w hv e⟩
end
end CM

namespace CM
open PySem
/-! the scripts that the law draws, as typed things -/
def stirM (cell : Int) (k : Int) : Int :=
  let a := (cell % 10 ^ 60 + 7919 * k + 1) * 27182818284590452353602874713527
  let b := a % 170141183460469231731687303715884105727
  b * b % 170141183460469231731687303715884105727 / 5
def drawnGo (cell : Int) : Int → Nat → List Int → List Int
  | _, _, [] => []
  | rest, k, size :: sz => if cell % 2 = 0 then rest % size :: drawnGo cell (rest / size) (k + 1) sz else stirM rest k % size :: drawnGo cell rest (k + 1) sz
def drawn (cell : Int) (sizes : List Int) : List Int := drawnGo cell (cell / 2) 0 sizes
def dr (cell : Int) (sizes : List Int) (i : Nat) : Int := (drawn cell sizes).getD i 0
theorem drawnGo_len {cell : Int} : ∀ (sz : List Int) (rest : Int) (k : Nat), (drawnGo cell rest k sz).length = sz.length
  | [], _, _ => rfl
  | s :: sz, rest, k => by
    unfold drawnGo
    split <;> simp [drawnGo_len sz]
theorem drawnGo_lt {cell : Int} : ∀ (sz : List Int) (rest : Int) (k i : Nat) (s : Int), sz[i]? = some s → 0 < s → 0 ≤ (drawnGo cell rest k sz).getD i 0 ∧ (drawnGo cell rest k sz).getD i 0 < s
  | [], _, _, _, _, h, _ => by cases h
  | s :: sz, rest, k, 0, t, h, h0 => by
    cases h
    unfold drawnGo
    split
    · exact ⟨Int.emod_nonneg _ (by omega), Int.emod_lt_of_pos _ h0⟩
    · exact ⟨Int.emod_nonneg _ (by omega), Int.emod_lt_of_pos _ h0⟩
  | s :: sz, rest, k, i + 1, t, h, h0 => by
    unfold drawnGo
    split
    · exact drawnGo_lt sz _ (k + 1) i t (by simpa using h) h0
    · exact drawnGo_lt sz _ (k + 1) i t (by simpa using h) h0
theorem drawn_len (cell : Int) (sz : List Int) : (drawn cell sz).length = sz.length := drawnGo_len sz _ _
theorem dr_lt {cell : Int} {sz : List Int} {s : Int} (i : Nat) (h : sz[i]? = some s) (h0 : 0 < s) : 0 ≤ dr cell sz i ∧ dr cell sz i < s := drawnGo_lt sz _ _ i s h h0
/-- a word that the law draws -/
def words9 : List Str := ["other", "none", "quiet", "key", "word", "say", "x", "xx", "wait"]
def letterAt (i : Nat) : Str := ⟨#[97 + i]⟩
def genWord (n : Int) : Str := if n % 6 = 5 then words9.getD (n / 6 % 9).toNat Str.empty else if n / 26 % 2 = 0 then letterAt (n % 26).toNat else letterAt (n % 26).toNat ++ letterAt (n / 52 % 26).toNat
/-- what is asked of such words -/
def gw (w : Str) : Bool := PyData.canLay0 (.str w) && decide (w.length ≤ 5) && !decide (w = ("zebra" : Str)) && !decide (w = ("b" ++ ":" : Str))
theorem gw_9 : ∀ i : Nat, i < 9 → gw (words9.getD i Str.empty) = true := by decide +kernel
theorem gw_1 : ∀ i : Nat, i < 26 → gw (letterAt i) = true := by decide +kernel
theorem gw_2 : ∀ i : Nat, i < 26 → ∀ j : Nat, j < 26 → gw (letterAt i ++ letterAt j) = true := by decide +kernel
theorem gw_word (n : Int) : gw (genWord n) = true := by
  unfold genWord
  split
  · exact gw_9 _ (by omega)
  · split
    · exact gw_1 _ (by omega)
    · exact gw_2 _ (by omega) _ (by omega)
theorem gw_ok {w : Str} (h : gw w = true) : okW w ∧ w.length ≤ 5 ∧ w ≠ ("zebra" : Str) := by
  simp only [gw, Bool.and_eq_true, Bool.not_eq_true', decide_eq_true_eq, decide_eq_false_iff_not] at h
  exact ⟨⟨h.1.1.1, by omega⟩, h.1.1.2, h.1.2⟩
/-- what is asked of a pattern -/
def QTk : Tk → Prop
  | .key k => 0 ≤ k ∧ k ≤ 9
  | .word w => gw w = true
  | .other => True
  | .none => True
  | .quiet => False

/-! ### expressions -/
def genEx (d0 d1 d2 d3 : Int) (boxes : List (Str × Int)) : Ex :=
  let one := Ex.num d1
  let other := if boxes = [] then Ex.num d3 else Ex.box (boxes.getD (d2 % boxes.length).toNat (Str.empty, 0)).1
  [one, other, .plus other one, .less other one, .plus (.less one other) other].getD d0.toNat (.num 0)
def genCo (d : List Int) (boxes : List (Str × Int)) : Co :=
  let one := genEx (d.getD 1 0) (d.getD 2 0) (d.getD 3 0) (d.getD 4 0) boxes
  let other := genEx (d.getD 5 0) (d.getD 6 0) (d.getD 7 0) (d.getD 8 0) boxes
  let plain := if d.getD 0 0 % 2 = 1 then Co.under one other else Co.same one other
  [plain, plain, .no plain, .both (.no (.under other (.num 1))) plain].getD (d.getD 0 0).toNat plain
theorem ixOf_lt {bx : List (Str × Int)} {x : Str × Int} (h : x ∈ bx) : ixOf bx x.1 < bx.length := by
  unfold ixOf
  rw [List.findIdx_lt_length]
  exact ⟨x, h, decide_eq_true rfl⟩
theorem getD_mem {α : Type} {xs : List α} {i : Nat} {d : α} (h : i < xs.length) : xs.getD i d ∈ xs := by
  rw [List.getD_eq_getElem?_getD, List.getElem?_eq_getElem h]
  exact List.getElem_mem h
theorem mod_len {α : Type} {xs : List α} (d : Int) (h : xs ≠ []) : (d % xs.length).toNat < xs.length := by
  have h1 : 0 < xs.length := List.length_pos_iff.mpr h
  have h2 := Int.emod_lt_of_pos d (show (0 : Int) < xs.length by omega)
  have h3 := Int.emod_nonneg d (show (xs.length : Int) ≠ 0 by omega)
  omega
theorem genEx_ok {d0 d1 d2 d3 : Int} {boxes : List (Str × Int)} (h1 : 0 ≤ d1 ∧ d1 < 10) (h3 : 0 ≤ d3 ∧ d3 < 10) : okEx boxes (genEx d0 d1 d2 d3 boxes) ∧ dEx (genEx d0 d1 d2 d3 boxes) ≤ 2 := by
  have ho : okEx boxes (if boxes = [] then Ex.num d3 else Ex.box (boxes.getD (d2 % boxes.length).toNat (Str.empty, 0)).1) ∧ dEx (if boxes = [] then Ex.num d3 else Ex.box (boxes.getD (d2 % boxes.length).toNat (Str.empty, 0)).1) = 0 := by
    by_cases e : boxes = []
    · rw [if_pos e]
      exact ⟨⟨by omega, by omega⟩, rfl⟩
    · rw [if_neg e]
      exact ⟨ixOf_lt (getD_mem (mod_len d2 e)), rfl⟩
  have h1' : okEx boxes (.num d1) := ⟨by omega, by omega⟩
  have h0 : okEx boxes (.num 0) := ⟨by omega, by omega⟩
  unfold genEx
  simp only
  generalize (if boxes = [] then Ex.num d3 else Ex.box (boxes.getD (d2 % boxes.length).toNat (Str.empty, 0)).1) = o at ho
  obtain ⟨ho1, ho2⟩ := ho
  match d0.toNat with
  | 0 => exact ⟨h1', Nat.zero_le _⟩
  | 1 => exact ⟨ho1, by show dEx o ≤ 2; omega⟩
  | 2 => exact ⟨⟨ho1, h1'⟩, by show max (dEx o) 0 + 1 ≤ 2; omega⟩
  | 3 => exact ⟨⟨ho1, h1'⟩, by show max (dEx o) 0 + 1 ≤ 2; omega⟩
  | 4 => exact ⟨⟨⟨h1', ho1⟩, ho1⟩, by show max (max 0 (dEx o) + 1) (dEx o) + 1 ≤ 2; omega⟩
  | n + 5 => exact ⟨h0, Nat.zero_le _⟩
theorem genCo_ok {d : List Int} {boxes : List (Str × Int)} (h2 : 0 ≤ d.getD 2 0 ∧ d.getD 2 0 < 10) (h4 : 0 ≤ d.getD 4 0 ∧ d.getD 4 0 < 10) (h6 : 0 ≤ d.getD 6 0 ∧ d.getD 6 0 < 10) (h8 : 0 ≤ d.getD 8 0 ∧ d.getD 8 0 < 10) : okCo boxes (genCo d boxes) ∧ dCo (genCo d boxes) ≤ 3 := by
  have a := genEx_ok (d0 := d.getD 1 0) (d2 := d.getD 3 0) (boxes := boxes) h2 h4
  have b := genEx_ok (d0 := d.getD 5 0) (d2 := d.getD 7 0) (boxes := boxes) h6 h8
  unfold genCo
  simp only
  generalize genEx (d.getD 1 0) (d.getD 2 0) (d.getD 3 0) (d.getD 4 0) boxes = one at a
  generalize genEx (d.getD 5 0) (d.getD 6 0) (d.getD 7 0) (d.getD 8 0) boxes = other at b
  have hp : okCo boxes (if d.getD 0 0 % 2 = 1 then Co.under one other else Co.same one other) ∧ dCo (if d.getD 0 0 % 2 = 1 then Co.under one other else Co.same one other) = 0 := by
    split
    · exact ⟨⟨⟨a.1, by omega⟩, b.1, by omega⟩, rfl⟩
    · exact ⟨⟨⟨a.1, by omega⟩, b.1, by omega⟩, rfl⟩
  generalize (if d.getD 0 0 % 2 = 1 then Co.under one other else Co.same one other) = p at hp
  obtain ⟨hp1, hp2⟩ := hp
  match (d.getD 0 0).toNat with
  | 0 => exact ⟨hp1, by show dCo p ≤ 3; omega⟩
  | 1 => exact ⟨hp1, by show dCo p ≤ 3; omega⟩
  | 2 => exact ⟨hp1, by show dCo p + 1 ≤ 3; omega⟩
  | 3 => exact ⟨⟨⟨⟨b.1, by omega⟩, ⟨by omega, by omega⟩, by show 0 ≤ 3; omega⟩, hp1⟩, by show max (0 + 1) (dCo p) + 1 ≤ 3; omega⟩
  | n + 4 => exact ⟨hp1, by show dCo p ≤ 3; omega⟩

/-! ### entries -/
structure En where
  s : Sm
  g : Bool
  o : Bool
  dp : Nat
def encEn (e : En) : PyData := .tuple [encS false e.s, .bool e.g, .bool e.o, .int e.dp]
abbrev szSimple : List Int := [11, 1352, 10, 5, 10, 2, 10]
def genSimple (cell : Int) (boxes : List (Str × Int)) (calls : List Str) (most : Int) : En :=
  let kind := dr cell szSimple 0
  let number := dr cell szSimple 1
  let line := dr cell szSimple 2
  if kind = 3 ∨ (kind = 4 ∧ boxes = []) ∨ (kind = 7 ∧ calls = []) then ⟨.hand line (genWord number), false, false, 0⟩
  else if kind = 4 ∨ (kind = 10 ∧ boxes ≠ []) then ⟨.put (boxes.getD (number % boxes.length).toNat (Str.empty, 0)).1 (genEx (dr cell szSimple 3) (dr cell szSimple 4) (dr cell szSimple 5) (dr cell szSimple 6) boxes), false, false, 0⟩
  else if kind = 5 then ⟨.again, true, true, 0⟩
  else if kind = 6 then ⟨.leave, false, true, 0⟩
  else if kind = 7 then ⟨.call (calls.getD (number % calls.length).toNat Str.empty), false, false, 0⟩
  else if kind = 8 then ⟨if line % 2 = 0 then .back else .stop, false, false, 0⟩
  else if kind = 9 then ⟨.wait (line % (most + 1)) [], false, false, 1⟩
  else ⟨.say (genWord number), false, false, 0⟩
abbrev szTest : List Int := [4, 5, 10, 2, 10, 5, 10, 2, 10, 4]
def genTest (some : List En) (cell : Int) (boxes : List (Str × Int)) : Sm :=
  let at_ := (dr cell szTest 9 % (some.length + 1)).toNat
  .test (genCo (drawn cell szTest) boxes) ((some.take at_).map En.s) ((some.drop at_).map En.s)
abbrev szWait (most : Int) : List Int := [most + 1, 5, 4, 9, 1352]
def menu0 (limit key number : Int) : List Tk := if limit = 0 then [.key key, .word (genWord number), .other, .key (key + 1)] else [.key key, .word (genWord number), .other, .key (key + 1), .none]
def menuOf (limit start more key number : Int) : List Tk :=
  let m := menu0 limit key number
  let s := (start % m.length).toNat
  (m.drop s ++ m.take s).take (1 + more).toNat
def pick (some : List En) (m k : Nat) : List Sm := ((List.range some.length).filter fun j => decide (j % m = k)).map fun j => ((some[j]?).map En.s).getD .stop
def genWait (some : List En) (cell : Int) (most : Int) : Sm :=
  let menu := menuOf (dr cell (szWait most) 0) (dr cell (szWait most) 1) (dr cell (szWait most) 2) (dr cell (szWait most) 3) (dr cell (szWait most) 4)
  .wait (dr cell (szWait most) 0) ((List.range menu.length).map fun k => (menu.getD k .none, pick some menu.length k))
abbrev szLoop (most : Int) : List Int := [most + 1, 4, 10, 1352, 4, 6]
def heldOf (limit key number leaves form most : Int) : Sm :=
  if form = 3 then .call "held"
  else if form = 2 then .loop [.wait limit [], .leave]
  else if form = 1 then .test (.under (.num key) (.num 5)) [.wait limit []] [.wait most []]
  else .wait limit (if leaves % 2 = 0 then [(.key key, [.leave])] else [(.word (genWord number), [.say "b"])])
def genLoop (some : List En) (cell : Int) (most : Int) : Sm :=
  let first := some.findIdx fun e => e.g
  let at_ := (dr cell (szLoop most) 1 % (first + 1)).toNat
  .loop ((some.map En.s).take at_ ++ heldOf (dr cell (szLoop most) 0) (dr cell (szLoop most) 2) (dr cell (szLoop most) 3) (dr cell (szLoop most) 4) (dr cell (szLoop most) 5) most :: (some.map En.s).drop at_)
def maxDp (some : List En) : Nat := some.foldl (fun m e => max m e.dp) 0
def genEntry (cell : Int) (some : List En) (boxes : List (Str × Int)) (most way : Int) : En :=
  let deep := 2 + maxDp some
  if way = 7 then ⟨genLoop some cell most, false, false, deep⟩
  else if way = 6 then ⟨genWait some cell most, some.any En.g, some.any En.o, deep⟩
  else ⟨genTest some cell boxes, some.any En.g, some.any En.o, deep⟩
abbrev szTalk : List Int := [8, 4]
def pileStep (boxes : List (Str × Int)) (calls : List Str) (most : Int) (pile : List En) (cell : Int) : List En :=
  let way := dr cell szTalk 0
  let n := pile.length - min (dr cell szTalk 1).toNat pile.length
  let rest := cell / 64 * 2 + cell % 2
  if way < 5 ∨ 8 < maxDp (pile.drop n) then pile ++ [genSimple rest boxes calls most] else pile.take n ++ [genEntry rest (pile.drop n) boxes most way]
def pileOf (cells : List Int) (boxes : List (Str × Int)) (calls : List Str) (most : Int) : List En := cells.foldl (pileStep boxes calls most) []
def genTalk (cells : List Int) (boxes : List (Str × Int)) (calls : List Str) (most : Int) : List Sm :=
  let pile := pileOf cells boxes calls most
  if pile.any En.o then [genLoop pile cells.sum most] else pile.map En.s
end CM

namespace CM
open PySem
/-! the drawn scripts are sound -/
section
variable {Γ : Prm}
mutual
theorem ok_up : ∀ s : Sm, okS Γ false s → okS Γ true s
  | .say w, h => h
  | .hand l w, h => h
  | .put b e, h => h
  | .test c a b, h => ⟨h.1, ok_upB a h.2.1, ok_upB b h.2.2⟩
  | .wait l bs, h => ⟨h.1, ok_upR bs h.2⟩
  | .loop b, h => h
  | .again, _ => rfl
  | .leave, _ => rfl
  | .call t, h => h
  | .back, h => h
  | .stop, h => h
theorem ok_upB : ∀ b : List Sm, okB Γ false b → okB Γ true b
  | [], _ => trivial
  | s :: r, h => ⟨ok_up s h.1, ok_upB r h.2⟩
theorem ok_upR : ∀ b : List (Tk × List Sm), okR Γ false b → okR Γ true b
  | [], _ => trivial
  | (p, b) :: r, h => ⟨⟨h.1.1, ok_upB b h.1.2⟩, ok_upR r h.2⟩
end
theorem okB_all {lp : Bool} : ∀ {b : List Sm}, okB Γ lp b ↔ ∀ s ∈ b, okS Γ lp s
  | [] => by simp [okB]
  | s :: r => by simp [okB, okB_all (b := r)]
theorem okR_all {lp : Bool} : ∀ {b : List (Tk × List Sm)}, okR Γ lp b ↔ ∀ x ∈ b, Γ.Q x.1 ∧ okB Γ lp x.2
  | [] => by simp [okR]
  | (p, b) :: r => by simp [okR, okR_all (b := r)]
end
theorem hasAgB_all : ∀ {b : List Sm}, (∀ s ∈ b, hasAg s = false) → hasAgB b = false
  | [], _ => rfl
  | s :: r, h => by simp [hasAgB, h s List.mem_cons_self, hasAgB_all (b := r) fun t ht => h t (List.mem_cons_of_mem _ ht)]
theorem hasAgB_any : ∀ {b : List Sm}, hasAgB b = true → ∃ s ∈ b, hasAg s = true
  | [], h => by cases h
  | s :: r, h => by
    simp only [hasAgB, Bool.or_eq_true] at h
    rcases h with h | h
    · exact ⟨s, List.mem_cons_self, h⟩
    · obtain ⟨t, h1, h2⟩ := hasAgB_any h
      exact ⟨t, List.mem_cons_of_mem _ h1, h2⟩
theorem hasAgR_any : ∀ {b : List (Tk × List Sm)}, hasAgR b = true → ∃ x ∈ b, hasAgB x.2 = true
  | [], h => by cases h
  | (p, b) :: r, h => by
    simp only [hasAgR, Bool.or_eq_true] at h
    rcases h with h | h
    · exact ⟨(p, b), List.mem_cons_self, h⟩
    · obtain ⟨t, h1, h2⟩ := hasAgR_any h
      exact ⟨t, List.mem_cons_of_mem _ h1, h2⟩

/-! ### depths -/
theorem depthAll_le {n : Nat} : ∀ {ds : List PyData}, (∀ d ∈ ds, d.depth ≤ n) → PyData.depthAll ds ≤ n
  | [], _ => by simp [PyData.depthAll]
  | d :: r, h => by
    simp only [PyData.depthAll]
    exact Nat.max_le.mpr ⟨h d List.mem_cons_self, depthAll_le fun e he => h e (List.mem_cons_of_mem _ he)⟩
theorem depth_ex : ∀ e : Ex, (encEx e).depth ≤ dEx e + 1
  | .num n => by simp [encEx, PyData.depth, PyData.depthAll]
  | .box x => by simp [encEx, PyData.depth, PyData.depthAll]
  | .plus a b => by
    have h1 := depth_ex a
    have h2 := depth_ex b
    simp only [encEx, PyData.depth, PyData.depthAll, dEx]
    omega
  | .less a b => by
    have h1 := depth_ex a
    have h2 := depth_ex b
    simp only [encEx, PyData.depth, PyData.depthAll, dEx]
    omega
theorem depth_co {bx : List (Str × Int)} : ∀ c : Co, okCo bx c → (encCo c).depth ≤ dCo c + 5
  | .same a b, h => by
    have h1 := depth_ex a
    have h2 := depth_ex b
    have h3 := h.1.2
    have h4 := h.2.2
    simp only [encCo, PyData.depth, PyData.depthAll, dCo]
    omega
  | .under a b, h => by
    have h1 := depth_ex a
    have h2 := depth_ex b
    have h3 := h.1.2
    have h4 := h.2.2
    simp only [encCo, PyData.depth, PyData.depthAll, dCo]
    omega
  | .no c, h => by
    have h1 := depth_co c h
    simp only [encCo, PyData.depth, PyData.depthAll, dCo]
    omega
  | .both c d, h => by
    have h1 := depth_co c h.1
    have h2 := depth_co d h.2
    simp only [encCo, PyData.depth, PyData.depthAll, dCo]
    omega
theorem depth_tk (t : Tk) : (encTk t).depth = 1 := by cases t <;> simp [encTk, PyData.depth, PyData.depthAll]
def dS (s : Sm) : Nat := (encS false s).depth
theorem depthB {n : Nat} {f : Bool} {b : List Sm} (h : ∀ s ∈ b, (encS f s).depth ≤ n) : PyData.depth (sq f (encB f b)) ≤ n + 1 := by
  have : PyData.depthAll (encB f b) ≤ n := depthAll_le fun d hd => by
    rw [encB_map] at hd
    obtain ⟨s, hs, rfl⟩ := List.mem_map.mp hd
    exact h s hs
  cases f <;> simp only [sq, Bool.false_eq_true, if_false, if_true, PyData.depth] <;> omega
theorem depthR {n : Nat} {f : Bool} {b : List (Tk × List Sm)} (h : ∀ x ∈ b, ∀ s ∈ x.2, (encS f s).depth ≤ n) : PyData.depth (sq f (encBr f b)) ≤ n + 3 := by
  have : PyData.depthAll (encBr f b) ≤ n + 2 := depthAll_le fun d hd => by
    rw [encBr_map] at hd
    obtain ⟨x, hx, rfl⟩ := List.mem_map.mp hd
    have h1 := depthB (h x hx)
    have h2 := depth_tk x.1
    simp only [encBr1, PyData.depth, PyData.depthAll]
    omega
  cases f <;> simp only [sq, Bool.false_eq_true, if_false, if_true, PyData.depth] <;> omega

/-! ### entries -/
structure EnOk (Γ : Prm) (e : En) : Prop where
  ok : okS Γ true e.s
  out : e.o = false → okS Γ false e.s
  ag : hasAg e.s = true → e.g = true
  dp : e.dp ≤ 10
  dd : dS e.s ≤ 8 + 2 * e.dp
section
variable {Γ : Prm}
theorem simple_ok {cell most : Int} {boxes : List (Str × Int)} {calls : List Str} (hb : Γ.boxes = boxes) (hc : ∀ t ∈ calls, t ∈ Γ.names) (hm : 0 ≤ most ∧ most ≤ 8) : EnOk Γ (genSimple cell boxes calls most) := by
  have b1 := dr_lt (cell := cell) (sz := szSimple) 1 rfl (by decide)
  have b2 := dr_lt (cell := cell) (sz := szSimple) 2 rfl (by decide)
  have b4 := dr_lt (cell := cell) (sz := szSimple) 4 rfl (by decide)
  have b6 := dr_lt (cell := cell) (sz := szSimple) 6 rfl (by decide)
  have hw := (gw_ok (gw_word (dr cell szSimple 1))).1
  unfold genSimple
  simp only
  split
  · exact ⟨⟨⟨b2.1, by omega⟩, hw⟩, fun _ => ⟨⟨b2.1, by omega⟩, hw⟩, fun z => by (cases z), by simp, by simp [dS, encS, PyData.depth, PyData.depthAll]⟩
  · rename_i h0
    split
    · rename_i h
      have hne : boxes ≠ [] := by
        rcases h with h | h
        · intro z
          exact h0 (.inr (.inl ⟨h, z⟩))
        · exact h.2
      have ge := genEx_ok (d0 := dr cell szSimple 3) (d2 := dr cell szSimple 5) (boxes := boxes) b4 b6
      have hx : ixOf boxes (boxes.getD (dr cell szSimple 1 % boxes.length).toNat (Str.empty, 0)).1 < boxes.length := ixOf_lt (getD_mem (mod_len _ hne))
      have dx := depth_ex (genEx (dr cell szSimple 3) (dr cell szSimple 4) (dr cell szSimple 5) (dr cell szSimple 6) boxes)
      subst hb
      refine ⟨⟨hx, ge.1, by omega⟩, fun _ => ⟨hx, ge.1, by omega⟩, fun z => by (cases z), by simp, ?_⟩
      have := ge.2
      simp only [dS, encS, PyData.depth, PyData.depthAll]
      omega
    · split
      · exact ⟨rfl, fun z => by (cases z), fun _ => rfl, by simp, by simp [dS, encS, PyData.depth, PyData.depthAll]⟩
      · split
        · exact ⟨rfl, fun z => by (cases z), fun z => by (cases z), by simp, by simp [dS, encS, PyData.depth, PyData.depthAll]⟩
        · split
          · rename_i h7
            have hne : calls ≠ [] := fun z => h0 (.inr (.inr ⟨h7, z⟩))
            have ht := hc _ (getD_mem (xs := calls) (d := Str.empty) (mod_len (dr cell szSimple 1) hne))
            exact ⟨ht, fun _ => ht, fun z => by (cases z), by simp, by simp [dS, encS, PyData.depth, PyData.depthAll]⟩
          · split
            · split
              · exact ⟨trivial, fun _ => trivial, fun z => by (cases z), by simp, by simp [dS, encS, PyData.depth, PyData.depthAll]⟩
              · exact ⟨trivial, fun _ => trivial, fun z => by (cases z), by simp, by simp [dS, encS, PyData.depth, PyData.depthAll]⟩
            · split
              · have m1 := Int.emod_nonneg (dr cell szSimple 2) (show most + 1 ≠ 0 by omega)
                have m2 := Int.emod_lt_of_pos (dr cell szSimple 2) (show 0 < most + 1 by omega)
                exact ⟨⟨⟨m1, by omega⟩, trivial⟩, fun _ => ⟨⟨m1, by omega⟩, trivial⟩, fun z => by (cases z), by simp, by simp [dS, encS, encBr, sq, PyData.depth, PyData.depthAll]⟩
              · exact ⟨hw, fun _ => hw, fun z => by (cases z), by simp, by simp [dS, encS, PyData.depth, PyData.depthAll]⟩
theorem maxDp_le : ∀ (l : List En) (m0 : Nat), m0 ≤ l.foldl (fun m e => max m e.dp) m0 ∧ ∀ e ∈ l, e.dp ≤ l.foldl (fun m e => max m e.dp) m0
  | [], m0 => ⟨Nat.le_refl _, fun e he => by cases he⟩
  | x :: l, m0 => by
    obtain ⟨h1, h2⟩ := maxDp_le l (max m0 x.dp)
    refine ⟨Nat.le_trans (Nat.le_max_left _ _) h1, fun e he => ?_⟩
    rcases List.mem_cons.mp he with rfl | he
    · exact Nat.le_trans (Nat.le_max_right _ _) h1
    · exact h2 e he
theorem dp_le {l : List En} {e : En} (h : e ∈ l) : e.dp ≤ maxDp l := (maxDp_le l 0).2 e h
theorem held_ok {limit key number leaves form most : Int} (hl : 0 ≤ limit ∧ limit ≤ 8) (hm : 0 ≤ most ∧ most ≤ 8) (hk : 0 ≤ key ∧ key < 10) (hn : ("held" : Str) ∈ Γ.names) (hQ : ∀ t, QTk t → Γ.Q t) :
    okS Γ true (heldOf limit key number leaves form most) ∧ holder (heldOf limit key number leaves form most) ∧ dS (heldOf limit key number leaves form most) ≤ 6 ∧ wS Γ.wt (heldOf limit key number leaves form most) ≤ max 8 (2 + Γ.wt "held") := by
  have hw := gw_word number
  unfold heldOf
  split
  · exact ⟨hn, .inr (.inr (.inr rfl)), by simp [dS, encS, PyData.depth, PyData.depthAll], Nat.le_max_right _ _⟩
  · split
    · refine ⟨⟨⟨[], .wait limit [], [.leave], rfl, rfl, .inl ⟨_, _, rfl⟩⟩, ⟨⟨hl.1, by omega⟩, trivial⟩, rfl, trivial⟩, .inr (.inr (.inl ⟨_, rfl⟩)), ?_, ?_⟩
      · simp [dS, encS, encB, encBr, sq, PyData.depth, PyData.depthAll]
      · simp [wS, wB, wR]
        omega
    · split
      · refine ⟨⟨⟨⟨⟨⟨hk.1, by omega⟩, by simp [dEx]⟩, ⟨by omega, by omega⟩, by simp [dEx]⟩, by simp [dCo]⟩, ⟨⟨⟨hl.1, by omega⟩, trivial⟩, trivial⟩, ⟨⟨⟨hm.1, by omega⟩, trivial⟩, trivial⟩⟩, .inr (.inl ⟨_, _, _, rfl⟩), ?_, ?_⟩
        · simp [dS, encS, encB, encBr, encCo, encEx, sq, PyData.depth, PyData.depthAll]
        · simp [wS, wB, wR]
          omega
      · split
        · refine ⟨⟨⟨hl.1, by omega⟩, ⟨hQ _ ⟨hk.1, by omega⟩, rfl, trivial⟩, trivial⟩, .inl ⟨_, _, rfl⟩, ?_, ?_⟩
          · simp [dS, encS, encB, encBr, encTk, sq, PyData.depth, PyData.depthAll]
          · simp [wS, wB, wR]
            omega
        · refine ⟨⟨⟨hl.1, by omega⟩, ⟨hQ _ hw, ⟨by decide +kernel, by decide +kernel⟩, trivial⟩, trivial⟩, .inl ⟨_, _, rfl⟩, ?_, ?_⟩
          · simp [dS, encS, encB, encBr, encTk, sq, PyData.depth, PyData.depthAll]
          · simp [wS, wB, wR]
            omega
/-- the sum of the entries' weights -/
def wP (wt : Str → Nat) (l : List En) : Nat := (l.map fun e => wS wt e.s).sum
theorem wB_pile {wt : Str → Nat} : ∀ l : List En, wB wt (l.map En.s) = wP wt l + 1
  | [] => rfl
  | e :: l => by
    simp only [List.map_cons, wB, wB_pile l, wP, List.sum_cons]
    omega
theorem wP_app {wt : Str → Nat} {a b : List En} : wP wt (a ++ b) = wP wt a + wP wt b := by simp [wP]
theorem findIdx_min {l : List En} {i : Nat} (h : i < l.findIdx fun e => e.g) (hi : i < l.length) : (l[i]'hi).g = false := by
  have := List.not_of_lt_findIdx h
  simpa using this
theorem loop_ok {some : List En} {cell most : Int} (he : ∀ e ∈ some, EnOk Γ e) (hm : 0 ≤ most ∧ most ≤ 8) (hn : ("held" : Str) ∈ Γ.names) (hQ : ∀ t, QTk t → Γ.Q t) (lp : Bool) {n : Nat} (hd : ∀ e ∈ some, dS e.s ≤ n) :
    okS Γ lp (genLoop some cell most) ∧ dS (genLoop some cell most) ≤ max n 6 + 2 ∧ wS Γ.wt (genLoop some cell most) ≤ wP Γ.wt some + 3 + max 8 (2 + Γ.wt "held") := by
  have b0 := dr_lt (cell := cell) (sz := szLoop most) (s := most + 1) 0 rfl (by omega)
  have b2 := dr_lt (cell := cell) (sz := szLoop most) 2 rfl (by decide)
  obtain ⟨h1, h2, h3, h4⟩ := held_ok (Γ := Γ) (limit := dr cell (szLoop most) 0) (number := dr cell (szLoop most) 3) (leaves := dr cell (szLoop most) 4) (form := dr cell (szLoop most) 5) (most := most) ⟨b0.1, by omega⟩ hm b2 hn hQ
  unfold genLoop
  simp only
  generalize heldOf (dr cell (szLoop most) 0) (dr cell (szLoop most) 2) (dr cell (szLoop most) 3) (dr cell (szLoop most) 4) (dr cell (szLoop most) 5) most = held at h1 h2 h3 h4
  have ha : (dr cell (szLoop most) 1 % ((some.findIdx fun e => e.g) + 1)).toNat ≤ some.findIdx fun e => e.g := by
    have m1 := Int.emod_nonneg (dr cell (szLoop most) 1) (show (((some.findIdx fun e => e.g) : Nat) : Int) + 1 ≠ 0 by omega)
    have m2 := Int.emod_lt_of_pos (dr cell (szLoop most) 1) (show (0 : Int) < (((some.findIdx fun e => e.g) : Nat) : Int) + 1 by omega)
    omega
  generalize (dr cell (szLoop most) 1 % ((some.findIdx fun e => e.g) + 1)).toNat = at_ at ha
  have mem : ∀ s ∈ some.map En.s, okS Γ true s ∧ dS s ≤ n := fun s hs => by
    obtain ⟨e, h, rfl⟩ := List.mem_map.mp hs
    exact ⟨(he e h).ok, hd e h⟩
  refine ⟨⟨⟨(some.map En.s).take at_, held, (some.map En.s).drop at_, rfl, hasAgB_all fun s hs => ?_, h2⟩, ?_⟩, ?_, ?_⟩
  · rw [← List.map_take] at hs
    obtain ⟨e, h, rfl⟩ := List.mem_map.mp hs
    obtain ⟨i, hi, rfl⟩ := List.getElem_of_mem h
    rw [List.length_take] at hi
    rw [List.getElem_take]
    have hg := findIdx_min (l := some) (i := i) (by omega) (by omega)
    have := (he _ (List.getElem_mem (show i < some.length by omega))).ag
    cases q : hasAg (some[i]'(by omega)).s with
    | false => rfl
    | true =>
      rw [this q] at hg
      cases hg
  · rw [okB_app]
    refine ⟨okB_all.mpr fun s hs => (mem s (List.mem_of_mem_take hs)).1, h1, okB_all.mpr fun s hs => (mem s (List.mem_of_mem_drop hs)).1⟩
  · have := depthB (f := false) (n := max n 6) (b := (some.map En.s).take at_ ++ held :: (some.map En.s).drop at_) fun s hs => by
      rcases List.mem_append.mp hs with z | z
      · exact Nat.le_trans (mem s (List.mem_of_mem_take z)).2 (Nat.le_max_left _ _)
      · rcases List.mem_cons.mp z with rfl | z
        · exact Nat.le_trans h3 (Nat.le_max_right _ _)
        · exact Nat.le_trans (mem s (List.mem_of_mem_drop z)).2 (Nat.le_max_left _ _)
    simp only [dS, encS, PyData.depth, PyData.depthAll]
    omega
  · have a1 := wB_app (wt := Γ.wt) (a := (some.map En.s).take at_) (b := held :: (some.map En.s).drop at_)
    have a2 := wB_app (wt := Γ.wt) (a := (some.map En.s).take at_) (b := (some.map En.s).drop at_)
    rw [List.take_append_drop, wB_pile] at a2
    simp only [wB] at a1
    simp only [wS]
    omega
theorem test_ok {some : List En} {cell : Int} {boxes : List (Str × Int)} (hb : Γ.boxes = boxes) (he : ∀ e ∈ some, EnOk Γ e) {n : Nat} (hd : ∀ e ∈ some, dS e.s ≤ n) :
    okS Γ true (genTest some cell boxes) ∧ ((some.any En.o) = false → okS Γ false (genTest some cell boxes)) ∧ (hasAg (genTest some cell boxes) = true → some.any En.g = true) ∧ dS (genTest some cell boxes) ≤ max (n + 2) 9 ∧ wS Γ.wt (genTest some cell boxes) ≤ wP Γ.wt some + 4 := by
  have gd : ∀ i, (drawn cell szTest).getD i 0 = dr cell szTest i := fun _ => rfl
  have b2 := dr_lt (cell := cell) (sz := szTest) 2 rfl (by decide)
  have b4 := dr_lt (cell := cell) (sz := szTest) 4 rfl (by decide)
  have b6 := dr_lt (cell := cell) (sz := szTest) 6 rfl (by decide)
  have b8 := dr_lt (cell := cell) (sz := szTest) 8 rfl (by decide)
  have hc := genCo_ok (d := drawn cell szTest) (boxes := boxes) b2 b4 b6 b8
  unfold genTest
  simp only
  generalize (dr cell szTest 9 % (some.length + 1)).toNat = at_
  have part : ∀ s, (s ∈ (some.take at_).map En.s ∨ s ∈ (some.drop at_).map En.s) → ∃ e ∈ some, e.s = s := fun s hs => by
    rcases hs with hs | hs
    · obtain ⟨e, h, q⟩ := List.mem_map.mp hs
      exact ⟨e, List.mem_of_mem_take h, q⟩
    · obtain ⟨e, h, q⟩ := List.mem_map.mp hs
      exact ⟨e, List.mem_of_mem_drop h, q⟩
  subst hb
  refine ⟨⟨hc, okB_all.mpr fun s hs => ?_, okB_all.mpr fun s hs => ?_⟩, fun ho => ⟨hc, okB_all.mpr fun s hs => ?_, okB_all.mpr fun s hs => ?_⟩, fun h => ?_, ?_, ?_⟩
  · obtain ⟨e, h, rfl⟩ := part s (.inl hs)
    exact (he e h).ok
  · obtain ⟨e, h, rfl⟩ := part s (.inr hs)
    exact (he e h).ok
  · obtain ⟨e, h, rfl⟩ := part s (.inl hs)
    exact (he e h).out (by simpa using List.any_eq_false.mp ho e h)
  · obtain ⟨e, h, rfl⟩ := part s (.inr hs)
    exact (he e h).out (by simpa using List.any_eq_false.mp ho e h)
  · simp only [hasAg, Bool.or_eq_true] at h
    have : ∃ s, (s ∈ (some.take at_).map En.s ∨ s ∈ (some.drop at_).map En.s) ∧ hasAg s = true := by
      rcases h with h | h
      · obtain ⟨s, h1, h2⟩ := hasAgB_any h
        exact ⟨s, .inl h1, h2⟩
      · obtain ⟨s, h1, h2⟩ := hasAgB_any h
        exact ⟨s, .inr h1, h2⟩
    obtain ⟨s, h1, h2⟩ := this
    obtain ⟨e, h, rfl⟩ := part s h1
    exact List.any_eq_true.mpr ⟨e, h, (he e h).ag h2⟩
  · have d1 := depth_co _ hc.1
    have d2 := hc.2
    have d3 := depthB (f := false) (n := n) (b := (some.take at_).map En.s) fun s hs => by
      obtain ⟨e, h, rfl⟩ := part s (.inl hs)
      exact hd e h
    have d4 := depthB (f := false) (n := n) (b := (some.drop at_).map En.s) fun s hs => by
      obtain ⟨e, h, rfl⟩ := part s (.inr hs)
      exact hd e h
    simp only [dS, encS, PyData.depth, PyData.depthAll]
    omega
  · have a := wP_app (wt := Γ.wt) (a := some.take at_) (b := some.drop at_)
    rw [List.take_append_drop] at a
    simp only [wS, wB_pile]
    omega
/-- each one falls into one part -/
theorem part_sum (w : Nat → Nat) {m : Nat} (hm : 0 < m) : ∀ L : List Nat, ((List.range m).map fun k => ((L.filter fun j => decide (j % m = k)).map w).sum).sum = (L.map w).sum
  | [] => by
    have z : ∀ l : List Nat, (l.map fun _ => 0).sum = 0 := fun l => by
      induction l with
      | nil => rfl
      | cons x l ih => simpa using ih
    simpa using z (List.range m)
  | j :: L => by
    have ih := part_sum w hm L
    have one : ∀ n : Nat, ((List.range n).map fun k => if j % m = k then w j else 0).sum = if j % m < n then w j else 0 := by
      intro n
      induction n with
      | zero => simp
      | succ n ihn =>
        rw [List.range_succ, List.map_append, List.sum_append, ihn]
        by_cases h1 : j % m < n
        · have : ¬ j % m = n := by omega
          simp [h1, this, show j % m < n + 1 by omega]
        · by_cases h2 : j % m = n
          · simp [h2]
          · simp [h1, h2, show ¬ j % m < n + 1 by omega]
    have e : ((List.range m).map fun k => (((j :: L).filter fun j => decide (j % m = k)).map w).sum) = (List.range m).map fun k => (if j % m = k then w j else 0) + ((L.filter fun j => decide (j % m = k)).map w).sum := by
      refine List.map_congr_left fun k _ => ?_
      by_cases h : j % m = k
      · simp [h]
      · simp [h]
    have add : ∀ (l : List Nat) (f g : Nat → Nat), (l.map fun k => f k + g k).sum = (l.map f).sum + (l.map g).sum := by
      intro l f g
      induction l with
      | nil => rfl
      | cons x l ih => simp only [List.map_cons, List.sum_cons, ih]; omega
    rw [e, add, ih, one m, if_pos (Nat.mod_lt _ hm)]
    simp
theorem menu0_ok {limit key number : Int} (hk : 0 ≤ key ∧ key < 9) : (∀ t ∈ menu0 limit key number, QTk t) ∧ 0 < (menu0 limit key number).length ∧ (menu0 limit key number).length ≤ 5 := by
  unfold menu0
  split
  · refine ⟨fun t ht => ?_, by simp, by simp⟩
    simp only [List.mem_cons, List.mem_singleton, List.not_mem_nil, or_false] at ht
    rcases ht with rfl | rfl | rfl | rfl
    · exact ⟨hk.1, by omega⟩
    · exact gw_word _
    · trivial
    · exact ⟨by omega, by omega⟩
  · refine ⟨fun t ht => ?_, by simp, by simp⟩
    simp only [List.mem_cons, List.mem_singleton, List.not_mem_nil, or_false] at ht
    rcases ht with rfl | rfl | rfl | rfl | rfl
    · exact ⟨hk.1, by omega⟩
    · exact gw_word _
    · trivial
    · exact ⟨by omega, by omega⟩
    · trivial
theorem menu_ok {limit start more key number : Int} (hk : 0 ≤ key ∧ key < 9) (hm : 0 ≤ more ∧ more < 4) : (∀ t ∈ menuOf limit start more key number, QTk t) ∧ 0 < (menuOf limit start more key number).length ∧ (menuOf limit start more key number).length ≤ 4 := by
  obtain ⟨h1, h2, h3⟩ := menu0_ok (limit := limit) (number := number) hk
  unfold menuOf
  simp only
  generalize menu0 limit key number = m at h1 h2 h3
  generalize hs : (start % m.length).toNat = s
  have hs' : s < m.length := by
    rw [← hs]
    exact mod_len start (List.length_pos_iff.mp h2)
  refine ⟨fun t ht => ?_, ?_, ?_⟩
  · rcases List.mem_append.mp (List.mem_of_mem_take ht) with z | z
    · exact h1 t (List.mem_of_mem_drop z)
    · exact h1 t (List.mem_of_mem_take z)
  · rw [List.length_take, List.length_append, List.length_drop, List.length_take]
    omega
  · rw [List.length_take]
    omega
theorem pick_mem {some : List En} {m k : Nat} {s : Sm} (h : s ∈ pick some m k) : ∃ e ∈ some, e.s = s := by
  unfold pick at h
  obtain ⟨j, h1, rfl⟩ := List.mem_map.mp h
  have hj : j < some.length := by simpa using (List.mem_filter.mp h1).1
  refine ⟨some[j], List.getElem_mem hj, ?_⟩
  rw [List.getElem?_eq_getElem hj]
  rfl
theorem pick_w {wt : Str → Nat} {some : List En} {m k : Nat} : wB wt (pick some m k) = (((List.range some.length).filter fun j => decide (j % m = k)).map fun j => wS wt (((some[j]?).map En.s).getD .stop)).sum + 1 := by
  unfold pick
  generalize (List.range some.length).filter (fun j => decide (j % m = k)) = L
  induction L with
  | nil => rfl
  | cons j L ih =>
    simp only [List.map_cons, wB, ih, List.sum_cons]
    omega
theorem wait_ok {some : List En} {cell most : Int} (he : ∀ e ∈ some, EnOk Γ e) (hm : 0 ≤ most ∧ most ≤ 8) (hQ : ∀ t, QTk t → Γ.Q t) {n : Nat} (hd : ∀ e ∈ some, dS e.s ≤ n) :
    okS Γ true (genWait some cell most) ∧ ((some.any En.o) = false → okS Γ false (genWait some cell most)) ∧ (hasAg (genWait some cell most) = true → some.any En.g = true) ∧ dS (genWait some cell most) ≤ n + 4 ∧ wS Γ.wt (genWait some cell most) ≤ wP Γ.wt some + 6 := by
  have b0 := dr_lt (cell := cell) (sz := szWait most) (s := most + 1) 0 rfl (by omega)
  have b2 := dr_lt (cell := cell) (sz := szWait most) 2 rfl (by decide)
  have b3 := dr_lt (cell := cell) (sz := szWait most) 3 rfl (by decide)
  unfold genWait
  simp only
  obtain ⟨h1, h2, h3⟩ := menu_ok (limit := dr cell (szWait most) 0) (start := dr cell (szWait most) 1) (number := dr cell (szWait most) 4) b3 b2
  generalize menuOf (dr cell (szWait most) 0) (dr cell (szWait most) 1) (dr cell (szWait most) 2) (dr cell (szWait most) 3) (dr cell (szWait most) 4) = menu at h1 h2 h3
  have bm : ∀ x ∈ ((List.range menu.length).map fun k => (menu.getD k Tk.none, pick some menu.length k)), Γ.Q x.1 ∧ ∀ s ∈ x.2, ∃ e ∈ some, e.s = s := fun x hx => by
    obtain ⟨k, hk, rfl⟩ := List.mem_map.mp hx
    exact ⟨hQ _ (h1 _ (getD_mem (by simpa using hk))), fun s hs => pick_mem hs⟩
  refine ⟨⟨⟨b0.1, by omega⟩, okR_all.mpr fun x hx => ⟨(bm x hx).1, okB_all.mpr fun s hs => ?_⟩⟩, fun ho => ⟨⟨b0.1, by omega⟩, okR_all.mpr fun x hx => ⟨(bm x hx).1, okB_all.mpr fun s hs => ?_⟩⟩, fun h => ?_, ?_, ?_⟩
  · obtain ⟨e, h, rfl⟩ := (bm x hx).2 s hs
    exact (he e h).ok
  · obtain ⟨e, h, rfl⟩ := (bm x hx).2 s hs
    exact (he e h).out (by simpa using List.any_eq_false.mp ho e h)
  · obtain ⟨x, hx, hb⟩ := hasAgR_any (show hasAgR _ = true from h)
    obtain ⟨s, hs, ha⟩ := hasAgB_any hb
    obtain ⟨e, h, rfl⟩ := (bm x hx).2 s hs
    exact List.any_eq_true.mpr ⟨e, h, (he e h).ag ha⟩
  · have d1 := depthR (f := false) (n := n) (b := ((List.range menu.length).map fun k => (menu.getD k Tk.none, pick some menu.length k))) fun x hx s hs => by
      obtain ⟨e, h, rfl⟩ := (bm x hx).2 s hs
      exact hd e h
    simp only [dS, encS, PyData.depth, PyData.depthAll]
    omega
  · have r1 : ∀ L : List Nat, wR Γ.wt (L.map fun k => (menu.getD k Tk.none, pick some menu.length k)) = (L.map fun k => (((List.range some.length).filter fun j => decide (j % menu.length = k)).map fun j => wS Γ.wt (((some[j]?).map En.s).getD .stop)).sum).sum + L.length := by
      intro L
      induction L with
      | nil => rfl
      | cons k L ih =>
        simp only [List.map_cons, wR, ih, List.sum_cons, pick_w, List.length_cons]
        omega
    have r2 := part_sum (fun j => wS Γ.wt (((some[j]?).map En.s).getD .stop)) h2 (List.range some.length)
    have r3 : ((List.range some.length).map fun j => wS Γ.wt (((some[j]?).map En.s).getD .stop)).sum = wP Γ.wt some := by
      unfold wP
      congr 1
      refine List.ext_getElem (by simp) fun i h1 h2 => ?_
      simp only [List.length_map, List.length_range] at h1
      simp [List.getElem?_eq_getElem h1]
    simp only [wS, r1, r2, r3, List.length_range]
    omega
/-- an entry that joins others -/
theorem entry_ok {some : List En} {cell most way : Int} {boxes : List (Str × Int)} (hb : Γ.boxes = boxes) (he : ∀ e ∈ some, EnOk Γ e) (hm : 0 ≤ most ∧ most ≤ 8) (hn : ("held" : Str) ∈ Γ.names) (hQ : ∀ t, QTk t → Γ.Q t) (hmax : maxDp some ≤ 8) :
    EnOk Γ (genEntry cell some boxes most way) ∧ wS Γ.wt (genEntry cell some boxes most way).s ≤ wP Γ.wt some + 3 + max 8 (2 + Γ.wt "held") := by
  have hd : ∀ e ∈ some, dS e.s ≤ 8 + 2 * maxDp some := fun e h => by
    have h1 := (he e h).dd
    have h2 := dp_le h
    omega
  unfold genEntry
  simp only
  split
  · obtain ⟨h1, h2, h3⟩ := loop_ok (cell := cell) he hm hn hQ true hd
    obtain ⟨h4, _⟩ := loop_ok (cell := cell) he hm hn hQ false hd
    refine ⟨⟨h1, fun _ => h4, fun z => ?_, by show 2 + maxDp some ≤ 10; omega, by show dS (genLoop some cell most) ≤ 8 + 2 * (2 + maxDp some); omega⟩, h3⟩
    unfold genLoop at z
    cases z
  · split
    · obtain ⟨h1, h2, h3, h4, h5⟩ := wait_ok (cell := cell) he hm hQ hd
      exact ⟨⟨h1, h2, h3, by show 2 + maxDp some ≤ 10; omega, by show dS (genWait some cell most) ≤ 8 + 2 * (2 + maxDp some); omega⟩, by show wS Γ.wt (genWait some cell most) ≤ _; omega⟩
    · obtain ⟨h1, h2, h3, h4, h5⟩ := test_ok (cell := cell) hb he hd
      exact ⟨⟨h1, h2, h3, by show 2 + maxDp some ≤ 10; omega, by show dS (genTest some cell boxes) ≤ 8 + 2 * (2 + maxDp some); omega⟩, by show wS Γ.wt (genTest some cell boxes) ≤ _; omega⟩
theorem simple_w {cell most : Int} {boxes : List (Str × Int)} {calls : List Str} {wt : Str → Nat} {C : Nat} (hc : ∀ t ∈ calls, wt t ≤ C) : wS wt (genSimple cell boxes calls most).s ≤ 2 + C := by
  unfold genSimple
  simp only
  split
  · exact Nat.le_add_right _ _
  · rename_i h0
    split
    · exact Nat.le_add_right _ _
    · split
      · exact Nat.le_add_right _ _
      · split
        · exact Nat.le_add_right _ _
        · split
          · rename_i h7
            have hne : calls ≠ [] := fun z => h0 (.inr (.inr ⟨h7, z⟩))
            have ht := hc _ (getD_mem (xs := calls) (d := Str.empty) (mod_len (dr cell szSimple 1) hne))
            show 2 + _ ≤ 2 + C
            omega
          · split
            · split <;> exact Nat.le_add_right _ _
            · split
              · exact Nat.le_add_right _ _
              · exact Nat.le_add_right _ _
/-- the pile -/
theorem pile_ok {boxes : List (Str × Int)} {calls : List Str} {most : Int} {C : Nat} (hb : Γ.boxes = boxes) (hc : ∀ t ∈ calls, t ∈ Γ.names) (hw : ∀ t ∈ calls, Γ.wt t ≤ C) (hh : Γ.wt "held" ≤ 3) (hm : 0 ≤ most ∧ most ≤ 8) (hn : ("held" : Str) ∈ Γ.names) (hQ : ∀ t, QTk t → Γ.Q t) :
    ∀ (cells : List Int) (pile : List En) (n : Nat), (∀ e ∈ pile, EnOk Γ e) → wP Γ.wt pile ≤ n * (C + 11) → pile.length ≤ n →
      (∀ e ∈ cells.foldl (pileStep boxes calls most) pile, EnOk Γ e) ∧ wP Γ.wt (cells.foldl (pileStep boxes calls most) pile) ≤ (n + cells.length) * (C + 11) ∧ (cells.foldl (pileStep boxes calls most) pile).length ≤ n + cells.length
  | [], pile, n, h1, h2, h3 => ⟨h1, h2, h3⟩
  | cell :: cells, pile, n, h1, h2, h3 => by
    have step : (∀ e ∈ pileStep boxes calls most pile cell, EnOk Γ e) ∧ wP Γ.wt (pileStep boxes calls most pile cell) ≤ (n + 1) * (C + 11) ∧ (pileStep boxes calls most pile cell).length ≤ n + 1 := by
      unfold pileStep
      simp only
      generalize pile.length - min (dr cell szTalk 1).toNat pile.length = k
      have en : (n + 1) * (C + 11) = n * (C + 11) + (C + 11) := by rw [Nat.succ_mul]
      split
      · refine ⟨fun e he => ?_, ?_, by simp; omega⟩
        · rcases List.mem_append.mp he with z | z
          · exact h1 e z
          · rw [List.mem_singleton] at z
            subst z
            exact simple_ok hb hc hm
        · rw [wP_app, en]
          have := simple_w (cell := cell / 64 * 2 + cell % 2) (most := most) (boxes := boxes) (calls := calls) (wt := Γ.wt) hw
          simp only [wP, List.map_cons, List.map_nil, List.sum_cons, List.sum_nil] at this h2 ⊢
          omega
      · rename_i h
        have hmx : maxDp (pile.drop k) ≤ 8 := by omega
        obtain ⟨q1, q2⟩ := entry_ok (cell := cell / 64 * 2 + cell % 2) (way := dr cell szTalk 0) hb (fun e he => h1 e (List.mem_of_mem_drop he)) hm hn hQ hmx
        refine ⟨fun e he => ?_, ?_, ?_⟩
        · rcases List.mem_append.mp he with z | z
          · exact h1 e (List.mem_of_mem_take z)
          · rw [List.mem_singleton] at z
            subst z
            exact q1
        · have a := wP_app (wt := Γ.wt) (a := pile.take k) (b := pile.drop k)
          rw [List.take_append_drop] at a
          rw [wP_app, en]
          simp only [wP, List.map_cons, List.map_nil, List.sum_cons, List.sum_nil] at q2 a h2 ⊢
          omega
        · rw [List.length_append, List.length_take, List.length_singleton]
          omega
    have r := pile_ok hb hc hw hh hm hn hQ cells (pileStep boxes calls most pile cell) (n + 1) step.1 step.2.1 step.2.2
    have e : n + 1 + cells.length = n + (cell :: cells).length := by simp; omega
    rw [e] at r
    exact r
theorem talk_ok {boxes : List (Str × Int)} {calls : List Str} {most : Int} {C : Nat} (hb : Γ.boxes = boxes) (hc : ∀ t ∈ calls, t ∈ Γ.names) (hw : ∀ t ∈ calls, Γ.wt t ≤ C) (hh : Γ.wt "held" ≤ 3) (hm : 0 ≤ most ∧ most ≤ 8) (hn : ("held" : Str) ∈ Γ.names) (hQ : ∀ t, QTk t → Γ.Q t) (cells : List Int) (hl : cells.length ≤ 5) :
    okB Γ false (genTalk cells boxes calls most) ∧ wB Γ.wt (genTalk cells boxes calls most) ≤ 5 * (C + 11) + 12 ∧ ∀ s ∈ genTalk cells boxes calls most, dS s ≤ 30 := by
  obtain ⟨h1, h2, h3⟩ := pile_ok hb hc hw hh hm hn hQ cells [] 0 (fun e he => by cases he) (by simp [wP]) (Nat.le_refl _)
  have w5 : wP Γ.wt (pileOf cells boxes calls most) ≤ 5 * (C + 11) := Nat.le_trans h2 (Nat.mul_le_mul_right _ (by omega))
  have hd : ∀ e ∈ pileOf cells boxes calls most, dS e.s ≤ 28 := fun e he => by
    have := (h1 e he).dd
    have := (h1 e he).dp
    omega
  unfold genTalk
  simp only
  split
  · obtain ⟨a1, a2, a3⟩ := loop_ok (some := pileOf cells boxes calls most) (cell := cells.sum) h1 hm hn hQ false hd
    refine ⟨⟨a1, trivial⟩, ?_, fun s hs => ?_⟩
    · simp only [wB]
      omega
    · rw [List.mem_singleton] at hs
      subst hs
      omega
  · rename_i ho
    have ho' : (pileOf cells boxes calls most).any En.o = false := by simpa using ho
    refine ⟨okB_all.mpr fun s hs => ?_, ?_, fun s hs => ?_⟩
    · obtain ⟨e, h, rfl⟩ := List.mem_map.mp hs
      exact (h1 e h).out (by simpa using List.any_eq_false.mp ho' e h)
    · rw [wB_pile]
      omega
    · obtain ⟨e, h, rfl⟩ := List.mem_map.mp hs
      have := hd e h
      omega
end
end CM

namespace CM
open PySem
def cellAt (script : List Int) (k : Nat) : Int := script.getD k 0
def boxesT : List (List (Str × Int)) := [[], [("wait", 2)], [("box", 3)], [("if", 4)], [("put", 2), ("say", 2)], [("boxc", 2), ("boxa", 2), ("boxb", 2)]]
def mostT : List Int := [8, 4, 2, 2, 2, 1]
def menuT : List (List Str) := [["main", "sub", "call"], ["wait", "test", "loop"], ["help", "helpa", "helpab"], ["put", "back", "main"]]
def countT : List Nat := [5, 5, 4]
abbrev szScript : List Int := [6, 3, 4, 2]
def namesOf (script : List Int) : List Str := (menuT.getD (dr (cellAt script 0) szScript 2).toNat []).take (1 + dr (cellAt script 0) szScript 1).toNat
def boxesOf (script : List Int) : List (Str × Int) := boxesT.getD (dr (cellAt script 0) szScript 0).toNat []
def mostOf (script : List Int) : Int := mostT.getD (dr (cellAt script 0) szScript 0).toNat 0
def cellsOf (script : List Int) (k : Nat) : List Int := (List.range (countT.getD k 0)).map fun j => cellAt script (1 + 6 * k + j)
def talkOf (script : List Int) (k : Nat) : Str × List Sm := ((namesOf script).getD k Str.empty, genTalk (cellsOf script k) (boxesOf script) ((namesOf script).drop (k + 1)) (mostOf script))
def talksOf (script : List Int) : List (Str × List Sm) := (List.range (namesOf script).length).map (talkOf script) ++ [(("held" : Str), [Sm.wait (mostOf script) []])]
def genScript (script : List Int) : Sc := ⟨boxesOf script, if dr (cellAt script 0) szScript 3 = 1 then (talksOf script).take 1 ++ ((talksOf script).drop 1).reverse else talksOf script⟩
def wtT : List Nat := [2077, 402, 67]
def wtOf (names : List Str) (t : Str) : Nat := if t = "held" then 3 else wtT.getD (names.findIdx fun n => decide (n = t)) 3
def okWb (w : Str) : Bool := PyData.canLay0 (.str w) && decide (w.length ≤ 20)
theorem okWb_ok {w : Str} (h : okWb w = true) : okW w := by
  simp only [okWb, Bool.and_eq_true, decide_eq_true_eq] at h
  exact h
def nodupB : List Str → Bool
  | [] => true
  | x :: r => !r.any (fun y => decide (y = x)) && nodupB r
theorem nodupB_ok : ∀ {l : List Str}, nodupB l = true → l.Nodup
  | [], _ => List.nodup_nil
  | x :: r, h => by
    simp only [nodupB, Bool.and_eq_true, Bool.not_eq_true'] at h
    refine List.nodup_cons.mpr ⟨fun hm => ?_, nodupB_ok h.2⟩
    have := List.any_eq_false.mp h.1 x hm
    simp at this
def namesB (l : List Str) : Bool := nodupB l && l.all (fun n => okWb n && !decide (n = ("held" : Str))) && decide (l.length ≤ 3)
theorem names_tab : ∀ i : Nat, i < 4 → ∀ m : Nat, m < 4 → namesB ((menuT.getD i []).take m) = true ∧ ((menuT.getD i []).take m).length = m := by decide +kernel
theorem boxes_tab : ∀ i : Nat, i < 6 → ((boxesT.getD i []).all (fun b => decide (0 < b.2) && decide (b.2 ≤ 100) && okWb b.1) && decide ((boxesT.getD i []).length ≤ 10)) = true := by decide +kernel
theorem most_tab : ∀ i : Nat, i < 6 → 0 ≤ mostT.getD i 0 ∧ mostT.getD i 0 ≤ 8 := by decide +kernel
section
variable (script : List Int)
theorem d_bounds : (0 ≤ dr (cellAt script 0) szScript 0 ∧ dr (cellAt script 0) szScript 0 < 6) ∧ (0 ≤ dr (cellAt script 0) szScript 1 ∧ dr (cellAt script 0) szScript 1 < 3) ∧ (0 ≤ dr (cellAt script 0) szScript 2 ∧ dr (cellAt script 0) szScript 2 < 4) ∧ (0 ≤ dr (cellAt script 0) szScript 3 ∧ dr (cellAt script 0) szScript 3 < 2) :=
  ⟨dr_lt 0 rfl (by decide), dr_lt 1 rfl (by decide), dr_lt 2 rfl (by decide), dr_lt 3 rfl (by decide)⟩
theorem names_ok : (namesOf script).Nodup ∧ (∀ n ∈ namesOf script, okW n ∧ n ≠ ("held" : Str)) ∧ 1 ≤ (namesOf script).length ∧ (namesOf script).length ≤ 3 := by
  obtain ⟨_, h1, h2, _⟩ := d_bounds script
  obtain ⟨a, b⟩ := names_tab (dr (cellAt script 0) szScript 2).toNat (by omega) (1 + dr (cellAt script 0) szScript 1).toNat (by omega)
  change namesB (namesOf script) = true at a
  change (namesOf script).length = _ at b
  simp only [namesB, Bool.and_eq_true, List.all_eq_true, Bool.not_eq_true', decide_eq_false_iff_not, decide_eq_true_eq] at a
  exact ⟨nodupB_ok a.1.1, fun n hn => ⟨okWb_ok (a.1.2 n hn).1, (a.1.2 n hn).2⟩, by omega, a.2⟩
theorem most_ok : 0 ≤ mostOf script ∧ mostOf script ≤ 8 := by
  obtain ⟨h0, _⟩ := d_bounds script
  exact most_tab _ (by omega)
theorem boxes_ok : (∀ b ∈ boxesOf script, (0 < b.2 ∧ b.2 ≤ 100) ∧ okW b.1) ∧ (boxesOf script).length ≤ 10 := by
  obtain ⟨h0, _⟩ := d_bounds script
  have a := boxes_tab (dr (cellAt script 0) szScript 0).toNat (by omega)
  change ((boxesOf script).all _ && decide ((boxesOf script).length ≤ 10)) = true at a
  simp only [Bool.and_eq_true, List.all_eq_true, decide_eq_true_eq] at a
  exact ⟨fun b hb => ⟨(a.1 b hb).1, okWb_ok (a.1 b hb).2⟩, a.2⟩
theorem talks_names : (talksOf script).map (·.1) = namesOf script ++ [("held" : Str)] := by
  unfold talksOf
  rw [List.map_append, List.map_map]
  congr 1
  refine List.ext_getElem (by simp) fun i h1 h2 => ?_
  simp [talkOf, List.getElem?_eq_getElem h2]
def genPrm (Q : Tk → Prop) : Prm := ⟨boxesOf script, (genScript script).talks.map (·.1), wtOf (namesOf script), Q⟩
theorem talks_perm : (genScript script).talks.Perm (talksOf script) := by
  unfold genScript
  simp only
  split
  · have h : ((talksOf script).take 1 ++ ((talksOf script).drop 1).reverse).Perm ((talksOf script).take 1 ++ (talksOf script).drop 1) := List.Perm.append_left _ (List.reverse_perm _)
    rw [List.take_append_drop] at h
    exact h
  · exact List.Perm.refl _
theorem wt_name {k : Nat} (hk : k < (namesOf script).length) : wtOf (namesOf script) ((namesOf script).getD k Str.empty) = wtT.getD k 3 := by
  obtain ⟨h1, h2, _, _⟩ := names_ok script
  have e : (namesOf script).getD k Str.empty = (namesOf script)[k] := by rw [List.getD_eq_getElem?_getD, List.getElem?_eq_getElem hk] <;> rfl
  rw [e]
  unfold wtOf
  rw [if_neg (h2 _ (List.getElem_mem hk)).2]
  congr 1
  have hlt : (namesOf script).findIdx (fun n => decide (n = (namesOf script)[k])) < (namesOf script).length := List.findIdx_lt_length.mpr ⟨_, List.getElem_mem hk, by simp⟩
  have e2 : (namesOf script)[(namesOf script).findIdx (fun n => decide (n = (namesOf script)[k]))]'hlt = (namesOf script)[k] := of_decide_eq_true (List.findIdx_getElem (w := hlt))
  exact (List.getElem_inj h1).mp e2
theorem wt_tab : ∀ k : Nat, k < 3 → ∀ j : Nat, j < 3 → k < j → wtT.getD j 3 ≤ ([402, 67, 0] : List Nat).getD k 0 := by decide
theorem wt_next : ∀ k : Nat, k < 3 → 5 * (([402, 67, 0] : List Nat).getD k 0 + 11) + 12 ≤ wtT.getD k 3 ∧ wtT.getD k 3 ≤ 2077 := by decide
theorem count_tab : ∀ k : Nat, k < 3 → countT.getD k 0 ≤ 5 := by decide
theorem gen_ok (Q : Tk → Prop) (hQ : ∀ t, QTk t → Q t) : ScOk (genScript script) (genPrm script Q) 2077 ∧ ∀ t ∈ (genScript script).talks, ∀ s ∈ t.2, dS s ≤ 30 := by
  obtain ⟨n1, n2, n3, n4⟩ := names_ok script
  have hm := most_ok script
  obtain ⟨hb1, hb2⟩ := boxes_ok script
  have hp := talks_perm script
  have hpn : ((genScript script).talks.map (·.1)).Perm (namesOf script ++ [("held" : Str)]) := by
    rw [← talks_names script]
    exact hp.map _
  have hnm : ∀ n, n ∈ (genPrm script Q).names ↔ n ∈ namesOf script ∨ n = ("held" : Str) := fun n => by
    rw [show n ∈ (genPrm script Q).names ↔ n ∈ namesOf script ++ [("held" : Str)] from hpn.mem_iff]
    simp
  have hheld : (genPrm script Q).wt "held" = 3 := by
    show wtOf (namesOf script) "held" = 3
    unfold wtOf
    rw [if_pos rfl]
  have tk : ∀ k, k < (namesOf script).length → okB (genPrm script Q) false (talkOf script k).2 ∧ wB (genPrm script Q).wt (talkOf script k).2 ≤ wtT.getD k 3 ∧ ∀ s ∈ (talkOf script k).2, dS s ≤ 30 := fun k hk => by
    have r := talk_ok (Γ := genPrm script Q) (boxes := boxesOf script) (calls := (namesOf script).drop (k + 1)) (most := mostOf script) (C := ([402, 67, 0] : List Nat).getD k 0) rfl
      (fun t ht => (hnm t).mpr (.inl (List.mem_of_mem_drop ht))) (fun t ht => by
        obtain ⟨i, hi, rfl⟩ := List.getElem_of_mem ht
        rw [List.length_drop] at hi
        rw [List.getElem_drop]
        have e := wt_name script (k := k + 1 + i) (by omega)
        rw [List.getD_eq_getElem?_getD, List.getElem?_eq_getElem (by omega)] at e
        have e' : wtOf (namesOf script) (namesOf script)[k + 1 + i] = wtT.getD (k + 1 + i) 3 := e
        show wtOf (namesOf script) _ ≤ _
        rw [e']
        exact wt_tab k (by omega) _ (by omega) (by omega)) (by rw [hheld]; exact Nat.le_refl _) hm ((hnm _).mpr (.inr rfl)) hQ (cellsOf script k)
      (by unfold cellsOf; rw [List.length_map, List.length_range]; exact count_tab k (by omega))
    exact ⟨r.1, Nat.le_trans r.2.1 (wt_next k (by omega)).1, r.2.2⟩
  have all : ∀ t ∈ (genScript script).talks, (okB (genPrm script Q) false t.2 ∧ wB (genPrm script Q).wt t.2 ≤ (genPrm script Q).wt t.1 ∧ wB (genPrm script Q).wt t.2 ≤ 2077) ∧ ∀ s ∈ t.2, dS s ≤ 30 := fun t ht => by
    rcases List.mem_append.mp (hp.mem_iff.mp ht) with h | h
    · obtain ⟨k, hk, rfl⟩ := List.mem_map.mp h
      rw [List.mem_range] at hk
      obtain ⟨a, b, c⟩ := tk k hk
      have e := wt_name script hk
      refine ⟨⟨a, ?_, Nat.le_trans b (wt_next k (by omega)).2⟩, c⟩
      show _ ≤ wtOf (namesOf script) ((namesOf script).getD k Str.empty)
      rw [e]
      exact b
    · rw [List.mem_singleton] at h
      subst h
      refine ⟨⟨⟨⟨⟨hm.1, by omega⟩, trivial⟩, trivial⟩, ?_, ?_⟩, fun s hs => ?_⟩
      · show wB _ [Sm.wait (mostOf script) []] ≤ (genPrm script Q).wt "held"
        rw [hheld]
        exact Nat.le_refl _
      · exact Nat.le_trans (show wB (genPrm script Q).wt [Sm.wait (mostOf script) []] ≤ 3 from Nat.le_refl _) (by decide)
      · rw [List.mem_singleton] at hs
        subst hs
        simp [dS, encS, encBr, sq, PyData.depth, PyData.depthAll]
  refine ⟨⟨rfl, rfl, ?_, ?_, ?_, hb2, fun b hb => (hb1 b hb).1, fun b hb => (hb1 b hb).2, fun t ht => ?_, fun t ht => (all t ht).1, ?_⟩, fun t ht => (all t ht).2⟩
  · show ((genScript script).talks.map (·.1)).Nodup
    rw [hpn.nodup_iff]
    rw [List.nodup_append]
    refine ⟨n1, List.nodup_cons.mpr ⟨by simp, List.nodup_nil⟩, fun a ha b hb => ?_⟩
    rw [List.mem_singleton] at hb
    subst hb
    exact (n2 a ha).2
  · intro z
    have := hp.length_eq
    rw [z] at this
    simp [talksOf] at this
  · rw [hp.length_eq]
    simp [talksOf]
    omega
  · rcases (hnm t.1).mp (List.mem_map.mpr ⟨t, ht, rfl⟩) with h | h
    · exact (n2 _ h).1
    · rw [h]
      exact ⟨by decide +kernel, by decide +kernel⟩
  · exact ⟨mostOf script, hp.mem_iff.mpr (List.mem_append.mpr (.inr (List.mem_singleton.mpr rfl)))⟩
end

/-! ### data that can be compared -/
structure LayOk (Γ : Prm) : Prop where
  names : ∀ n ∈ Γ.names, okW n
  boxes : ∀ b ∈ Γ.boxes, okW b.1
  toks : ∀ t, Γ.Q t → PyData.canLay0 (encTk t) = true
theorem lay_all {ds : List PyData} (h : ∀ d ∈ ds, d.canLay0 = true) : PyData.canLayAll0 ds = true := by
  induction ds with
  | nil => rfl
  | cons d r ih =>
    simp only [PyData.canLayAll0, Bool.and_eq_true]
    exact ⟨h d List.mem_cons_self, ih fun e he => h e (List.mem_cons_of_mem _ he)⟩
theorem lay_sq {f : Bool} {ds : List PyData} (h : ∀ d ∈ ds, d.canLay0 = true) : PyData.canLay0 (sq f ds) = true := by
  have := lay_all h
  cases f <;> simpa [sq, PyData.canLay0] using this
theorem ixOf_name {bx : List (Str × Int)} {x : Str} (h : ixOf bx x < bx.length) : ∃ b, bx[ixOf bx x]? = some (x, b) := by
  have h2 : (bx[ixOf bx x]'h).1 = x := of_decide_eq_true (List.findIdx_getElem (w := h))
  exact ⟨(bx[ixOf bx x]'h).2, by rw [List.getElem?_eq_getElem h]; exact congrArg some (Prod.ext h2 rfl)⟩
section
variable {Γ : Prm} (L : LayOk Γ)
include L
theorem lay_box {x : Str} (h : ixOf Γ.boxes x < Γ.boxes.length) : PyData.canLay0 (.str x) = true := by
  obtain ⟨b, hb⟩ := ixOf_name h
  exact (L.boxes _ (List.mem_of_getElem? hb)).1
theorem lay_ex : ∀ e : Ex, okEx Γ.boxes e → PyData.canLay0 (encEx e) = true
  | .num n, _ => by simp [encEx, PyData.canLay0, PyData.canLayAll0]; decide +kernel
  | .box x, h => by
    have := lay_box L h
    simp only [encEx, PyData.canLay0, PyData.canLayAll0, Bool.and_true, Bool.and_eq_true] at this ⊢
    exact ⟨by decide +kernel, this⟩
  | .plus a b, h => by
    have h1 := lay_ex a h.1
    have h2 := lay_ex b h.2
    simp only [encEx, PyData.canLay0, PyData.canLayAll0, Bool.and_true, Bool.and_eq_true]
    exact ⟨by decide +kernel, h1, h2⟩
  | .less a b, h => by
    have h1 := lay_ex a h.1
    have h2 := lay_ex b h.2
    simp only [encEx, PyData.canLay0, PyData.canLayAll0, Bool.and_true, Bool.and_eq_true]
    exact ⟨by decide +kernel, h1, h2⟩
theorem lay_co : ∀ c : Co, okCo Γ.boxes c → PyData.canLay0 (encCo c) = true
  | .same a b, h => by
    have h1 := lay_ex L a h.1.1
    have h2 := lay_ex L b h.2.1
    simp only [encCo, PyData.canLay0, PyData.canLayAll0, Bool.and_true, Bool.and_eq_true]
    exact ⟨by decide +kernel, h1, h2⟩
  | .under a b, h => by
    have h1 := lay_ex L a h.1.1
    have h2 := lay_ex L b h.2.1
    simp only [encCo, PyData.canLay0, PyData.canLayAll0, Bool.and_true, Bool.and_eq_true]
    exact ⟨by decide +kernel, h1, h2⟩
  | .no c, h => by
    have h1 := lay_co c h
    simp only [encCo, PyData.canLay0, PyData.canLayAll0, Bool.and_true, Bool.and_eq_true]
    exact ⟨by decide +kernel, h1⟩
  | .both c d, h => by
    have h1 := lay_co c h.1
    have h2 := lay_co d h.2
    simp only [encCo, PyData.canLay0, PyData.canLayAll0, Bool.and_true, Bool.and_eq_true]
    exact ⟨by decide +kernel, h1, h2⟩
mutual
theorem lay_s {lp f : Bool} : ∀ s : Sm, okS Γ lp s → PyData.canLay0 (encS f s) = true
  | .say w, h => by
    have h1 := h.1
    simp only [encS, PyData.canLay0, PyData.canLayAll0, Bool.and_true, Bool.and_eq_true] at h1 ⊢
    exact ⟨by decide +kernel, h1⟩
  | .hand l w, h => by
    have h1 := h.2.1
    simp only [encS, PyData.canLay0, PyData.canLayAll0, Bool.and_true, Bool.true_and, Bool.and_eq_true] at h1 ⊢
    exact ⟨by decide +kernel, h1⟩
  | .put b e, h => by
    have h1 := lay_box L h.1
    have h2 := lay_ex L e h.2.1
    simp only [encS, PyData.canLay0, PyData.canLayAll0, Bool.and_true, Bool.and_eq_true] at h1 ⊢
    exact ⟨by decide +kernel, h1, h2⟩
  | .test c a b, h => by
    have h1 := lay_co L c h.1.1
    have h2 := lay_sq (f := f) (lay_b (f := f) a h.2.1)
    have h3 := lay_sq (f := f) (lay_b (f := f) b h.2.2)
    simp only [encS, PyData.canLay0, PyData.canLayAll0, Bool.and_true, Bool.and_eq_true]
    exact ⟨by decide +kernel, h1, h2, h3⟩
  | .wait l bs, h => by
    have h2 := lay_sq (f := f) (lay_r (f := f) bs h.2)
    simp only [encS, PyData.canLay0, PyData.canLayAll0, Bool.and_true, Bool.true_and, Bool.and_eq_true]
    exact ⟨by decide +kernel, h2⟩
  | .loop b, h => by
    have h2 := lay_sq (f := f) (lay_b (f := f) b h.2)
    simp only [encS, PyData.canLay0, PyData.canLayAll0, Bool.and_true, Bool.and_eq_true]
    exact ⟨by decide +kernel, h2⟩
  | .again, _ => by simp only [encS]; decide +kernel
  | .leave, _ => by simp only [encS]; decide +kernel
  | .call t, h => by
    have h1 := (L.names t h).1
    simp only [encS, PyData.canLay0, PyData.canLayAll0, Bool.and_true, Bool.and_eq_true] at h1 ⊢
    exact ⟨by decide +kernel, h1⟩
  | .back, _ => by simp only [encS]; decide +kernel
  | .stop, _ => by simp only [encS]; decide +kernel
theorem lay_b {lp f : Bool} : ∀ b : List Sm, okB Γ lp b → ∀ d ∈ encB f b, d.canLay0 = true
  | [], _, d, hd => by cases hd
  | s :: r, h, d, hd => by
    rcases List.mem_cons.mp hd with rfl | hd
    · exact lay_s s h.1
    · exact lay_b r h.2 d hd
theorem lay_r {lp f : Bool} : ∀ b : List (Tk × List Sm), okR Γ lp b → ∀ d ∈ encBr f b, d.canLay0 = true
  | [], _, d, hd => by cases hd
  | (p, b) :: r, h, d, hd => by
    rcases List.mem_cons.mp hd with rfl | hd
    · have h1 := L.toks p h.1.1
      have h2 := lay_sq (f := f) (lay_b (f := f) b h.1.2)
      simp only [PyData.canLay0, PyData.canLayAll0, Bool.and_true, Bool.and_eq_true]
      exact ⟨h1, h2⟩
    · exact lay_r r h.2 d hd
end
end
theorem lay_tk {t : Tk} (h : QTk t) : PyData.canLay0 (encTk t) = true := by
  cases t with
  | key k => simp only [encTk, PyData.canLay0, PyData.canLayAll0]; decide +kernel
  | word w =>
    have := (gw_ok h).1.1
    simp only [encTk, PyData.canLay0, PyData.canLayAll0, Bool.and_true, Bool.and_eq_true] at this ⊢
    exact ⟨by decide +kernel, this⟩
  | other => decide +kernel
  | none => decide +kernel
  | quiet => cases h
end CM

namespace CM
open PySem L2 DL
/-- the built-in names are the built-in ones -/
structure Free (mg : Str → Option Value) : Prop where
  len : mg "len" = none
  range : mg "range" = none
  min : mg "min" = none
  max : mg "max" = none
  enumerate : mg "enumerate" = none
  sum : mg "sum" = none
  list : mg "list" = none
  tuple : mg "tuple" = none
  isinstance : mg "isinstance" = none
  int : mg "int" = none
  str : mg "str" = none
  divmod : mg "divmod" = none
  set : mg "set" = none
  sorted : mg "sorted" = none
theorem atI_of {α : Type} {xs : List α} {i : Int} {v : α} (h0 : 0 ≤ i) (h : xs[i.toNat]? = some v) : atI xs i = some v := by
  have h1 : i.toNat < xs.length := (List.getElem?_eq_some_iff.mp h).1
  unfold atI ixN
  rw [if_pos h0, if_pos (by omega)]
  exact h
theorem atI_map {α β : Type} {xs : List α} {f : α → β} {i : Int} {v : α} (h0 : 0 ≤ i) (h : xs[i.toNat]? = some v) : atI (xs.map f) i = some (f v) := atI_of h0 (by rw [List.getElem?_map, h]; rfl)
theorem small30 {j : Int} (h0 : 0 < j) (h : j < 1073741824) (i : Int) : CDivW i j := wide_div (b := 30) h0 (by omega) (by decide) (by decide)
theorem getD_some {α : Type} {xs : List α} {i : Nat} {d : α} (h : i < xs.length) : xs[i]? = some (xs.getD i d) := by
  rw [List.getD_eq_getElem?_getD, List.getElem?_eq_getElem h] <;> rfl
abbrev dInt (n : Int) : Sl := .dat (.int n)
abbrev dInts (ns : List Int) : PyData := .list (ns.map .int)
def rCell (K : PySem.W.Frag) : List Sl → Rs → Prop := fun as r => ∃ (ns : List Int) (k : Nat), as = [.ph (PScr K ns), dInt k] ∧ r = .dat (.int (cellAt ns k))
def rStir : List Sl → Rs → Prop := fun as r => ∃ (c : Int) (k : Nat), k ≤ 1000 ∧ as = [dInt c, dInt k] ∧ r = .dat (.int (stirM c k))
def szOk (sz : List Int) : Prop := (∀ s ∈ sz, 0 < s ∧ s < 1073741824) ∧ sz.length ≤ 1000
def rDrawn : List Sl → Rs → Prop := fun as r => ∃ (c : Int) (sz : List Int), szOk sz ∧ as = [dInt c, .dat (dInts sz)] ∧ r = .lst ((drawn c sz).map .int)
section
variable {P : Program} {w : World} {K : PySem.W.Frag} {mg : Str → Option Value} {base : Heap} {f : Addr} {fd : FuncData}
theorem df_law_cell (B : Free mg) (F : Fun K "_law_cell" "_law_cell" s_law_cell f fd) (hm : mg "_law_cell" = some (.ref f)) (hb : Binds K fd ["script", "k"] []) : Df P w K mg base "_law_cell" 1 ["script", "k"] (rCell K) := by
  refine df_mk F sc_law_cell hm hb (fun as r ⟨_, _, e, _⟩ => by rw [e]; rfl) fun cdv A outer s H E M as r ⟨ns, k, e1, e2⟩ => ?_
  subst e1 e2
  refine db_cons (ds_if (et_leLt ed_int (ed_var 1) (ed_lenS 0 rfl B.len)) (fun h => ?_) (fun h => ?_))
  · have h' : k < ns.length := by
      have := of_decide_eq_true (Bool.and_eq_true_iff.mp h).2
      omega
    refine db_one (ds_ret (ed_ixScr 0 rfl (ed_var 1) (atI_of (v := cellAt ns k) (by omega) ?_)) rfl)
    exact getD_some h'
  · refine db_nil ?_
    refine db_one (ds_ret (d := .int (cellAt ns k)) (ed_int.is ?_) rfl)
    have h' : ¬ k < ns.length := fun q => by
      have : (decide ((0 : Int) ≤ (k : Int)) && decide ((k : Int) < (ns.length : Int))) = true := by
        rw [Bool.and_eq_true, decide_eq_true_eq, decide_eq_true_eq]
        omega
      rw [this] at h
      cases h
    unfold cellAt
    rw [List.getD_eq_getElem?_getD, List.getElem?_eq_none (by omega)]
    rfl
theorem stir_fits (c : Int) (k : Nat) (hk : k ≤ 1000) : CMulW (c % 10 ^ 60 + 7919 * k + 1) 27182818284590452353602874713527 ∧ CMulW (stirM c k * 0 + ((c % 10 ^ 60 + 7919 * k + 1) * 27182818284590452353602874713527 % 170141183460469231731687303715884105727)) ((c % 10 ^ 60 + 7919 * k + 1) * 27182818284590452353602874713527 % 170141183460469231731687303715884105727) := by
  have h1 : 0 ≤ c % 10 ^ 60 ∧ c % 10 ^ 60 < 10 ^ 60 := ⟨Int.emod_nonneg _ (by decide), Int.emod_lt_of_pos _ (by decide)⟩
  refine ⟨wide_mul (a := 201) (b := 201) ?_ (by decide) (by decide) (by decide) (by decide), ?_⟩
  · have : (c % 10 ^ 60 + 7919 * (k : Int) + 1).natAbs < 2 ^ 201 := by omega
    exact this
  · rw [Int.mul_zero, Int.zero_add]
    generalize (c % 10 ^ 60 + 7919 * (k : Int) + 1) * 27182818284590452353602874713527 = y
    have h2 : 0 ≤ y % 170141183460469231731687303715884105727 ∧ y % 170141183460469231731687303715884105727 < 170141183460469231731687303715884105727 := ⟨Int.emod_nonneg _ (by decide), Int.emod_lt_of_pos _ (by decide)⟩
    have : (y % 170141183460469231731687303715884105727).natAbs < 2 ^ 128 := by omega
    exact wide_mul (a := 128) (b := 128) this this (by decide) (by decide) (by decide)
theorem df_law_stir (B : Free mg) (F : Fun K "_law_stir" "_law_stir" s_law_stir f fd) (hm : mg "_law_stir" = some (.ref f)) (hb : Binds K fd ["cell", "k"] []) : Df P w K mg base "_law_stir" 1 ["cell", "k"] rStir := by
  refine df_mk F sc_law_stir hm hb (fun as r ⟨_, _, _, e, _⟩ => by rw [e]; rfl) fun cdv A outer s H E M as r ⟨c, k, hk, e1, e2⟩ => ?_
  subst e1 e2
  obtain ⟨f1, f2⟩ := stir_fits c k hk
  rw [Int.mul_zero, Int.zero_add] at f2
  have hp : (0 : Int) < 10 ^ (60 : Int).toNat := by decide
  refine db_cons (ds_set 2 (ed_mul (ed_add (ed_add (ed_mod (ed_var 0) (ed_pow ed_int ed_int ⟨by decide, by decide, by decide⟩) hp) (ed_mulS ed_int (ed_var 1) (.inl ⟨by decide, by decide⟩))) ed_int) ed_int f1) ?_)
  refine db_cons (ds_set 2 (ed_mod (ed_var 2) ed_int (by decide)) ?_)
  exact db_one (ds_ret (ed_div (ed_mod (ed_mul (ed_var 2) (ed_var 2) f2) ed_int (by decide)) ed_int (small30 (by decide) (by decide) _)) rfl)
theorem df_law_drawn {k : Nat} (B : Free mg) (St : Df P w K mg base "_law_stir" 1 ["cell", "k"] rStir) (F : Fun K "_law_drawn" "_law_drawn" s_law_drawn f fd) (hm : mg "_law_drawn" = some (.ref f)) (hb : Binds K fd ["cell", "sizes"] []) : Df P w K mg base "_law_drawn" 2 ["cell", "sizes"] rDrawn := by
  refine df_mk F sc_law_drawn hm hb (fun as r ⟨_, _, _, e, _⟩ => by rw [e]; rfl) fun cdv A outer s H E M as r ⟨c, sz, hsz, e1, e2⟩ => ?_
  subst e1 e2
  refine db_cons (ds_setL 2 (el_lst (ds := []) ea_nil) ?_)
  refine db_cons (ds_set 3 (ed_div (ed_var 0) ed_int (small30 (by decide) (by decide) _)) ?_)
  refine db_cons (ds_for (is_enum (ed_var 1) B.enumerate)
    (fun i δ => ∃ acc rest, δ.length = 6 ∧ δ[0]? = some (some (.dat (.int c))) ∧ δ[2]? = some (some (.lst acc)) ∧ δ[3]? = some (some (.dat (.int rest))) ∧ acc.length = i ∧ acc ++ (drawnGo c rest i (sz.drop i)).map .int = (drawn c sz).map .int)
    ⟨[], c / 2, rfl, rfl, rfl, rfl, rfl, rfl⟩ (fun i d δ hd hI => ?_) (fun δ hI => ?_))
  · obtain ⟨acc, rest, hl, h0, h2, h3, hla, he⟩ := hI
    have hi : i < sz.length := by
      have := (List.getElem?_eq_some_iff.mp hd).1
      simpa using this
    have ed : d = .tuple [.int i, .int sz[i]] := by
      rw [List.getElem?_map, List.getElem?_eq_getElem (by simpa using hi)] at hd
      have := Option.some.inj hd
      rw [← this]
      simp
    subst ed
    obtain ⟨b1, b2⟩ := hsz.1 _ (List.getElem_mem hi)
    have hll := hsz.2
    have hdrop : sz.drop i = sz[i] :: sz.drop (i + 1) := List.drop_eq_getElem_cons hi
    have hq : ∀ j, (((δ.set 4 (some (.dat (.int i)))).set 5 (some (.dat (.int sz[i]))))[j]?) = if j = 5 then some (some (.dat (.int sz[i]))) else if j = 4 then some (some (.dat (.int i))) else δ[j]? := fun j => by
      rw [List.getElem?_set, List.getElem?_set]
      simp only [List.length_set, hl]
      by_cases q : j = 5
      · subst q; rfl
      · rw [if_neg (fun z => q z.symm), if_neg q]
        by_cases q4 : j = 4
        · subst q4; rfl
        · rw [if_neg (fun z => q4 z.symm), if_neg q4]
    refine ⟨_, _, gb_tup (gbs_cons 4 (gbs_cons 5 gbs_nil (hl := by rw [List.length_set, hl]; decide)) (hl := by rw [hl]; decide)), ?_⟩
    refine db_one (ds_if (et_eqI (ed_mod (ed_var 0 (hl := (hq 0).trans h0)) ed_int (by decide)) ed_int) (fun h => ?_) (fun h => ?_))
    · have h' : c % 2 = 0 := of_decide_eq_true h
      refine db_cons (ds_app 2 (ed_mod (ed_var 3 (hl := (hq 3).trans h3)) (ed_var 5 (hl := hq 5)) b1) (by omega) ?_ (hl := (hq 2).trans h2))
      refine db_one (ds_set 3 (ed_div (ed_var 3 (hl := by rw [List.getElem?_set_ne (by decide)]; exact (hq 3).trans h3)) (ed_var 5 (hl := by rw [List.getElem?_set_ne (by decide)]; exact hq 5)) (small30 b1 b2 _)) ?_ (hl := by simp [hl]))
      refine ⟨acc ++ [.int (rest % sz[i])], rest / sz[i], by simp [hl], ?_, ?_, ?_, by simp [hla], ?_⟩
      · rw [List.getElem?_set_ne (by decide), List.getElem?_set_ne (by decide)]; exact (hq 0).trans h0
      · rw [List.getElem?_set_ne (by decide), List.getElem?_set_self (by simp [hl])]
      · rw [List.getElem?_set_self (by simp [hl])]
      · rw [← he, hdrop]
        conv => rhs; unfold drawnGo
        rw [if_pos h']
        simp
    · have h' : ¬ c % 2 = 0 := of_decide_eq_false h
      refine db_one (ds_app 2 (ed_mod (ed_call St (ea_cons (ed_var 3 (hl := (hq 3).trans h3)) (ea_cons (ed_var 4 (hl := hq 4)) ea_nil)) ⟨rest, i, by omega, rfl, rfl⟩) (ed_var 5 (hl := hq 5)) b1) (by omega) ?_ (hl := (hq 2).trans h2))
      refine ⟨acc ++ [.int (stirM rest i % sz[i])], rest, by simp [hl], ?_, ?_, ?_, by simp [hla], ?_⟩
      · rw [List.getElem?_set_ne (by decide)]; exact (hq 0).trans h0
      · rw [List.getElem?_set_self (by simp [hl])]
      · rw [List.getElem?_set_ne (by decide)]; exact (hq 3).trans h3
      · rw [← he, hdrop]
        conv => rhs; unfold drawnGo
        rw [if_neg h']
        simp
  · obtain ⟨acc, rest, hl, h0, h2, h3, hla, he⟩ := hI
    refine db_one (ds_retV 2 ?_ (hl := h2))
    have e0 : sz.drop (((List.zipIdx (sz.map PyData.int)).map (fun z => PyData.tuple [.int z.2, z.1])).length) = [] := by simp
    rw [e0] at he
    rw [← he]
    simp [drawnGo]
end
end CM

namespace CM
open PySem L2 DL
def bxD (boxes : List (Str × Int)) : PyData := .list (boxes.map encBox)
theorem bx_shaped : ∀ boxes ∈ boxesT, SeqAt.shaped (bxD boxes) = true := by decide +kernel
theorem isEmpty_map {α β : Type} (f : α → β) (l : List α) : (l.map f).isEmpty = l.isEmpty := by cases l <;> rfl
def rWord : List Sl → Rs → Prop := fun as r => ∃ n : Int, as = [dInt n] ∧ r = .dat (.str (genWord n))
def rExpr : List Sl → Rs → Prop := fun as r => ∃ (d0 d1 d2 d3 : Int) (boxes : List (Str × Int)), (0 ≤ d0 ∧ d0 < 5) ∧ boxes ∈ boxesT ∧ as = [.dat (dInts [d0, d1, d2, d3]), .dat (bxD boxes)] ∧ r = .dat (encEx (genEx d0 d1 d2 d3 boxes))
def rCond : List Sl → Rs → Prop := fun as r => ∃ (d0 d1 d2 d3 d4 d5 d6 d7 d8 : Int) (boxes : List (Str × Int)), (0 ≤ d0 ∧ d0 < 4) ∧ (0 ≤ d1 ∧ d1 < 5) ∧ (0 ≤ d5 ∧ d5 < 5) ∧ boxes ∈ boxesT ∧ as = [.dat (dInts [d0, d1, d2, d3, d4, d5, d6, d7, d8]), .dat (bxD boxes)] ∧
  r = .dat (encCo (genCo [d0, d1, d2, d3, d4, d5, d6, d7, d8] boxes))
def lettersS : Str := "abcdefghijklmnopqrstuvwxyz"
theorem letters_at : ∀ i : Nat, i < 26 → lettersS.cps.toList[i]? = some (97 + i) := by decide +kernel
section
variable {P : Program} {w : World} {K : PySem.W.Frag} {mg : Str → Option Value} {base : Heap} {f : Addr} {fd : FuncData}
theorem df_law_word (F : Fun K "_law_word" "_law_word" s_law_word f fd) (hm : mg "_law_word" = some (.ref f)) (hb : Binds K fd ["number"] []) : Df P w K mg base "_law_word" 1 ["number"] rWord := by
  refine df_mk F sc_law_word hm hb (fun as r ⟨_, e, _⟩ => by rw [e]; rfl) fun cdv A outer s H E M as r ⟨n, e1, e2⟩ => ?_
  subst e1 e2
  have d6 : CDivW n 6 := small30 (j := 6) (by decide) (by decide) n
  have d26 : CDivW n 26 := small30 (j := 26) (by decide) (by decide) n
  have d52 : CDivW n 52 := small30 (j := 52) (by decide) (by decide) n
  have l1 : atI lettersS.cps.toList (n % 26) = some (97 + (n % 26).toNat) := atI_of (by omega) (letters_at _ (by omega))
  have l2 : atI lettersS.cps.toList (n / 52 % 26) = some (97 + (n / 52 % 26).toNat) := atI_of (by omega) (letters_at _ (by omega))
  refine db_cons (ds_set 1 ed_str ?_)
  refine db_cons (ds_if (et_eqI (ed_mod (ed_var 0) ed_int (by decide)) ed_int) (fun h => ?_) (fun h => ?_))
  · have h' : n % 6 = 5 := of_decide_eq_true h
    refine db_one (ds_ret (ed_ixL (ds := words9.map .str) (el_lst (ea_cons ed_str (ea_cons ed_str (ea_cons ed_str (ea_cons ed_str (ea_cons ed_str (ea_cons ed_str (ea_cons ed_str (ea_cons ed_str (ea_cons ed_str ea_nil)))))))))).q (ed_mod (ed_div (ed_var 0) ed_int d6) ed_int (by decide)) (d := .str (genWord n)) ?_) rfl)
    refine atI_of (by omega) ?_
    have hl : (n / 6 % 9).toNat < words9.length := by show _ < 9; omega
    rw [List.getElem?_map, List.getElem?_eq_getElem hl]
    unfold genWord
    rw [if_pos h', List.getD_eq_getElem?_getD, List.getElem?_eq_getElem hl]
    rfl
  · have h' : ¬ n % 6 = 5 := of_decide_eq_false h
    refine db_nil ?_
    refine db_cons (ds_if (et_eqI (ed_mod (ed_div (ed_var 0) ed_int d26) ed_int (by decide)) ed_int) (fun h => ?_) (fun h => ?_))
    · have h2 : n / 26 % 2 = 0 := of_decide_eq_true h
      refine db_one (ds_ret (ed_ixS (ed_var 1) (ed_mod (ed_var 0) ed_int (by decide)) (by decide +kernel) l1) ?_)
      unfold genWord
      rw [if_neg h', if_pos h2]
      rfl
    · have h2 : ¬ n / 26 % 2 = 0 := of_decide_eq_false h
      refine db_nil ?_
      refine db_one (ds_ret (ed_cat (ed_ixS (ed_var 1) (ed_mod (ed_var 0) ed_int (by decide)) (by decide +kernel) l1) (ed_ixS (ed_var 1) (ed_mod (ed_div (ed_var 0) ed_int d52) ed_int (by decide)) (by decide +kernel) l2) (by show 1 + 1 ≤ 16000000; decide)) ?_)
      unfold genWord
      rw [if_neg h', if_neg h2]
      rfl
theorem df_law_expression (B : Free mg) (F : Fun K "_law_expression" "_law_expression" s_law_expression f fd) (hm : mg "_law_expression" = some (.ref f)) (hb : Binds K fd ["d", "boxes"] []) : Df P w K mg base "_law_expression" 1 ["d", "boxes"] rExpr := by
  refine df_mk F sc_law_expression hm hb (fun as r ⟨_, _, _, _, _, _, _, e, _⟩ => by rw [e]; rfl) fun cdv A outer s H E M as r ⟨d0, d1, d2, d3, boxes, h0, hbx, e1, e2⟩ => ?_
  subst e1 e2
  have hsh := bx_shaped boxes hbx
  refine db_cons (ds_set 2 (ed_tup (ds := [.str "number", .int d1]) (ea_cons ed_str (ea_cons (ed_ixL (ed_var 0).q ed_int) ea_nil))) ?_)
  refine db_cons (ds_set 3 (ed_tup (ds := [.str "number", .int d3]) (ea_cons ed_str (ea_cons (ed_ixL (ed_var 0).q ed_int) ea_nil))) ?_)
  refine db_if (fun δ => δ = [some (.dat (dInts [d0, d1, d2, d3])), some (.dat (bxD boxes)), some (.dat (encEx (.num d1))), some (.dat (encEx (if boxes = [] then Ex.num d3 else Ex.box (boxes.getD (d2 % boxes.length).toNat (Str.empty, 0)).1))), none]) (et_neNil (ed_var 1).q hsh) (fun h => ?_) (fun h => ?_) (fun δ e => ?_)
  · have hne : boxes ≠ [] := fun e => by rw [e] at h; cases h
    have hlt := mod_len d2 hne
    have hl0 : (0 : Int) < (boxes.map encBox).length := by
      rw [List.length_map]
      have := List.length_pos_iff.mpr hne
      omega
    have hge := Int.emod_nonneg d2 (show ((boxes.map encBox).length : Int) ≠ 0 by omega)
    have hat : atI (boxes.map encBox) (d2 % (boxes.map encBox).length) = some (encBox (boxes.getD (d2 % boxes.length).toNat (Str.empty, 0))) := by
      rw [List.length_map] at hge ⊢
      exact atI_map hge (getD_some hlt)
    refine db_one (ds_set 3 (ed_tup (ds := [.str "box", .str (boxes.getD (d2 % boxes.length).toNat (Str.empty, 0)).1]) (ea_cons ed_str (ea_cons (ed_ixT (ed_ixL (ed_var 1).q (ed_mod (ed_ixL (ed_var 0).q ed_int) (ed_lenL (ed_var 1).q B.len) hl0) hat) ed_int) ea_nil))) ?_)
    show _ = _
    rw [if_neg hne]
    rfl
  · have hne : boxes = [] := by
      cases boxes with
      | nil => rfl
      | cons _ _ => cases h
    refine db_nil ?_
    show _ = _
    rw [if_pos hne]
    rfl
  · subst e
    generalize ho : (if boxes = [] then Ex.num d3 else Ex.box (boxes.getD (d2 % boxes.length).toNat (Str.empty, 0)).1) = o
    refine db_cons (ds_setL 4 (el_lst (ds := ([.num d1, o, .plus o (.num d1), .less o (.num d1), .plus (.less (.num d1) o) o] : List Ex).map encEx)
      (ea_cons (ed_var 2) (ea_cons (ed_var 3) (ea_cons (ed_tup (ds := [.str "plus", encEx o, encEx (.num d1)]) (ea_cons ed_str (ea_cons (ed_var 3) (ea_cons (ed_var 2) ea_nil))))
        (ea_cons (ed_tup (ds := [.str "less", encEx o, encEx (.num d1)]) (ea_cons ed_str (ea_cons (ed_var 3) (ea_cons (ed_var 2) ea_nil))))
        (ea_cons (ed_tup (ds := [.str "plus", encEx (.less (.num d1) o), encEx o]) (ea_cons ed_str (ea_cons (ed_tup (ds := [.str "less", encEx (.num d1), encEx o]) (ea_cons ed_str (ea_cons (ed_var 2) (ea_cons (ed_var 3) ea_nil)))) (ea_cons (ed_var 3) ea_nil)))) ea_nil)))))) ?_)
    refine db_one (ds_ret (ed_ixL (eq_var 4) (ed_ixL (ed_var 0).q ed_int) (d := encEx (genEx d0 d1 d2 d3 boxes)) ?_) rfl)
    refine atI_map (v := genEx d0 d1 d2 d3 boxes) h0.1 ?_
    have hd : d0.toNat < 5 := by omega
    unfold genEx
    simp only [ho]
    exact getD_some hd
theorem df_law_condition (B : Free mg) (Dx : Df P w K mg base "_law_expression" 1 ["d", "boxes"] rExpr) (F : Fun K "_law_condition" "_law_condition" s_law_condition f fd) (hm : mg "_law_condition" = some (.ref f)) (hb : Binds K fd ["d", "boxes"] []) : Df P w K mg base "_law_condition" 2 ["d", "boxes"] rCond := by
  refine df_mk F sc_law_condition hm hb (fun as r ⟨_, _, _, _, _, _, _, _, _, _, _, _, _, _, e, _⟩ => by rw [e]; rfl) fun cdv A outer s H E M as r ⟨d0, d1, d2, d3, d4, d5, d6, d7, d8, boxes, h0, h1, h5, hbx, e1, e2⟩ => ?_
  subst e1 e2
  refine db_cons (ds_set 2 (ed_call Dx (ea_cons (el_slice (ed_var 0).q (eo_some ed_int) (eo_some ed_int)).dd (ea_cons (ed_var 1) ea_nil)) ⟨d1, d2, d3, d4, boxes, h1, hbx, rfl, rfl⟩) ?_)
  refine db_cons (ds_set 3 (ed_call Dx (ea_cons (el_slice (ed_var 0).q (eo_some ed_int) (eo_some ed_int)).dd (ea_cons (ed_var 1) ea_nil)) ⟨d5, d6, d7, d8, boxes, h5, hbx, rfl, rfl⟩) ?_)
  have hg : genCo [d0, d1, d2, d3, d4, d5, d6, d7, d8] boxes = ([if d0 % 2 = 1 then Co.under (genEx d1 d2 d3 d4 boxes) (genEx d5 d6 d7 d8 boxes) else Co.same (genEx d1 d2 d3 d4 boxes) (genEx d5 d6 d7 d8 boxes), if d0 % 2 = 1 then Co.under (genEx d1 d2 d3 d4 boxes) (genEx d5 d6 d7 d8 boxes) else Co.same (genEx d1 d2 d3 d4 boxes) (genEx d5 d6 d7 d8 boxes),
    .no (if d0 % 2 = 1 then Co.under (genEx d1 d2 d3 d4 boxes) (genEx d5 d6 d7 d8 boxes) else Co.same (genEx d1 d2 d3 d4 boxes) (genEx d5 d6 d7 d8 boxes)), .both (.no (.under (genEx d5 d6 d7 d8 boxes) (.num 1))) (if d0 % 2 = 1 then Co.under (genEx d1 d2 d3 d4 boxes) (genEx d5 d6 d7 d8 boxes) else Co.same (genEx d1 d2 d3 d4 boxes) (genEx d5 d6 d7 d8 boxes))] : List Co).getD d0.toNat (if d0 % 2 = 1 then Co.under (genEx d1 d2 d3 d4 boxes) (genEx d5 d6 d7 d8 boxes) else Co.same (genEx d1 d2 d3 d4 boxes) (genEx d5 d6 d7 d8 boxes)) := rfl
  rw [hg]
  generalize genEx d1 d2 d3 d4 boxes = one
  generalize genEx d5 d6 d7 d8 boxes = other
  refine db_cons (ds_set 4 (ed_tup (ds := [.str "same", encEx one, encEx other]) (ea_cons ed_str (ea_cons (ed_var 2) (ea_cons (ed_var 3) ea_nil)))) ?_)
  refine db_if (fun δ => δ = [some (.dat (dInts [d0, d1, d2, d3, d4, d5, d6, d7, d8])), some (.dat (bxD boxes)), some (.dat (encEx one)), some (.dat (encEx other)), some (.dat (encCo (if d0 % 2 = 1 then Co.under one other else Co.same one other)))])
    (et_eqI (ed_mod (ed_ixL (ed_var 0).q ed_int (d := .int d0)) ed_int (by decide)) ed_int) (fun h => ?_) (fun h => ?_) (fun δ e => ?_)
  · have h' : d0 % 2 = 1 := of_decide_eq_true h
    refine db_one (ds_set 4 (ed_tup (ds := [.str "under", encEx one, encEx other]) (ea_cons ed_str (ea_cons (ed_var 2) (ea_cons (ed_var 3) ea_nil)))) ?_)
    show _ = _
    rw [if_pos h']
    rfl
  · have h' : ¬ d0 % 2 = 1 := of_decide_eq_false h
    refine db_nil ?_
    show _ = _
    rw [if_neg h']
    rfl
  · subst e
    generalize (if d0 % 2 = 1 then Co.under one other else Co.same one other) = plain
    refine db_one (ds_ret (ed_ixL (ds := ([plain, plain, .no plain, .both (.no (.under other (.num 1))) plain] : List Co).map encCo) (el_lst
      (ea_cons (ed_var 4) (ea_cons (ed_var 4) (ea_cons (ed_tup (ds := [.str "not", encCo plain]) (ea_cons ed_str (ea_cons (ed_var 4) ea_nil)))
        (ea_cons (ed_tup (ds := [.str "both", encCo (.no (.under other (.num 1))), encCo plain]) (ea_cons ed_str (ea_cons (ed_tup (ds := [.str "not", encCo (.under other (.num 1))]) (ea_cons ed_str (ea_cons (ed_tup (ds := [.str "under", encEx other, encEx (.num 1)]) (ea_cons ed_str (ea_cons (ed_var 3)
          (ea_cons (ed_tup (ds := [.str "number", .int 1]) (ea_cons ed_str (ea_cons ed_int ea_nil))) ea_nil)))) ea_nil))) (ea_cons (ed_var 4) ea_nil)))) ea_nil))))).q (ed_ixL (ed_var 0).q ed_int (d := .int d0)) (d := _) (atI_map h0.1 (getD_some (d := plain) (show d0.toNat < 4 by omega)))) rfl)
end
end CM

namespace CM
open PySem L2 DL
theorem sIx_nat {L d n : Nat} (h : n ≤ L) : HT.sIx L d (some (n : Int)) = n := by
  rw [HT.sIx_nat]
  omega
theorem cutD_take {l : List PyData} {n : Nat} (h : n ≤ l.length) : cutD l none (some (n : Int)) = l.take n := by
  unfold cutD
  rw [sIx_nat h]
  show (l.drop 0).take (n - 0) = _
  simp
theorem cutD_drop {l : List PyData} {n : Nat} (h : n ≤ l.length) : cutD l (some (n : Int)) none = l.drop n := by
  unfold cutD
  rw [sIx_nat h]
  show (l.drop n).take (l.length - n) = _
  rw [List.take_of_length_le (by rw [List.length_drop]; omega)]
theorem len2 {α : Type} : ∀ {l : List α}, l.length = 2 → ∃ a b, l = [a, b]
  | [a, b], _ => ⟨a, b, rfl⟩
theorem len4 {α : Type} : ∀ {l : List α}, l.length = 4 → ∃ a b c d, l = [a, b, c, d]
  | [a, b, c, d], _ => ⟨a, b, c, d, rfl⟩
theorem len5 {α : Type} : ∀ {l : List α}, l.length = 5 → ∃ a b c d e, l = [a, b, c, d, e]
  | [a, b, c, d, e], _ => ⟨a, b, c, d, e, rfl⟩
theorem len6 {α : Type} : ∀ {l : List α}, l.length = 6 → ∃ a b c d e f, l = [a, b, c, d, e, f]
  | [a, b, c, d, e, f], _ => ⟨a, b, c, d, e, f, rfl⟩
theorem len7 {α : Type} : ∀ {l : List α}, l.length = 7 → ∃ a b c d e f g, l = [a, b, c, d, e, f, g]
  | [a, b, c, d, e, f, g], _ => ⟨a, b, c, d, e, f, g, rfl⟩
theorem len10 {α : Type} : ∀ {l : List α}, l.length = 10 → ∃ a b c d e f g h i j, l = [a, b, c, d, e, f, g, h, i, j]
  | [a, b, c, d, e, f, g, h, i, j], _ => ⟨a, b, c, d, e, f, g, h, i, j, rfl⟩
def okCalls (calls : List Str) : Prop := SeqAt.shaped (.list (calls.map .str)) = true ∧ calls.length ≤ 1000
abbrev dStrs (ns : List Str) : PyData := .list (ns.map .str)
def rSimple : List Sl → Rs → Prop := fun as r => ∃ (cell : Int) (boxes : List (Str × Int)) (calls : List Str) (most : Int), boxes ∈ boxesT ∧ okCalls calls ∧ (0 ≤ most ∧ most ≤ 8) ∧ as = [dInt cell, .dat (bxD boxes), .dat (dStrs calls), dInt most] ∧ r = .dat (encEn (genSimple cell boxes calls most))
section
variable {P : Program} {w : World} {K : PySem.W.Frag} {mg : Str → Option Value} {base : Heap} {f : Addr} {fd : FuncData}
theorem el_drawn {ι : Type} {X : ι → Cx} {δ : DEnv} {k : Nat} [M : Fm X P w K mg base k] {e : Expr} {es : List Expr} {p pos : Pos} {cell : Int} {sz l : List Int} (Dd : Df P w K mg base "_law_drawn" 2 ["cell", "sizes"] rDrawn) (ha : EA X δ (e :: es) [dInt cell, .dat (dInts sz)]) (hsz : szOk sz) (hd : drawn cell sz = l) (hk : 2 ≤ k := by decide) (hg : ∀ i, Gl (X i) "_law_drawn" := by intro _; rfl)
    (hs : ∀ i, starEach (e :: es) (X i).env = (false, eval e (X i).env) :: starEach es (X i).env := by intro _; rfl) (hpl : ∀ i, (backTo pos (starEach es (X i).env)).any (·.1) = false := by intro _; rfl) : EL X δ (.Call (.Name "_law_drawn" p) (e :: es) [] pos) (l.map .int) :=
  el_call Dd ha ⟨cell, sz, hsz, rfl, by rw [hd]⟩ hk hg hs hpl (by decide)
theorem df_law_simple (B : Free mg) (Dd : Df P w K mg base "_law_drawn" 2 ["cell", "sizes"] rDrawn) (Dw : Df P w K mg base "_law_word" 1 ["number"] rWord) (Dx : Df P w K mg base "_law_expression" 1 ["d", "boxes"] rExpr) (F : Fun K "_law_simple" "_law_simple" s_law_simple f fd) (hm : mg "_law_simple" = some (.ref f)) (hb : Binds K fd ["cell", "boxes", "calls", "most"] []) :
    Df P w K mg base "_law_simple" 3 ["cell", "boxes", "calls", "most"] rSimple := by
  refine df_mk F sc_law_simple hm hb (fun as r ⟨_, _, _, _, _, _, _, e, _⟩ => by rw [e]; rfl) fun cdv A outer s H E M as r ⟨cell, boxes, calls, most, hbx, hcl, hmo, e1, e2⟩ => ?_
  subst e1 e2
  have hsh := bx_shaped boxes hbx
  have b3 := dr_lt (cell := cell) (sz := szSimple) 3 rfl (by decide)
  obtain ⟨a0, a1, a2, a3, a4, a5, a6, hd⟩ := len7 (drawn_len cell szSimple)
  unfold dr at b3
  rw [hd] at b3
  have hg : genSimple cell boxes calls most = if a0 = 3 ∨ (a0 = 4 ∧ boxes = []) ∨ (a0 = 7 ∧ calls = []) then ⟨.hand a2 (genWord a1), false, false, 0⟩ else if a0 = 4 ∨ (a0 = 10 ∧ boxes ≠ []) then ⟨.put (boxes.getD (a1 % boxes.length).toNat (Str.empty, 0)).1 (genEx a3 a4 a5 a6 boxes), false, false, 0⟩
      else if a0 = 5 then ⟨.again, true, true, 0⟩ else if a0 = 6 then ⟨.leave, false, true, 0⟩ else if a0 = 7 then ⟨.call (calls.getD (a1 % calls.length).toNat Str.empty), false, false, 0⟩ else if a0 = 8 then ⟨if a2 % 2 = 0 then .back else .stop, false, false, 0⟩ else if a0 = 9 then ⟨.wait (a2 % (most + 1)) [], false, false, 1⟩ else ⟨.say (genWord a1), false, false, 0⟩ := by
    unfold genSimple dr
    rw [hd]
    rfl
  rw [hg]
  have ebx : ((boxes.map encBox).isEmpty = true) ↔ boxes = [] := by rw [isEmpty_map, List.isEmpty_iff]
  have ecl : ((calls.map PyData.str).isEmpty = true) ↔ calls = [] := by rw [isEmpty_map, List.isEmpty_iff]
  refine db_cons (ds_asg (el_drawn Dd (ea_cons (ed_var 0) (ea_cons (el_lst (ds := szSimple.map .int) (ea_cons ed_int (ea_cons ed_int (ea_cons ed_int (ea_cons ed_int (ea_cons ed_int (ea_cons ed_int (ea_cons ed_int ea_nil)))))))).dd ea_nil)) ⟨by decide, by decide⟩ hd).dd
    (gb_unl (gbs_cons 4 (gbs_cons 5 (gbs_cons 6 (gbs_cons 7 (gbs_cons 8 (gbs_cons 9 (gbs_cons 10 gbs_nil)))))))) ?_)
  refine db_cons (ds_set 11 (ed_call Dw (ea_cons (ed_var 5) ea_nil) ⟨a1, rfl, rfl⟩) ?_)
  refine db_cons (ds_if (EW.t (ew_or (et_eqI (ed_var 4) ed_int) (fun _ => ew_or (EW.t (ew_and (et_eqI (ed_var 4) ed_int) (fun _ => ew_and1 (et_eqNil (ed_var 1).q hsh)))) (fun _ => ew_or1 (EW.t (ew_and (et_eqI (ed_var 4) ed_int) (fun _ => ew_and1 (et_eqNil (ed_var 2).q hcl.1)))))))) (fun h => ?_) (fun h => ?_))
  · have h' : a0 = 3 ∨ (a0 = 4 ∧ boxes = []) ∨ (a0 = 7 ∧ calls = []) := by simpa only [Bool.or_eq_true, Bool.and_eq_true, decide_eq_true_eq, ebx, ecl] using h
    rw [if_pos h']
    exact db_one (ds_ret (ed_tup (ds := [.tuple [.str "hand", .int a2, .str (genWord a1)], .bool false, .bool false, .int 0]) (ea_cons (ed_tup (ds := [.str "hand", .int a2, .str (genWord a1)]) (ea_cons ed_str (ea_cons (ed_var 6) (ea_cons (ed_var 11) ea_nil)))) (ea_cons ed_bl (ea_cons ed_bl (ea_cons ed_int ea_nil))))) rfl)
  have h1 : ¬ (a0 = 3 ∨ (a0 = 4 ∧ boxes = []) ∨ (a0 = 7 ∧ calls = [])) := by
    intro q
    have : (decide (a0 = 3) || (decide (a0 = 4) && (boxes.map encBox).isEmpty || decide (a0 = 7) && (calls.map PyData.str).isEmpty)) = true := by simpa only [Bool.or_eq_true, Bool.and_eq_true, decide_eq_true_eq, ebx, ecl] using q
    rw [this] at h
    cases h
  rw [if_neg h1]
  refine db_nil ?_
  refine db_cons (ds_if (EW.t (ew_or (et_eqI (ed_var 4) ed_int) (fun _ => ew_or1 (EW.t (ew_and (et_eqI (ed_var 4) ed_int) (fun _ => ew_and1 (et_neNil (ed_var 1).q hsh))))))) (fun h => ?_) (fun h => ?_))
  · have h' : a0 = 4 ∨ (a0 = 10 ∧ boxes ≠ []) := by simpa only [Bool.or_eq_true, Bool.and_eq_true, decide_eq_true_eq, Bool.not_eq_true', ← Bool.not_eq_true, ebx] using h
    have hne : boxes ≠ [] := fun e => by
      rcases h' with z | z
      · exact h1 (.inr (.inl ⟨z, e⟩))
      · exact z.2 e
    rw [if_pos h']
    have hlt := mod_len a1 hne
    have hl0 : (0 : Int) < (boxes.map encBox).length := by
      rw [List.length_map]
      have := List.length_pos_iff.mpr hne
      omega
    have hge := Int.emod_nonneg a1 (show ((boxes.map encBox).length : Int) ≠ 0 by omega)
    have hat : atI (boxes.map encBox) (a1 % (boxes.map encBox).length) = some (encBox (boxes.getD (a1 % boxes.length).toNat (Str.empty, 0))) := by
      rw [List.length_map] at hge ⊢
      exact atI_map hge (getD_some hlt)
    refine db_cons (ds_set 12 (ed_ixT (ed_ixL (ed_var 1).q (ed_mod (ed_var 5) (ed_lenL (ed_var 1).q B.len) hl0) hat) ed_int (d := .str (boxes.getD (a1 % boxes.length).toNat (Str.empty, 0)).1)) ?_)
    exact db_one (ds_ret (ed_tup (ds := [encS false (.put (boxes.getD (a1 % boxes.length).toNat (Str.empty, 0)).1 (genEx a3 a4 a5 a6 boxes)), .bool false, .bool false, .int 0]) (ea_cons (ed_tup (ds := [.str "put", .str (boxes.getD (a1 % boxes.length).toNat (Str.empty, 0)).1, encEx (genEx a3 a4 a5 a6 boxes)]) (ea_cons ed_str (ea_cons (ed_var 12)
      (ea_cons (ed_call Dx (ea_cons (el_lst (ds := [.int a3, .int a4, .int a5, .int a6]) (ea_cons (ed_var 7) (ea_cons (ed_var 8) (ea_cons (ed_var 9) (ea_cons (ed_var 10) ea_nil))))).dd (ea_cons (ed_var 1) ea_nil)) ⟨a3, a4, a5, a6, boxes, b3, hbx, rfl, rfl⟩) ea_nil)))) (ea_cons ed_bl (ea_cons ed_bl (ea_cons ed_int ea_nil))))) rfl)
  have h2 : ¬ (a0 = 4 ∨ (a0 = 10 ∧ boxes ≠ [])) := by
    intro q
    have : (decide (a0 = 4) || (decide (a0 = 10) && !(boxes.map encBox).isEmpty)) = true := by simpa only [Bool.or_eq_true, Bool.and_eq_true, decide_eq_true_eq, Bool.not_eq_true', ← Bool.not_eq_true, ebx] using q
    rw [this] at h
    cases h
  rw [if_neg h2]
  refine db_nil ?_
  refine db_cons (ds_if (et_eqI (ed_var 4) ed_int) (fun h => ?_) (fun h => ?_))
  · rw [if_pos (of_decide_eq_true h)]
    exact db_one (ds_ret (ed_tup (ds := [.tuple [.str "again"], .bool true, .bool true, .int 0]) (ea_cons (ed_tup (ds := [.str "again"]) (ea_cons ed_str ea_nil)) (ea_cons ed_bl (ea_cons ed_bl (ea_cons ed_int ea_nil))))) rfl)
  rw [if_neg (of_decide_eq_false h)]
  refine db_nil ?_
  refine db_cons (ds_if (et_eqI (ed_var 4) ed_int) (fun h => ?_) (fun h => ?_))
  · rw [if_pos (of_decide_eq_true h)]
    exact db_one (ds_ret (ed_tup (ds := [.tuple [.str "leave"], .bool false, .bool true, .int 0]) (ea_cons (ed_tup (ds := [.str "leave"]) (ea_cons ed_str ea_nil)) (ea_cons ed_bl (ea_cons ed_bl (ea_cons ed_int ea_nil))))) rfl)
  rw [if_neg (of_decide_eq_false h)]
  refine db_nil ?_
  refine db_cons (ds_if (et_eqI (ed_var 4) ed_int) (fun h => ?_) (fun h => ?_))
  · have h7 := of_decide_eq_true h
    rw [if_pos h7]
    have hne : calls ≠ [] := fun e => h1 (.inr (.inr ⟨h7, e⟩))
    have hlt := mod_len a1 hne
    have hl0 : (0 : Int) < (calls.map PyData.str).length := by
      rw [List.length_map]
      have := List.length_pos_iff.mpr hne
      omega
    have hge := Int.emod_nonneg a1 (show ((calls.map PyData.str).length : Int) ≠ 0 by omega)
    have hat : atI (calls.map PyData.str) (a1 % (calls.map PyData.str).length) = some (.str (calls.getD (a1 % calls.length).toNat Str.empty)) := by
      rw [List.length_map] at hge ⊢
      exact atI_map hge (getD_some hlt)
    exact db_one (ds_ret (ed_tup (ds := [.tuple [.str "call", .str (calls.getD (a1 % calls.length).toNat Str.empty)], .bool false, .bool false, .int 0]) (ea_cons (ed_tup (ds := [.str "call", .str (calls.getD (a1 % calls.length).toNat Str.empty)]) (ea_cons ed_str (ea_cons (ed_ixL (ed_var 2).q (ed_mod (ed_var 5) (ed_lenL (ed_var 2).q B.len) hl0) hat) ea_nil))) (ea_cons ed_bl (ea_cons ed_bl (ea_cons ed_int ea_nil))))) rfl)
  rw [if_neg (of_decide_eq_false h)]
  refine db_nil ?_
  refine db_cons (ds_if (et_eqI (ed_var 4) ed_int) (fun h => ?_) (fun h => ?_))
  · rw [if_pos (of_decide_eq_true h)]
    exact db_one (ds_ret (ed_tup (ds := [encS false (if a2 % 2 = 0 then .back else .stop), .bool false, .bool false, .int 0]) (ea_cons (ed_ixL (ds := ([.back, .stop] : List Sm).map (encS false)) (el_lst (ea_cons (ed_tup (ds := [.str "back"]) (ea_cons ed_str ea_nil)) (ea_cons (ed_tup (ds := [.str "stop"]) (ea_cons ed_str ea_nil)) ea_nil))).q (ed_mod (ed_var 6) ed_int (by decide))
      (atI_map (Int.emod_nonneg _ (by decide)) (by
        rcases (show a2 % 2 = 0 ∨ a2 % 2 = 1 by omega) with z | z
        · rw [z]; rfl
        · rw [z]; rfl))) (ea_cons ed_bl (ea_cons ed_bl (ea_cons ed_int ea_nil))))) rfl)
  rw [if_neg (of_decide_eq_false h)]
  refine db_nil ?_
  refine db_cons (ds_if (et_eqI (ed_var 4) ed_int) (fun h => ?_) (fun h => ?_))
  · rw [if_pos (of_decide_eq_true h)]
    exact db_one (ds_ret (ed_tup (ds := [.tuple [.str "wait", .int (a2 % (most + 1)), .list []], .bool false, .bool false, .int 1]) (ea_cons (ed_tup (ds := [.str "wait", .int (a2 % (most + 1)), .list []]) (ea_cons ed_str (ea_cons (ed_mod (ed_var 6) (ed_add (ed_var 3) ed_int) (by omega)) (ea_cons (el_lst (ds := []) ea_nil).dd ea_nil)))) (ea_cons ed_bl (ea_cons ed_bl (ea_cons ed_int ea_nil))))) rfl)
  rw [if_neg (of_decide_eq_false h)]
  refine db_nil ?_
  exact db_one (ds_ret (ed_tup (ds := [.tuple [.str "say", .str (genWord a1)], .bool false, .bool false, .int 0]) (ea_cons (ed_tup (ds := [.str "say", .str (genWord a1)]) (ea_cons ed_str (ea_cons (ed_var 11) ea_nil))) (ea_cons ed_bl (ea_cons ed_bl (ea_cons ed_int ea_nil))))) rfl)
end
end CM

namespace CM
open PySem L2 DL
def enD (sm : List En) : PyData := .list (sm.map encEn)
def rTest : List Sl → Rs → Prop := fun as r => ∃ (sm : List En) (cell : Int) (boxes : List (Str × Int)), sm.length ≤ 1000 ∧ boxes ∈ boxesT ∧ as = [.dat (enD sm), dInt cell, .dat (bxD boxes)] ∧ r = .dat (encS false (genTest sm cell boxes))
theorem encB_en (l : List En) : encB false (l.map En.s) = l.map fun e => encS false e.s := by rw [encB_map, List.map_map] <;> rfl
section
variable {P : Program} {w : World} {K : PySem.W.Frag} {mg : Str → Option Value} {base : Heap} {f : Addr} {fd : FuncData}
theorem df_law_test (B : Free mg) (Dd : Df P w K mg base "_law_drawn" 2 ["cell", "sizes"] rDrawn) (Dc : Df P w K mg base "_law_condition" 2 ["d", "boxes"] rCond) (F : Fun K "_law_test" "_law_test" s_law_test f fd) (hm : mg "_law_test" = some (.ref f)) (hb : Binds K fd ["some", "cell", "boxes"] []) :
    Df P w K mg base "_law_test" 3 ["some", "cell", "boxes"] rTest := by
  refine df_mk F sc_law_test hm hb (fun as r ⟨_, _, _, _, _, e, _⟩ => by rw [e]; rfl) fun cdv A outer s H E M as r ⟨sm, cell, boxes, hlen, hbx, e1, e2⟩ => ?_
  subst e1 e2
  have b0 := dr_lt (cell := cell) (sz := szTest) 0 rfl (by decide)
  have b1 := dr_lt (cell := cell) (sz := szTest) 1 rfl (by decide)
  have b5 := dr_lt (cell := cell) (sz := szTest) 5 rfl (by decide)
  obtain ⟨a0, a1, a2, a3, a4, a5, a6, a7, a8, a9, hd⟩ := len10 (drawn_len cell szTest)
  unfold dr at b0 b1 b5
  rw [hd] at b0 b1 b5
  have hge := Int.emod_nonneg a9 (show ((sm.length : Int) + 1) ≠ 0 by omega)
  have hlt := Int.emod_lt_of_pos a9 (show (0 : Int) < (sm.length : Int) + 1 by omega)
  obtain ⟨n, hn⟩ := Int.eq_ofNat_of_zero_le hge
  have hnl : n ≤ sm.length := by omega
  have hg : encS false (genTest sm cell boxes) = .tuple [.str "test", encCo (genCo [a0, a1, a2, a3, a4, a5, a6, a7, a8] boxes), .list ((sm.take n).map fun e => encS false e.s), .list ((sm.drop n).map fun e => encS false e.s)] := by
    unfold genTest dr
    rw [hd]
    simp only [encS, sq, encB_en]
    show PyData.tuple [_, _, .list ((sm.take (a9 % (sm.length + 1)).toNat).map _), .list ((sm.drop (a9 % (sm.length + 1)).toNat).map _)] = _
    rw [hn]
    rfl
  rw [hg]
  refine db_cons (ds_set 3 ((el_drawn Dd (ea_cons (ed_var 1) (ea_cons (el_lst (ds := szTest.map .int) (ea_cons ed_int (ea_cons ed_int (ea_cons ed_int (ea_cons ed_int (ea_cons ed_int (ea_cons ed_int (ea_cons ed_int (ea_cons ed_int (ea_cons ed_int (ea_cons ed_int ea_nil))))))))))).dd ea_nil)) ⟨by decide, by decide⟩ hd).dd) ?_)
  have hl1 : (0 : Int) < ((sm.map encEn).length : Int) + 1 := by omega
  refine db_cons (ds_set 4 ((ed_mod (ed_ixL (ed_var 3).q ed_int (d := .int a9)) (ed_add (ed_lenL (ed_var 0).q B.len) ed_int) hl1).is (d2 := .int (n : Int)) (by rw [List.length_map]; exact congrArg PyData.int hn)) ?_)
  have turn : ∀ {X' : Unit → Cx}, True := fun {_} => trivial
  refine db_cons (ds_set 5 (el_lst (ds := [.list ((sm.take n).map fun e => encS false e.s), .list ((sm.drop n).map fun e => encS false e.s)]) (ea_cons (el_lcAll [("entry", 6)] (xs := sm.take n) (enc := encEn) (is_list ((el_slice (ed_var 0).q eo_none (eo_some (ed_var 4))).is (by rw [cutD_take (by rw [List.length_map]; exact hnl), ← List.map_take])).dd) (by rw [List.length_take]; omega)
      (fun x hx => ⟨_, gb_name 6, ets_nil, fun _ => ed_ixT (ed_var 6) ed_int⟩)).dd
    (ea_cons (el_lcAll [("entry", 6)] (xs := sm.drop n) (enc := encEn) (is_list ((el_slice (ed_var 0).q (eo_some (ed_var 4)) eo_none).is (by rw [cutD_drop (by rw [List.length_map]; exact hnl), ← List.map_drop])).dd) (by rw [List.length_drop]; omega)
      (fun x hx => ⟨_, gb_name 6, ets_nil, fun _ => ed_ixT (ed_var 6) ed_int⟩)).dd ea_nil))).dd ?_)
  refine db_one (ds_ret (ed_tup (ds := [.str "test", encCo (genCo [a0, a1, a2, a3, a4, a5, a6, a7, a8] boxes), .list ((sm.take n).map fun e => encS false e.s), .list ((sm.drop n).map fun e => encS false e.s)]) (ea_cons ed_str (ea_cons (ed_call Dc (ea_cons (el_slice (ed_var 3).q eo_none (eo_some ed_int)).dd (ea_cons (ed_var 2) ea_nil)) ⟨a0, a1, a2, a3, a4, a5, a6, a7, a8, boxes, b0, b1, b5, hbx, rfl, rfl⟩)
    (ea_cons (ed_ixL (ed_var 5).q ed_int) (ea_cons (ed_ixL (ed_var 5).q ed_int) ea_nil))))) rfl)
end
end CM

namespace CM
open PySem L2 DL
def rWait : List Sl → Rs → Prop := fun as r => ∃ (sm : List En) (cell most : Int), sm.length ≤ 1000 ∧ (0 ≤ most ∧ most ≤ 8) ∧ as = [.dat (enD sm), dInt cell, dInt most] ∧ r = .dat (encS false (genWait sm cell most))
theorem mod_nat (j m k : Nat) : decide ((j : Int) % (m : Int) = (k : Int)) = decide (j % m = k) := by
  by_cases h : j % m = k
  · rw [decide_eq_true h, decide_eq_true]
    omega
  · rw [decide_eq_false h, decide_eq_false]
    omega
theorem szWait_ok {most : Int} (h : 0 ≤ most ∧ most ≤ 8) : szOk (szWait most) := ⟨fun s hs => by
  simp only [szWait, List.mem_cons, List.not_mem_nil, or_false] at hs
  omega, by simp [szWait]⟩
theorem szLoop_ok {most : Int} (h : 0 ≤ most ∧ most ≤ 8) : szOk (szLoop most) := ⟨fun s hs => by
  simp only [szLoop, List.mem_cons, List.not_mem_nil, or_false] at hs
  omega, by simp [szLoop]⟩
theorem len1 {α : Type} {l : List α} {i : Nat} {y : α} (h : (l[i]?) = some y) : i < l.length := (List.getElem?_eq_some_iff.mp h).1
theorem range_at {n i : Nat} {d : PyData} (h : ((List.range n).map fun (j : Nat) => PyData.int (j : Int))[i]? = some d) : i < n ∧ d = .int i := by
  have hi : i < n := by simpa using len1 h
  rw [List.getElem?_map, List.getElem?_range hi] at h
  exact ⟨hi, (Option.some.inj h).symm⟩
section
variable {P : Program} {w : World} {K : PySem.W.Frag} {mg : Str → Option Value} {base : Heap} {f : Addr} {fd : FuncData}
theorem df_law_wait (B : Free mg) (Dd : Df P w K mg base "_law_drawn" 2 ["cell", "sizes"] rDrawn) (Dw : Df P w K mg base "_law_word" 1 ["number"] rWord) (F : Fun K "_law_wait" "_law_wait" s_law_wait f fd) (hm : mg "_law_wait" = some (.ref f)) (hb : Binds K fd ["some", "cell", "most"] []) :
    Df P w K mg base "_law_wait" 3 ["some", "cell", "most"] rWait := by
  refine df_mk F sc_law_wait hm hb (fun as r ⟨_, _, _, _, _, e, _⟩ => by rw [e]; rfl) fun cdv A outer s H E M as r ⟨sm, cell, most, hlen, hmo, e1, e2⟩ => ?_
  subst e1 e2
  have b2 := dr_lt (cell := cell) (sz := szWait most) 2 rfl (by decide)
  obtain ⟨a0, a1, a2, a3, a4, hd⟩ := len5 (drawn_len cell (szWait most))
  unfold dr at b2
  rw [hd] at b2
  obtain ⟨mn, hmn⟩ : ∃ mn, mn = menuOf a0 a1 a2 a3 a4 := ⟨_, rfl⟩
  have hg : encS false (genWait sm cell most) = .tuple [.str "wait", .int a0, .list (((List.range mn.length).map fun k => (mn.getD k .none, pick sm mn.length k)).map (encBr1 false))] := by
    unfold genWait dr
    rw [hd]
    simp only [encS, sq, encBr_map]
    rw [hmn]
    rfl
  rw [hg]
  refine db_cons (ds_asg (el_drawn Dd (ea_cons (ed_var 1) (ea_cons (el_lst (ds := (szWait most).map .int) (ea_cons (ed_add (ed_var 2) ed_int) (ea_cons ed_int (ea_cons ed_int (ea_cons ed_int (ea_cons ed_int ea_nil)))))).dd ea_nil)) (szWait_ok hmo) hd).dd
    (gb_unl (gbs_cons 3 (gbs_cons 4 (gbs_cons 5 (gbs_cons 6 (gbs_cons 7 gbs_nil)))))) ?_)
  refine db_cons (ds_setL 8 (el_lst (ds := ([.key a3, .word (genWord a4), .other, .key (a3 + 1), .none] : List Tk).map encTk) (ea_cons (ed_tup (ds := [.str "key", .int a3]) (ea_cons ed_str (ea_cons (ed_var 6) ea_nil)))
    (ea_cons (ed_tup (ds := [.str "word", .str (genWord a4)]) (ea_cons ed_str (ea_cons (ed_call Dw (ea_cons (ed_var 7) ea_nil) ⟨a4, rfl, rfl⟩) ea_nil))) (ea_cons (ed_tup (ds := [.str "other"]) (ea_cons ed_str ea_nil)) (ea_cons (ed_tup (ds := [.str "key", .int (a3 + 1)]) (ea_cons ed_str (ea_cons (ed_add (ed_var 6) ed_int) ea_nil))) (ea_cons (ed_tup (ds := [.str "none"]) (ea_cons ed_str ea_nil)) ea_nil)))))) ?_)
  refine db_if (fun δ => δ = [some (.dat (enD sm)), some (dInt cell), some (dInt most), some (dInt a0), some (dInt a1), some (dInt a2), some (dInt a3), some (dInt a4), some (.lst ((menu0 a0 a3 a4).map encTk)), none, none, none]) (et_eqI (ed_var 3) ed_int) (fun h => ?_) (fun h => ?_) (fun δ e => ?_)
  · refine db_one (ds_setL 8 (el_slice (eq_var 8) eo_none (eo_some ed_int)) ?_)
    show _ = _
    unfold menu0
    rw [if_pos (of_decide_eq_true h)]
    rfl
  · refine db_nil ?_
    show _ = _
    unfold menu0
    rw [if_neg (of_decide_eq_false h)]
    rfl
  subst e
  have hml : 4 ≤ (menu0 a0 a3 a4).length ∧ (menu0 a0 a3 a4).length ≤ 5 := by unfold menu0; split <;> exact ⟨by simp, by simp⟩
  have hL := List.length_map (f := encTk) (as := menu0 a0 a3 a4)
  have hmne : (0 : Int) < ((menu0 a0 a3 a4).map encTk).length := by rw [List.length_map]; omega
  have hge := Int.emod_nonneg a1 (show ((menu0 a0 a3 a4).length : Int) ≠ 0 by omega)
  have hlt := Int.emod_lt_of_pos a1 (show (0 : Int) < ((menu0 a0 a3 a4).length : Int) by omega)
  obtain ⟨n, hn⟩ := Int.eq_ofNat_of_zero_le hge
  have hnl : n ≤ ((menu0 a0 a3 a4).map encTk).length := by rw [List.length_map]; omega
  refine db_cons (ds_set 4 ((ed_mod (ed_var 4) (ed_lenL (eq_var 8) B.len) hmne).is (d2 := .int (n : Int)) (by rw [List.length_map]; exact congrArg PyData.int hn)) ?_)
  have emn : mn.map encTk = (((menu0 a0 a3 a4).map encTk).drop n ++ ((menu0 a0 a3 a4).map encTk).take n).take (1 + a2).toNat := by
    rw [hmn]
    unfold menuOf
    simp only [hn, Int.toNat_natCast]
    rw [List.map_take, List.map_append, List.map_drop, List.map_take]
  have hmore : (1 : Int) + a2 = (((1 + a2).toNat : Nat) : Int) := by
    have h1 := b2.1
    have h2 : [a0, a1, a2, a3, a4].getD 2 0 = a2 := rfl
    omega
  have hm4 : (1 + a2).toNat ≤ 4 := by
    have h1 := b2.2
    have h2 : [a0, a1, a2, a3, a4].getD 2 0 = a2 := rfl
    omega
  have hml2 : mn.length = (1 + a2).toNat := by
    have := congrArg List.length emn
    rw [List.length_map, List.length_take, List.length_append, List.length_drop, List.length_take] at this
    rw [List.length_map] at hnl this
    omega
  have hmn0 : 0 < mn.length := by
    have h1 := b2.1
    have h2 : [a0, a1, a2, a3, a4].getD 2 0 = a2 := rfl
    omega
  refine db_cons (ds_set 8 (((el_slice (el_cat (el_slice (eq_var 8) (eo_some (ed_var 4)) eo_none).q (el_slice (eq_var 8) eo_none (eo_some (ed_var 4))).q (by
      rw [cutD_drop hnl, cutD_take hnl, List.length_drop, List.length_take]; omega)).q eo_none (eo_some ((ed_add ed_int (ed_var 5)).is (congrArg PyData.int hmore)))).is (es := mn.map encTk) (by
      rw [cutD_drop hnl, cutD_take hnl, cutD_take, emn]
      rw [List.length_append, List.length_drop, List.length_take]; omega)).dd) ?_)
  refine db_cons (ds_setL 9 (el_lst (ds := []) ea_nil) ?_)
  have env : ∀ acc, ∃ δ : DEnv, δ = [some (.dat (enD sm)), none, none, some (dInt a0), none, none, none, none, some (.dat (.list (mn.map encTk))), some (.lst acc), none, none] := fun acc => ⟨_, rfl⟩
  refine db_sub [some (.dat (enD sm)), none, none, some (dInt a0), none, none, none, none, some (.dat (.list (mn.map encTk))), some (.lst []), none, none] ?_
  refine db_for (is_range (n := mn.length) ((ed_lenL (ed_var 8).q B.len).is (by rw [List.length_map])) (by omega) B.range)
    (fun i δ => δ = [some (.dat (enD sm)), none, none, some (dInt a0), none, none, none, none, some (.dat (.list (mn.map encTk))), some (.lst (((List.range i).map fun k => (mn.getD k .none, pick sm mn.length k)).map (encBr1 false))), none, none]) rfl (fun i d δ hd' e => ?_) (fun δ e => ?_)
  · subst e
    obtain ⟨hi, rfl⟩ := range_at hd'
    refine ⟨_, _, gb_name 10, ?_⟩
    have hat : atI (mn.map encTk) (i : Int) = some (encTk (mn.getD i .none)) := atI_map (by omega) (getD_some hi)
    have hmp : (0 : Int) < (mn.map encTk).length := by rw [List.length_map]; omega
    refine db_cons (ds_app 9 (ed_tup (ds := [encTk (mn.getD i .none), .list (encB false (pick sm mn.length i))]) (ea_cons (ed_ixL (ed_var 8).q (ed_var 10) hat) (ea_cons (ED.is (d1 := .list (((List.range sm.length).filter fun j => decide (j % mn.length = i)).map fun j => encS false (((sm[j]?).map En.s).getD .stop))) (el_lc [("j", 11)] (xs := List.range sm.length) (enc := fun (j : Nat) => .int (j : Int)) (c := fun j => decide (j % mn.length = i)) (f := fun j => encS false (((sm[j]?).map En.s).getD .stop))
      (is_range ((ed_lenL (ed_var 0).q B.len).is (by rw [List.length_map])) (by omega) B.range) (by rw [List.length_range]; omega) (fun j hj => ?_)).dd (by rw [encB_map]; unfold pick; rw [List.map_map]; rfl)) ea_nil))) ?_ ?_)
    · refine ⟨_, gb_name 11, ets_one ((et_eqI (ed_mod (ed_var 11) (ed_lenL (ed_var 8).q B.len) hmp) (ed_var 10)).is (by rw [List.length_map]; exact mod_nat j mn.length i)), fun _ => ?_⟩
      have hj' : j < sm.length := List.mem_range.mp hj
      refine ed_ixT (ed_ixL (ed_var 0).q (ed_var 11) (d := encEn sm[j]) (atI_map (by omega) (by rw [Int.toNat_natCast]; exact List.getElem?_eq_getElem hj'))) ed_int ?_
      rw [List.getElem?_eq_getElem hj']
      rfl
    · rw [List.length_map, List.length_map, List.length_range]
      omega
    · refine db_end _ ?_ (Sub.keep (Sub.keep (Sub.keep (Sub.keep (Sub.keep (Sub.keep (Sub.keep (Sub.keep (Sub.keep (Sub.keep (Sub.skip (Sub.keep Sub.nil))))))))))))
      rw [List.range_succ, List.map_append, List.map_append]
      rfl
  · subst e
    have el : ((List.range mn.length).map fun (j : Nat) => PyData.int (j : Int)).length = mn.length := by simp
    rw [el]
    refine db_freeze 9 ?_
    exact db_one (ds_ret (ed_tup (ds := [.str "wait", .int a0, _]) (ea_cons ed_str (ea_cons (ed_var 3) (ea_cons (ed_var 9) ea_nil)))) rfl)
end
end CM

namespace CM
open PySem L2 DL
def rLoop : List Sl → Rs → Prop := fun as r => ∃ (sm : List En) (cell most : Int), sm.length ≤ 1000 ∧ (0 ≤ most ∧ most ≤ 8) ∧ as = [.dat (enD sm), dInt cell, dInt most] ∧ r = .dat (encS false (genLoop sm cell most))
def rEntry : List Sl → Rs → Prop := fun as r => ∃ (cell : Int) (sm : List En) (boxes : List (Str × Int)) (most way : Int), sm.length ≤ 1000 ∧ boxes ∈ boxesT ∧ (0 ≤ most ∧ most ≤ 8) ∧ as = [dInt cell, .dat (enD sm), .dat (bxD boxes), dInt most, dInt way] ∧ r = .dat (encEn (genEntry cell sm boxes most way))
/-- the first that goes again, of the first i -/
def fI (sm : List En) (i : Nat) : Nat := if sm.findIdx (fun e => e.g) < i then sm.findIdx (fun e => e.g) else sm.length
theorem fI_zero (sm : List En) : fI sm 0 = sm.length := by unfold fI; rw [if_neg (by omega)]
theorem fI_all (sm : List En) : fI sm sm.length = sm.findIdx fun e => e.g := by
  unfold fI
  split
  · rfl
  · have := List.findIdx_le_length (xs := sm) (p := fun e => e.g)
    omega
theorem fI_yes {sm : List En} {i : Nat} (h : i < sm.length) (hg : (sm[i]).g = true) : fI sm (i + 1) = min (fI sm i) i := by
  have h1 : sm.findIdx (fun e => e.g) ≤ i := Nat.le_of_not_lt fun z => by
    have q : (sm[i]).g = false := List.not_of_lt_findIdx z
    rw [q] at hg
    cases hg
  unfold fI
  split <;> split <;> omega
theorem fI_no {sm : List En} {i : Nat} (h : i < sm.length) (hg : (sm[i]).g = false) : fI sm (i + 1) = fI sm i := by
  have h1 : sm.findIdx (fun e => e.g) ≠ i := fun e => by
    have hlt : sm.findIdx (fun e => e.g) < sm.length := by omega
    have := List.findIdx_getElem (xs := sm) (p := fun e => e.g) (w := hlt)
    simp only [e] at this
    rw [hg] at this
    cases this
  unfold fI
  split <;> split <;> omega
theorem encB_app (f : Bool) (a b : List Sm) : encB f (a ++ b) = encB f a ++ encB f b := by simp [encB_map]
section
variable {P : Program} {w : World} {K : PySem.W.Frag} {mg : Str → Option Value} {base : Heap} {f : Addr} {fd : FuncData}
theorem df_law_loop (B : Free mg) (Dd : Df P w K mg base "_law_drawn" 2 ["cell", "sizes"] rDrawn) (Dw : Df P w K mg base "_law_word" 1 ["number"] rWord) (F : Fun K "_law_loop" "_law_loop" s_law_loop f fd) (hm : mg "_law_loop" = some (.ref f)) (hb : Binds K fd ["some", "cell", "most"] []) :
    Df P w K mg base "_law_loop" 3 ["some", "cell", "most"] rLoop := by
  refine df_mk F sc_law_loop hm hb (fun as r ⟨_, _, _, _, _, e, _⟩ => by rw [e]; rfl) fun cdv A outer s H E M as r ⟨sm, cell, most, hlen, hmo, e1, e2⟩ => ?_
  subst e1 e2
  obtain ⟨a0, a1, a2, a3, a4, a5, hd⟩ := len6 (drawn_len cell (szLoop most))
  have hge := Int.emod_nonneg a1 (show ((fI sm sm.length : Int) + 1) ≠ 0 by omega)
  have hlt := Int.emod_lt_of_pos a1 (show (0 : Int) < (fI sm sm.length : Int) + 1 by omega)
  obtain ⟨n, hn⟩ := Int.eq_ofNat_of_zero_le hge
  have hfl : fI sm sm.length ≤ sm.length := by rw [fI_all]; exact List.findIdx_le_length
  have hnl : n ≤ sm.length := by omega
  obtain ⟨hl, hhl⟩ : ∃ hl, hl = heldOf a0 a2 a3 a4 a5 most := ⟨_, rfl⟩
  have hg : encS false (genLoop sm cell most) = .tuple [.str "loop", .list (((sm.map fun e => encS false e.s).take n ++ [encS false hl]) ++ (sm.map fun e => encS false e.s).drop n)] := by
    unfold genLoop dr
    rw [hd]
    rw [← fI_all]
    simp only [encS, sq]
    show PyData.tuple [_, .list (encB false ((sm.map En.s).take (a1 % (fI sm sm.length + 1)).toNat ++ heldOf a0 a2 a3 a4 a5 most :: (sm.map En.s).drop (a1 % (fI sm sm.length + 1)).toNat))] = _
    rw [hn, ← hhl]
    show PyData.tuple [_, .list (encB false ((sm.map En.s).take n ++ hl :: (sm.map En.s).drop n))] = _
    rw [encB_map, List.map_append, List.map_cons, List.map_take, List.map_drop, List.map_map, List.append_assoc]
    rfl
  rw [hg]
  refine db_cons (ds_asg (el_drawn Dd (ea_cons (ed_var 1) (ea_cons (el_lst (ds := (szLoop most).map .int) (ea_cons (ed_add (ed_var 2) ed_int) (ea_cons ed_int (ea_cons ed_int (ea_cons ed_int (ea_cons ed_int (ea_cons ed_int ea_nil))))))).dd ea_nil)) (szLoop_ok hmo) hd).dd
    (gb_unl (gbs_cons 3 (gbs_cons 4 (gbs_cons 5 (gbs_cons 6 (gbs_cons 7 (gbs_cons 8 gbs_nil))))))) ?_)
  refine db_cons (ds_set 9 ((ed_lenL (ed_var 0).q B.len).is (d2 := .int (fI sm 0 : Nat)) (by rw [List.length_map, fI_zero])) ?_)
  refine db_for (is_range (n := sm.length) ((ed_lenL (ed_var 0).q B.len).is (by rw [List.length_map])) (by omega) B.range)
    (fun i δ => ∃ u, δ = [some (.dat (enD sm)), some (dInt cell), some (dInt most), some (dInt a0), some (dInt a1), some (dInt a2), some (dInt a3), some (dInt a4), some (dInt a5), some (.dat (.int (fI sm i : Nat))), u, none, none, none, none, none]) ⟨_, rfl⟩ (fun i d δ hd' ⟨u, e⟩ => ?_) (fun δ ⟨u, e⟩ => ?_)
  · subst e
    obtain ⟨hi, rfl⟩ := range_at hd'
    refine ⟨_, _, gb_name 10, ?_⟩
    refine db_one (ds_if (et_val (ed_ixT (ed_ixL (ed_var 0).q (ed_var 10) (d := encEn sm[i]) (atI_map (by omega) (by rw [Int.toNat_natCast]; exact List.getElem?_eq_getElem hi))) ed_int (d := .bool (sm[i]).g))) (fun h => ?_) (fun h => ?_))
    · refine db_one (ds_set 9 ((ed_min2 (ea_cons (ed_var 9) (ea_cons (ed_var 10) ea_nil)) B.min).is (d2 := .int (fI sm (i + 1) : Nat)) (by rw [fI_yes hi h]; congr 1; omega)) ⟨_, rfl⟩)
    · refine db_nil ⟨some (dInt (i : Int)), ?_⟩
      rw [fI_no hi h]
      rfl
  subst e
  have el : ((List.range sm.length).map fun (j : Nat) => PyData.int (j : Int)).length = sm.length := by simp
  rw [el]
  refine db_sub [some (.dat (enD sm)), none, some (dInt most), some (dInt a0), some (dInt a1), some (dInt a2), some (dInt a3), some (dInt a4), some (dInt a5), some (.dat (.int (fI sm sm.length : Nat))), none, none, none, none, none, none] ?_
  refine db_cons (ds_set 11 ((ed_mod (ed_var 4) (ed_add (ed_var 9) ed_int) (by omega)).is (d2 := .int (n : Int)) (congrArg PyData.int hn)) ?_)
  obtain ⟨brs, hbrs⟩ : ∃ brs : List (Tk × List Sm), brs = (if a4 % 2 = 0 then [(.key a2, [.leave])] else [(.word (genWord a3), [.say "b"])]) := ⟨_, rfl⟩
  refine db_cons (ds_set 12 ((el_slice (el_slice (el_lst (ds := [.tuple [.tuple [.str "key", .int a2], .list [.tuple [.str "leave"]]], .tuple [.tuple [.str "word", .str (genWord a3)], .list [.tuple [.str "say", .str "b"]]]])
      (ea_cons (ed_tup (ds := [.tuple [.str "key", .int a2], .list [.tuple [.str "leave"]]]) (ea_cons (ed_tup (ds := [.str "key", .int a2]) (ea_cons ed_str (ea_cons (ed_var 5) ea_nil))) (ea_cons (el_lst (ds := [.tuple [.str "leave"]]) (ea_cons (ed_tup (ds := [.str "leave"]) (ea_cons ed_str ea_nil)) ea_nil)).dd ea_nil)))
      (ea_cons (ed_tup (ds := [.tuple [.str "word", .str (genWord a3)], .list [.tuple [.str "say", .str "b"]]]) (ea_cons (ed_tup (ds := [.str "word", .str (genWord a3)]) (ea_cons ed_str (ea_cons (ed_call Dw (ea_cons (ed_var 6) ea_nil) ⟨a3, rfl, rfl⟩) ea_nil))) (ea_cons (el_lst (ds := [.tuple [.str "say", .str "b"]]) (ea_cons (ed_tup (ds := [.str "say", .str "b"]) (ea_cons ed_str (ea_cons ed_str ea_nil))) ea_nil)).dd ea_nil))) ea_nil))).q
      (eo_some (ed_mod (ed_var 7) ed_int (by decide))) eo_none).q eo_none (eo_some ed_int)).dd.is (d2 := .list (brs.map (encBr1 false))) (by
    rw [hbrs]
    rcases (show a4 % 2 = 0 ∨ a4 % 2 = 1 by omega) with z | z
    · rw [z, if_pos rfl]; rfl
    · rw [z, if_neg (by decide)]; rfl)) ?_)
  refine db_cons (ds_set 13 (ed_tup (ds := [.str "wait", .int a0, .list (brs.map (encBr1 false))]) (ea_cons ed_str (ea_cons (ed_var 3) (ea_cons (ed_var 12) ea_nil)))) ?_)
  have hh0 : encS false (.wait a0 brs) = .tuple [.str "wait", .int a0, .list (brs.map (encBr1 false))] := by simp only [encS, sq, encBr_map]; rfl
  have hheld : hl = if a5 = 3 then .call "held" else if a5 = 2 then .loop [.wait a0 [], .leave] else if a5 = 1 then .test (.under (.num a2) (.num 5)) [.wait a0 []] [.wait most []] else .wait a0 brs := by rw [hhl, hbrs]; rfl
  generalize hb : PyData.list (brs.map (encBr1 false)) = bd at hh0
  rw [← hh0]
  clear hh0
  have E13 : ∀ (h1 : Sm), ∃ δ : DEnv, δ = [some (.dat (enD sm)), none, some (dInt most), some (dInt a0), some (dInt a1), some (dInt a2), some (dInt a3), some (dInt a4), some (dInt a5), some (.dat (.int (fI sm sm.length : Nat))), none, some (dInt n), some (.dat bd), some (.dat (encS false h1)), none, none] := fun _ => ⟨_, rfl⟩
  refine db_if (fun δ => δ = [some (.dat (enD sm)), none, some (dInt most), some (dInt a0), some (dInt a1), some (dInt a2), some (dInt a3), some (dInt a4), some (dInt a5), some (.dat (.int (fI sm sm.length : Nat))), none, some (dInt n), some (.dat bd), some (.dat (encS false (if a5 = 1 then .test (.under (.num a2) (.num 5)) [.wait a0 []] [.wait most []] else .wait a0 brs))), none, none])
    (et_eqI (ed_var 8) ed_int) (fun h => ?_) (fun h => ?_) (fun δ e => ?_)
  · rw [if_pos (of_decide_eq_true h)]
    exact db_one (ds_set 13 (ed_tup (ds := [.str "test", .tuple [.str "under", .tuple [.str "number", .int a2], .tuple [.str "number", .int 5]], .list [.tuple [.str "wait", .int a0, .list []]], .list [.tuple [.str "wait", .int most, .list []]]]) (ea_cons ed_str
      (ea_cons (ed_tup (ds := [.str "under", .tuple [.str "number", .int a2], .tuple [.str "number", .int 5]]) (ea_cons ed_str (ea_cons (ed_tup (ds := [.str "number", .int a2]) (ea_cons ed_str (ea_cons (ed_var 5) ea_nil))) (ea_cons (ed_tup (ds := [.str "number", .int 5]) (ea_cons ed_str (ea_cons ed_int ea_nil))) ea_nil))))
      (ea_cons (el_lst (ds := [.tuple [.str "wait", .int a0, .list []]]) (ea_cons (ed_tup (ds := [.str "wait", .int a0, .list []]) (ea_cons ed_str (ea_cons (ed_var 3) (ea_cons (el_lst (ds := []) ea_nil).dd ea_nil)))) ea_nil)).dd
      (ea_cons (el_lst (ds := [.tuple [.str "wait", .int most, .list []]]) (ea_cons (ed_tup (ds := [.str "wait", .int most, .list []]) (ea_cons ed_str (ea_cons (ed_var 2) (ea_cons (el_lst (ds := []) ea_nil).dd ea_nil)))) ea_nil)).dd ea_nil))))) rfl)
  · rw [if_neg (of_decide_eq_false h)]
    exact db_nil rfl
  subst e
  generalize hh1 : (if a5 = 1 then Sm.test (.under (.num a2) (.num 5)) [.wait a0 []] [.wait most []] else .wait a0 brs) = h1
  rw [hh1] at hheld
  refine db_if (fun δ => δ = [some (.dat (enD sm)), none, some (dInt most), some (dInt a0), some (dInt a1), some (dInt a2), some (dInt a3), some (dInt a4), some (dInt a5), some (.dat (.int (fI sm sm.length : Nat))), none, some (dInt n), some (.dat bd), some (.dat (encS false (if a5 = 2 then .loop [.wait a0 [], .leave] else h1))), none, none])
    (et_eqI (ed_var 8) ed_int) (fun h => ?_) (fun h => ?_) (fun δ e => ?_)
  · rw [if_pos (of_decide_eq_true h)]
    exact db_one (ds_set 13 (ed_tup (ds := [.str "loop", .list [.tuple [.str "wait", .int a0, .list []], .tuple [.str "leave"]]]) (ea_cons ed_str
      (ea_cons (el_lst (ds := [.tuple [.str "wait", .int a0, .list []], .tuple [.str "leave"]]) (ea_cons (ed_tup (ds := [.str "wait", .int a0, .list []]) (ea_cons ed_str (ea_cons (ed_var 3) (ea_cons (el_lst (ds := []) ea_nil).dd ea_nil)))) (ea_cons (ed_tup (ds := [.str "leave"]) (ea_cons ed_str ea_nil)) ea_nil))).dd ea_nil))) rfl)
  · rw [if_neg (of_decide_eq_false h)]
    exact db_nil rfl
  subst e
  generalize hh2 : (if a5 = 2 then Sm.loop [.wait a0 [], .leave] else h1) = h2
  rw [hh2] at hheld
  refine db_if (fun δ => δ = [some (.dat (enD sm)), none, some (dInt most), some (dInt a0), some (dInt a1), some (dInt a2), some (dInt a3), some (dInt a4), some (dInt a5), some (.dat (.int (fI sm sm.length : Nat))), none, some (dInt n), some (.dat bd), some (.dat (encS false hl)), none, none])
    (et_eqI (ed_var 8) ed_int) (fun h => ?_) (fun h => ?_) (fun δ e => ?_)
  · rw [hheld, if_pos (of_decide_eq_true h)]
    exact db_one (ds_set 13 (ed_tup (ds := [.str "call", .str "held"]) (ea_cons ed_str (ea_cons ed_str ea_nil))) rfl)
  · rw [hheld, if_neg (of_decide_eq_false h)]
    exact db_nil rfl
  subst e
  have hL := List.length_map (f := fun e : En => encS false e.s) (as := sm)
  refine db_cons (ds_setLcAll 14 [("entry", 15)] (xs := sm) (enc := encEn) (f := fun e => encS false e.s) (is_list (ed_var 0)) (by omega) (fun x hx => ⟨_, gb_name 15, ets_nil, fun _ => ed_ixT (ed_var 15) ed_int⟩) ?_)
  refine db_freeze 14 ?_
  generalize (sm.map fun e : En => encS false e.s) = bod at hL
  refine db_one (ds_ret (ed_tup (ds := [.str "loop", .list ((bod.take n ++ [encS false hl]) ++ bod.drop n)]) (ea_cons ed_str (ea_cons ((el_cat (el_cat ((el_slice (ed_var 14).q eo_none (eo_some (ed_var 11))).q.is (cutD_take (by omega))) (el_lst (ds := [encS false hl]) (ea_cons (ed_var 13) ea_nil)).q ?_).q ((el_slice (ed_var 14).q (eo_some (ed_var 11)) eo_none).q.is (cutD_drop (by omega))) ?_).dd) ea_nil))) rfl)
  · rw [List.length_take]
    show _ + 1 ≤ _
    omega
  · rw [List.length_append, List.length_take, List.length_drop]
    show (_ + 1) + _ ≤ _
    omega
theorem df_law_entry (B : Free mg) (Dl : Df P w K mg base "_law_loop" 3 ["some", "cell", "most"] rLoop) (Dwt : Df P w K mg base "_law_wait" 3 ["some", "cell", "most"] rWait) (Dt : Df P w K mg base "_law_test" 3 ["some", "cell", "boxes"] rTest) (F : Fun K "_law_entry" "_law_entry" s_law_entry f fd) (hm : mg "_law_entry" = some (.ref f)) (hb : Binds K fd ["cell", "some", "boxes", "most", "way"] []) :
    Df P w K mg base "_law_entry" 4 ["cell", "some", "boxes", "most", "way"] rEntry := by
  refine df_mk F sc_law_entry hm hb (fun as r ⟨_, _, _, _, _, _, _, _, e, _⟩ => by rw [e]; rfl) fun cdv A outer s H E M as r ⟨cell, sm, boxes, most, way, hlen, hbx, hmo, e1, e2⟩ => ?_
  subst e1 e2
  refine db_cons (ds_set 5 ((ed_add ed_int (ed_maxN (ys := sm.map En.dp) ((el_lcAll [("entry", 7)] (xs := sm) (enc := encEn) (f := fun e => .int (e.dp : Nat)) (is_list (ed_var 1)) (by omega) (fun x hx => ⟨_, gb_name 7, ets_nil, fun _ => ed_ixT (ed_var 7) ed_int⟩)).q.is (by rw [List.map_map]; rfl)) ed_int B.max)).is (d2 := .int ((2 + maxDp sm : Nat) : Int)) (by
    unfold maxDp
    rw [List.foldl_map]
    show PyData.int _ = PyData.int _
    congr 1)) ?_)
  refine db_cons (ds_if (et_eqI (ed_var 4) ed_int) (fun h => ?_) (fun h => ?_))
  · unfold genEntry
    rw [if_pos (of_decide_eq_true h)]
    exact db_one (ds_ret (ed_tup (ds := [encS false (genLoop sm cell most), .bool false, .bool false, .int ((2 + maxDp sm : Nat) : Int)]) (ea_cons (ed_call Dl (ea_cons (ed_var 1) (ea_cons (ed_var 0) (ea_cons (ed_var 3) ea_nil))) ⟨sm, cell, most, hlen, hmo, rfl, rfl⟩) (ea_cons ed_bl (ea_cons ed_bl (ea_cons (ed_var 5) ea_nil))))) rfl)
  refine db_nil ?_
  have h7 := of_decide_eq_false h
  have ebl : ∀ (p : En → Bool), ((sm.map p).any id) = sm.any p := fun p => by rw [List.any_map]; rfl
  refine db_cons (ds_setLcAll 6 [("k", 8)] (xs := [1, 2]) (enc := fun (k : Nat) => .int (k : Int)) (f := fun k => .bool (if k = 1 then sm.any En.g else sm.any En.o)) (is_list (el_lst (ds := [.int 1, .int 2]) (ea_cons ed_int (ea_cons ed_int ea_nil))).dd) (by decide) (fun k hk => ⟨_, gb_name 8, ets_nil, fun _ => ?_⟩) ?_)
  · simp only [List.mem_cons, List.not_mem_nil, or_false] at hk
    rcases hk with rfl | rfl
    · exact (ed_maxB (ys := sm.map En.g) ((el_lcAll [("entry", 7)] (xs := sm) (enc := encEn) (f := fun e => .bool e.g) (is_list (ed_var 1)) (by omega) (fun x hx => ⟨_, gb_name 7, ets_nil, fun _ => ed_ixT (ed_var 7) (ed_var 8)⟩)).q.is (by rw [List.map_map]; rfl)) ed_bl B.max).is (by rw [ebl]; rfl)
    · exact (ed_maxB (ys := sm.map En.o) ((el_lcAll [("entry", 7)] (xs := sm) (enc := encEn) (f := fun e => .bool e.o) (is_list (ed_var 1)) (by omega) (fun x hx => ⟨_, gb_name 7, ets_nil, fun _ => ed_ixT (ed_var 7) (ed_var 8)⟩)).q.is (by rw [List.map_map]; rfl)) ed_bl B.max).is (by rw [ebl]; rfl)
  refine db_freeze 6 ?_
  refine db_cons (ds_if (et_eqI (ed_var 4) ed_int) (fun h => ?_) (fun h => ?_))
  · unfold genEntry
    rw [if_neg h7, if_pos (of_decide_eq_true h)]
    exact db_one (ds_ret (ed_tup (ds := [encS false (genWait sm cell most), .bool (sm.any En.g), .bool (sm.any En.o), .int ((2 + maxDp sm : Nat) : Int)]) (ea_cons (ed_call Dwt (ea_cons (ed_var 1) (ea_cons (ed_var 0) (ea_cons (ed_var 3) ea_nil))) ⟨sm, cell, most, hlen, hmo, rfl, rfl⟩) (ea_cons (ed_ixL (ed_var 6).q ed_int) (ea_cons (ed_ixL (ed_var 6).q ed_int) (ea_cons (ed_var 5) ea_nil))))) rfl)
  refine db_nil ?_
  unfold genEntry
  rw [if_neg h7, if_neg (of_decide_eq_false h)]
  exact db_one (ds_ret (ed_tup (ds := [encS false (genTest sm cell boxes), .bool (sm.any En.g), .bool (sm.any En.o), .int ((2 + maxDp sm : Nat) : Int)]) (ea_cons (ed_call Dt (ea_cons (ed_var 1) (ea_cons (ed_var 0) (ea_cons (ed_var 2) ea_nil))) ⟨sm, cell, boxes, hlen, hbx, rfl, rfl⟩) (ea_cons (ed_ixL (ed_var 6).q ed_int) (ea_cons (ed_ixL (ed_var 6).q ed_int) (ea_cons (ed_var 5) ea_nil))))) rfl)
end
end CM

namespace CM
open PySem L2 DL
def rTalk : List Sl → Rs → Prop := fun as r => ∃ (cells : List Int) (boxes : List (Str × Int)) (calls : List Str) (most : Int), cells.length ≤ 100 ∧ boxes ∈ boxesT ∧ okCalls calls ∧ (0 ≤ most ∧ most ≤ 8) ∧ SeqAt.shaped (.list (((pileOf cells boxes calls most).filter En.o).map encEn)) = true ∧
  as = [.dat (dInts cells), .dat (bxD boxes), .dat (dStrs calls), dInt most] ∧ r = .lst (encB false (genTalk cells boxes calls most))
def pileAt (cells : List Int) (boxes : List (Str × Int)) (calls : List Str) (most : Int) (i : Nat) : List En := (cells.take i).foldl (pileStep boxes calls most) []
theorem pileStep_len (boxes : List (Str × Int)) (calls : List Str) (most : Int) (pile : List En) (cell : Int) : (pileStep boxes calls most pile cell).length ≤ pile.length + 1 := by
  unfold pileStep
  simp only
  split
  · simp
  · simp only [List.length_append, List.length_take, List.length_singleton]
    omega
theorem pileAt_succ {cells : List Int} {boxes : List (Str × Int)} {calls : List Str} {most : Int} {i : Nat} (h : i < cells.length) : pileAt cells boxes calls most (i + 1) = pileStep boxes calls most (pileAt cells boxes calls most i) cells[i] := by
  unfold pileAt
  rw [List.take_add_one, List.getElem?_eq_getElem h, List.foldl_append]
  rfl
theorem pileAt_len (cells : List Int) (boxes : List (Str × Int)) (calls : List Str) (most : Int) : ∀ i, i ≤ cells.length → (pileAt cells boxes calls most i).length ≤ i
  | 0, _ => Nat.le_refl _
  | i + 1, h => by
    rw [pileAt_succ (by omega)]
    have h1 := pileStep_len boxes calls most (pileAt cells boxes calls most i) cells[i]
    have h2 := pileAt_len cells boxes calls most i (by omega)
    omega
theorem ints_at {ns : List Int} {i : Nat} {d : PyData} (h : (ns.map PyData.int)[i]? = some d) : ∃ hi : i < ns.length, d = .int ns[i] := by
  have hi : i < ns.length := by simpa using len1 h
  rw [List.getElem?_map, List.getElem?_eq_getElem hi] at h
  exact ⟨hi, (Option.some.inj h).symm⟩
section
variable {P : Program} {w : World} {K : PySem.W.Frag} {mg : Str → Option Value} {base : Heap} {f : Addr} {fd : FuncData}
theorem df_law_talk (B : Free mg) (Dd : Df P w K mg base "_law_drawn" 2 ["cell", "sizes"] rDrawn) (Ds : Df P w K mg base "_law_simple" 3 ["cell", "boxes", "calls", "most"] rSimple) (De : Df P w K mg base "_law_entry" 4 ["cell", "some", "boxes", "most", "way"] rEntry) (Dl : Df P w K mg base "_law_loop" 3 ["some", "cell", "most"] rLoop)
    (F : Fun K "_law_talk" "_law_talk" s_law_talk f fd) (hm : mg "_law_talk" = some (.ref f)) (hb : Binds K fd ["cells", "boxes", "calls", "most"] []) :
    Df P w K mg base "_law_talk" 5 ["cells", "boxes", "calls", "most"] rTalk := by
  refine df_mk F sc_law_talk hm hb (fun as r ⟨_, _, _, _, _, _, _, _, _, e, _⟩ => by rw [e]; rfl) fun cdv A outer s H E M as r ⟨cells, boxes, calls, most, hcl, hbx, hca, hmo, hsh, e1, e2⟩ => ?_
  subst e1 e2
  refine db_cons (ds_setL 4 (el_lst (ds := []) ea_nil) ?_)
  refine db_for (ds := cells.map .int) (is_list (ed_var 0)) (fun i δ => ∃ u5 u6 u7 u8 u9, δ = [some (.dat (dInts cells)), some (.dat (bxD boxes)), some (.dat (dStrs calls)), some (dInt most), some (.lst ((pileAt cells boxes calls most i).map encEn)), u5, u6, u7, u8, u9, none]) ⟨_, _, _, _, _, rfl⟩ (fun i d δ hd ⟨u5, u6, u7, u8, u9, e⟩ => ?_) (fun δ ⟨u5, u6, u7, u8, u9, e⟩ => ?_)
  · subst e
    obtain ⟨hi, rfl⟩ := ints_at hd
    rw [pileAt_succ hi]
    have hpl := pileAt_len cells boxes calls most i (by omega)
    generalize pileAt cells boxes calls most i = pile at hpl
    generalize cells[i] = cell
    refine ⟨_, _, gb_name 5, ?_⟩
    refine db_sub [some (.dat (dInts cells)), some (.dat (bxD boxes)), some (.dat (dStrs calls)), some (dInt most), some (.lst (pile.map encEn)), some (dInt cell), none, none, none, none, none] ?_
    have b1 := dr_lt (cell := cell) (sz := szTalk) 1 rfl (by decide)
    obtain ⟨a0, a1, hdr⟩ := len2 (drawn_len cell szTalk)
    have e0 : dr cell szTalk 0 = a0 := by unfold dr; rw [hdr]; rfl
    have e1 : dr cell szTalk 1 = a1 := by unfold dr; rw [hdr]; rfl
    rw [e1] at b1
    refine db_cons (ds_asg (el_drawn Dd (ea_cons (ed_var 5) (ea_cons (el_lst (ds := szTalk.map .int) (ea_cons ed_int (ea_cons ed_int ea_nil))).dd ea_nil)) ⟨by decide, by decide⟩ hdr).dd (gb_unl (gbs_cons 6 (gbs_cons 7 gbs_nil))) ?_)
    refine db_cons (ds_set 8 (ed_add (ed_mulS (ed_div (ed_var 5) ed_int (small30 (by decide) (by decide) _)) ed_int (.inr ⟨by decide, by decide⟩)) (ed_mod (ed_var 5) ed_int (by decide))) ?_)
    have hL := List.length_map (f := encEn) (as := pile)
    obtain ⟨n, hn⟩ : ∃ n, n = pile.length - min a1.toNat pile.length := ⟨_, rfl⟩
    have hnl : n ≤ (pile.map encEn).length := by omega
    refine db_cons (ds_set 9 ((el_slice (eq_var 4) (eo_some ((ed_sub (ed_lenL (eq_var 4) B.len) (ed_min2 (ea_cons (ed_var 7) (ea_cons (ed_lenL (eq_var 4) B.len) ea_nil)) B.min)).is (d2 := .int (n : Int)) (congrArg PyData.int (by omega)))) eo_none).dd.is (d2 := enD (pile.drop n)) (by rw [cutD_drop hnl, ← List.map_drop]; rfl)) ?_)
    have hst : pileStep boxes calls most pile cell = if a0 < 5 ∨ 8 < maxDp (pile.drop n) then pile ++ [genSimple (cell / 64 * 2 + cell % 2) boxes calls most] else pile.take n ++ [genEntry (cell / 64 * 2 + cell % 2) (pile.drop n) boxes most a0] := by
      unfold pileStep
      simp only [e0, e1, ← hn]
    rw [hst]
    have hmx : (pile.drop n).map En.dp = (pile.drop n).map En.dp := rfl
    have emx : ((pile.drop n).map En.dp).foldl max 0 = maxDp (pile.drop n) := by unfold maxDp; rw [List.foldl_map]
    have hdl : (pile.drop n).length ≤ 1000 := by rw [List.length_drop]; omega
    refine db_one (ds_if (EW.t (ew_or (et_lt (ed_var 6) ed_int) (fun _ => ew_or1 (et_gt (ed_maxN (ys := (pile.drop n).map En.dp) ((el_lcAll [("entry", 10)] (xs := pile.drop n) (enc := encEn) (f := fun e => .int (e.dp : Nat)) (is_list (ed_var 9)) (by omega) (fun x hx => ⟨_, gb_name 10, ets_nil, fun _ => ed_ixT (ed_var 10) ed_int⟩)).q.is (by rw [List.map_map]; rfl)) ed_int B.max) ed_int)))) (fun h => ?_) (fun h => ?_))
    · have h' : a0 < 5 ∨ 8 < maxDp (pile.drop n) := by
        rw [Bool.or_eq_true, decide_eq_true_eq, decide_eq_true_eq, emx] at h
        omega
      rw [if_pos h']
      refine db_one (ds_app 4 (ed_call Ds (ea_cons (ed_var 8) (ea_cons (ed_var 1) (ea_cons (ed_var 2) (ea_cons (ed_var 3) ea_nil)))) ⟨_, boxes, calls, most, hbx, hca, hmo, rfl, rfl⟩) ?_ ?_)
      · omega
      · have ema : (pile ++ [genSimple (cell / 64 * 2 + cell % 2) boxes calls most]).map encEn = pile.map encEn ++ [encEn (genSimple (cell / 64 * 2 + cell % 2) boxes calls most)] := by simp
        rw [ema]
        exact ⟨_, _, _, _, _, rfl⟩
    · have h' : ¬ (a0 < 5 ∨ 8 < maxDp (pile.drop n)) := by
        rw [Bool.or_eq_false_iff, decide_eq_false_iff_not, decide_eq_false_iff_not, emx] at h
        omega
      rw [if_neg h']
      have hD := List.length_map (f := encEn) (as := pile.drop n)
      have hD2 : (pile.drop n).length = pile.length - n := List.length_drop
      refine db_one (ds_setL 4 ((el_cat ((el_slice (eq_var 4) eo_none (eo_some ((ed_sub (ed_lenL (eq_var 4) B.len) (ed_lenL (ed_var 9).q B.len)).is (d2 := .int (n : Int)) (congrArg PyData.int (by omega))))).q.is (cutD_take hnl)) (el_lst (ds := [encEn (genEntry (cell / 64 * 2 + cell % 2) (pile.drop n) boxes most a0)]) (ea_cons (ed_call De (ea_cons (ed_var 8) (ea_cons (ed_var 9) (ea_cons (ed_var 1) (ea_cons (ed_var 3) (ea_cons (ed_var 6) ea_nil))))) ⟨_, pile.drop n, boxes, most, a0, hdl, hbx, hmo, rfl, rfl⟩) ea_nil)).q ?_).is ?_) ⟨_, _, _, _, _, rfl⟩)
      · rw [List.length_take]
        show _ + 1 ≤ _
        omega
      · rw [List.map_append, List.map_take]
        rfl
  subst e
  have el : (cells.map PyData.int).length = cells.length := List.length_map ..
  have epl : pileAt cells boxes calls most (cells.map PyData.int).length = pileOf cells boxes calls most := by
    rw [el]
    unfold pileAt pileOf
    rw [List.take_length]
  rw [epl]
  have hpl : (pileOf cells boxes calls most).length ≤ 100 := by
    have := pileAt_len cells boxes calls most cells.length (Nat.le_refl _)
    rw [← el, epl, el] at this
    omega
  unfold genTalk
  simp only
  generalize pileOf cells boxes calls most = pile at hpl hsh
  refine db_sub [some (.dat (dInts cells)), some (.dat (bxD boxes)), some (.dat (dStrs calls)), some (dInt most), some (.lst (pile.map encEn)), none, none, none, none, none, none] ?_
  refine db_freeze 4 ?_
  refine db_cons (ds_if (et_neNil (el_lc [("entry", 10)] (xs := pile) (enc := encEn) (c := En.o) (f := encEn) (is_list (ed_var 4)) (by omega) (fun x hx => ⟨_, gb_name 10, ets_one (et_val (ed_ixT (ed_var 10) ed_int (d := .bool x.o))), fun _ => ed_var 10⟩)).q hsh) (fun h => ?_) (fun h => ?_))
  · have ha : pile.any En.o = true := by
      rw [isEmpty_map, Bool.not_eq_true'] at h
      rw [List.any_eq_true]
      cases hf : pile.filter En.o with
      | nil => rw [hf] at h; cases h
      | cons x l =>
        have : x ∈ pile.filter En.o := by rw [hf]; exact List.mem_cons_self
        exact ⟨x, (List.mem_filter.mp this).1, (List.mem_filter.mp this).2⟩
    rw [if_pos ha]
    exact db_one (ds_retL (el_lst (ds := [encS false (genLoop pile cells.sum most)]) (ea_cons (ed_call Dl (ea_cons (ed_var 4) (ea_cons (ed_sum (ns := cells) (ed_var 0).q B.sum) (ea_cons (ed_var 3) ea_nil))) ⟨pile, cells.sum, most, by omega, hmo, rfl, rfl⟩) ea_nil)) rfl)
  · have ha : ¬ pile.any En.o = true := by
      rw [isEmpty_map, Bool.not_eq_false'] at h
      rw [List.any_eq_true]
      rintro ⟨x, h1, h2⟩
      have : x ∈ pile.filter En.o := List.mem_filter.mpr ⟨h1, h2⟩
      rw [List.isEmpty_iff.mp h] at this
      cases this
    rw [if_neg ha]
    refine db_nil ?_
    exact db_one (ds_retL (el_lcAll [("entry", 10)] (xs := pile) (enc := encEn) (f := fun e => encS false e.s) (is_list (ed_var 4)) (by omega) (fun x hx => ⟨_, gb_name 10, ets_nil, fun _ => ed_ixT (ed_var 10) ed_int⟩)) (by rw [encB_en]))
end
end CM

namespace CM
open PySem L2 DL
theorem lay_gen (ns : List Int) (Q : Tk → Prop) (hQ : ∀ t, QTk t → Q t) (hl : ∀ t, Q t → PyData.canLay0 (encTk t) = true) : LayOk (genPrm ns Q) := by
  obtain ⟨G, _⟩ := gen_ok ns Q hQ
  refine ⟨fun n hn => ?_, fun b hb => G.bnames b (by rw [← G.boxes]; exact hb), hl⟩
  rw [G.names] at hn
  obtain ⟨t, ht, rfl⟩ := List.mem_map.mp hn
  exact G.tnames t ht
theorem wt_le (names : List Str) (t : Str) : wtOf names t ≤ 2077 := by
  unfold wtOf
  split
  · decide
  · have : ∀ i : Nat, wtT.getD i 3 ≤ 2077 := fun i => by
      match i with
      | 0 => decide
      | 1 => decide
      | 2 => decide
      | n + 3 => show (3 : Nat) ≤ 2077; decide
    exact this _
theorem pile_en (ns : List Int) (k : Nat) (Q : Tk → Prop) (hQ : ∀ t, QTk t → Q t) : ∀ e ∈ pileOf (cellsOf ns k) (boxesOf ns) ((namesOf ns).drop (k + 1)) (mostOf ns), EnOk (genPrm ns Q) e := by
  obtain ⟨G, _⟩ := gen_ok ns Q hQ
  have hpn : ((genScript ns).talks.map (·.1)).Perm (namesOf ns ++ [("held" : Str)]) := by
    rw [← talks_names ns]
    exact (talks_perm ns).map _
  have hmem : ∀ t, t ∈ namesOf ns ∨ t = ("held" : Str) → t ∈ (genPrm ns Q).names := fun t ht => by
    refine hpn.mem_iff.mpr ?_
    simpa using ht
  refine (pile_ok (Γ := genPrm ns Q) (boxes := boxesOf ns) (calls := (namesOf ns).drop (k + 1)) (most := mostOf ns) (C := 2077) rfl (fun t ht => hmem t (.inl (List.mem_of_mem_drop ht))) (fun t _ => wt_le _ t) ?_ (most_ok ns) (hmem _ (.inr rfl)) hQ (cellsOf ns k) [] 0 (fun e he => by cases he) (by simp [wP]) (Nat.le_refl _)).1
  show wtOf (namesOf ns) "held" ≤ 3
  unfold wtOf
  rw [if_pos rfl]
  exact Nat.le_refl _
theorem pile_shaped (ns : List Int) (k : Nat) : SeqAt.shaped (.list (((pileOf (cellsOf ns k) (boxesOf ns) ((namesOf ns).drop (k + 1)) (mostOf ns)).filter En.o).map encEn)) = true := by
  have h := pile_en ns k QTk (fun t h => h)
  have L := lay_gen ns QTk (fun t h => h) (fun t h => lay_tk h)
  have he : ∀ d ∈ ((pileOf (cellsOf ns k) (boxesOf ns) ((namesOf ns).drop (k + 1)) (mostOf ns)).filter En.o).map encEn, d.canLay0 = true ∧ d.depth ≤ 40 := fun d hd => by
    obtain ⟨e, he, rfl⟩ := List.mem_map.mp hd
    have ho := h e (List.mem_filter.mp he).1
    have h1 := lay_s L (lp := true) (f := false) e.s ho.ok
    have h2 := ho.dd
    have h3 := ho.dp
    refine ⟨?_, ?_⟩
    · simp only [encEn, PyData.canLay0, PyData.canLayAll0, Bool.and_true, h1]
    · unfold dS at h2
      simp only [encEn, PyData.depth, PyData.depthAll]
      omega
  unfold SeqAt.shaped
  rw [Bool.and_eq_true]
  refine ⟨?_, decide_eq_true ?_⟩
  · show PyData.canLayAll0 _ = true
    exact lay_all fun d hd => (he d hd).1
  · have := depthAll_le (n := 40) fun d hd => (he d hd).2
    simp only [PyData.depth]
    omega
def okCallsB (l : List Str) : Bool := SeqAt.shaped (.list (l.map .str)) && decide (l.length ≤ 1000)
theorem calls_tab : ∀ i : Nat, i < 4 → ∀ m : Nat, m < 4 → ∀ k : Nat, k < 3 → okCallsB (((menuT.getD i []).take m).drop (k + 1)) = true := by decide +kernel
theorem menu_len : ∀ i : Nat, i < 4 → (menuT.getD i []).length = 3 := by decide
def rScript (K : PySem.W.Frag) : List Sl → Rs → Prop := fun as r => ∃ ns : List Int, as = [.ph (PScr K ns)] ∧ r = .dat (encSc false (genScript ns))
section
variable {P : Program} {w : World} {K : PySem.W.Frag} {mg : Str → Option Value} {base : Heap} {f : Addr} {fd : FuncData}
theorem df_law_script (B : Free mg) (Dce : Df P w K mg base "_law_cell" 1 ["script", "k"] (rCell K)) (Dd : Df P w K mg base "_law_drawn" 2 ["cell", "sizes"] rDrawn) (Dt : Df P w K mg base "_law_talk" 5 ["cells", "boxes", "calls", "most"] rTalk)
    (F : Fun K "_law_script" "_law_script" s_law_script f fd) (hm : mg "_law_script" = some (.ref f)) (hb : Binds K fd ["script"] []) :
    Df P w K mg base "_law_script" 6 ["script"] (rScript K) := by
  refine df_mk F sc_law_script hm hb (fun as r ⟨_, e, _⟩ => by rw [e]; rfl) fun cdv A outer s H E M as r ⟨ns, e1, e2⟩ => ?_
  subst e1 e2
  obtain ⟨b0, b1, b2, b3⟩ := d_bounds ns
  have hnm := names_ok ns
  have hmo := most_ok ns
  have hbx : boxesOf ns ∈ boxesT := getD_mem (by show _ < 6; omega)
  have hcal : ∀ k, k < 3 → okCalls ((namesOf ns).drop (k + 1)) := fun k hk => by
    have := calls_tab (dr (cellAt ns 0) szScript 2).toNat (by omega) (1 + dr (cellAt ns 0) szScript 1).toNat (by omega) k hk
    change okCallsB ((namesOf ns).drop (k + 1)) = true at this
    rw [okCallsB, Bool.and_eq_true, decide_eq_true_eq] at this
    exact this
  have hpsh := pile_shaped ns
  obtain ⟨a0, a1, a2, a3, hd⟩ := len4 (drawn_len (cellAt ns 0) szScript)
  have e0 : dr (cellAt ns 0) szScript 0 = a0 := by unfold dr; rw [hd]; rfl
  have e1 : dr (cellAt ns 0) szScript 1 = a1 := by unfold dr; rw [hd]; rfl
  have e2 : dr (cellAt ns 0) szScript 2 = a2 := by unfold dr; rw [hd]; rfl
  have e3 : dr (cellAt ns 0) szScript 3 = a3 := by unfold dr; rw [hd]; rfl
  rw [e0] at b0
  rw [e1] at b1
  rw [e2] at b2
  rw [e3] at b3
  have hB : boxesOf ns = boxesT.getD a0.toNat [] := by unfold boxesOf; rw [e0]
  have hM : mostOf ns = mostT.getD a0.toNat 0 := by unfold mostOf; rw [e0]
  have hN : namesOf ns = (menuT.getD a2.toNat []).take (1 + a1).toNat := by unfold namesOf; rw [e1, e2]
  refine db_cons (ds_asg (el_drawn Dd (cell := cellAt ns 0) (ea_cons (ed_call Dce (ea_ph 0 (ea_cons ed_int ea_nil)) ⟨ns, 0, rfl, rfl⟩) (ea_cons (el_lst (ds := szScript.map .int) (ea_cons ed_int (ea_cons ed_int (ea_cons ed_int (ea_cons ed_int ea_nil))))).dd ea_nil)) ⟨by decide, by decide⟩ hd).dd
    (gb_unl (gbs_cons 1 (gbs_cons 2 (gbs_cons 3 (gbs_cons 4 gbs_nil))))) ?_)
  refine db_cons (ds_set 5 (el_lst (ds := [.tuple [.str "put", .int 2], .tuple [.str "say", .int 2]]) (ea_cons (ed_tup (ds := [.str "put", .int 2]) (ea_cons ed_str (ea_cons ed_int ea_nil))) (ea_cons (ed_tup (ds := [.str "say", .int 2]) (ea_cons ed_str (ea_cons ed_int ea_nil))) ea_nil))).dd ?_)
  refine db_cons (ds_set 6 (el_lst (ds := [.tuple [.str "boxc", .int 2], .tuple [.str "boxa", .int 2], .tuple [.str "boxb", .int 2]]) (ea_cons (ed_tup (ds := [.str "boxc", .int 2]) (ea_cons ed_str (ea_cons ed_int ea_nil))) (ea_cons (ed_tup (ds := [.str "boxa", .int 2]) (ea_cons ed_str (ea_cons ed_int ea_nil))) (ea_cons (ed_tup (ds := [.str "boxb", .int 2]) (ea_cons ed_str (ea_cons ed_int ea_nil))) ea_nil)))).dd ?_)
  refine db_cons (ds_set 7 (ed_ixL (ds := boxesT.map bxD) (el_lst (ea_cons (el_lst (ds := []) ea_nil).dd (ea_cons (el_lst (ds := [.tuple [.str "wait", .int 2]]) (ea_cons (ed_tup (ds := [.str "wait", .int 2]) (ea_cons ed_str (ea_cons ed_int ea_nil))) ea_nil)).dd (ea_cons (el_lst (ds := [.tuple [.str "box", .int 3]]) (ea_cons (ed_tup (ds := [.str "box", .int 3]) (ea_cons ed_str (ea_cons ed_int ea_nil))) ea_nil)).dd
    (ea_cons (el_lst (ds := [.tuple [.str "if", .int 4]]) (ea_cons (ed_tup (ds := [.str "if", .int 4]) (ea_cons ed_str (ea_cons ed_int ea_nil))) ea_nil)).dd (ea_cons (ed_var 5) (ea_cons (ed_var 6) ea_nil))))))).q (ed_var 1) (d := bxD (boxesOf ns)) (atI_map b0.1 (by rw [hB]; exact getD_some (by show _ < 6; omega)))) ?_)
  refine db_cons (ds_set 8 (ed_ixL (ds := mostT.map .int) (el_lst (ea_cons ed_int (ea_cons ed_int (ea_cons ed_int (ea_cons ed_int (ea_cons ed_int (ea_cons ed_int ea_nil))))))).q (ed_var 1) (d := .int (mostOf ns)) (atI_map b0.1 (by rw [hM]; exact getD_some (by show _ < 6; omega)))) ?_)
  have l3 : ∀ {δ : DEnv} {a b c : Expr} {x y z : Str} {p : Pos}, True := fun {_ _ _ _ _ _ _ _} => trivial
  refine db_cons (ds_set 9 (el_lst (ds := menuT.map dStrs) (ea_cons (el_lst (ds := [.str "main", .str "sub", .str "call"]) (ea_cons ed_str (ea_cons ed_str (ea_cons ed_str ea_nil)))).dd (ea_cons (el_lst (ds := [.str "wait", .str "test", .str "loop"]) (ea_cons ed_str (ea_cons ed_str (ea_cons ed_str ea_nil)))).dd
    (ea_cons (el_lst (ds := [.str "help", .str "helpa", .str "helpab"]) (ea_cons ed_str (ea_cons ed_str (ea_cons ed_str ea_nil)))).dd (ea_cons (el_lst (ds := [.str "put", .str "back", .str "main"]) (ea_cons ed_str (ea_cons ed_str (ea_cons ed_str ea_nil)))).dd ea_nil))))).dd ?_)
  have hmn : atI (menuT.map dStrs) a2 = some (dStrs (menuT.getD a2.toNat [])) := atI_map b2.1 (getD_some (by show _ < 4; omega))
  have hml := menu_len a2.toNat (by omega)
  have h1m : (1 : Int) + a1 = (((1 + a1).toNat : Nat) : Int) := by omega
  refine db_cons (ds_set 10 (((el_slice (ed_ixL (ed_var 9).q (ed_var 3) hmn).q eo_none (eo_some ((ed_add ed_int (ed_var 2)).is (congrArg PyData.int h1m)))).is (es := (namesOf ns).map .str) (by
    rw [cutD_take (by rw [List.length_map]; omega), hN, List.map_take])).dd) ?_)
  refine db_cons (ds_setL 11 (el_lst (ds := []) ea_nil) ?_)
  refine db_sub [some (.ph (PScr K ns)), none, none, none, some (dInt a3), none, none, some (.dat (bxD (boxesOf ns))), some (dInt (mostOf ns)), none, some (.dat (dStrs (namesOf ns))), some (.lst []), none, none, none] ?_
  have hNL := List.length_map (f := PyData.str) (as := namesOf ns)
  refine db_for (ds := (List.range (namesOf ns).length).map fun (j : Nat) => .int (j : Int)) (is_range ((ed_lenL (ed_var 10).q B.len).is (by rw [hNL])) (by omega) B.range)
    (fun i δ => ∃ u12 u13, δ = [some (.ph (PScr K ns)), none, none, none, some (dInt a3), none, none, some (.dat (bxD (boxesOf ns))), some (dInt (mostOf ns)), none, some (.dat (dStrs (namesOf ns))), some (.lst (((List.range i).map (talkOf ns)).map (encTalk false))), u12, u13, none]) ⟨_, _, rfl⟩ (fun i d δ hd' ⟨u12, u13, e⟩ => ?_) (fun δ ⟨u12, u13, e⟩ => ?_)
  · subst e
    obtain ⟨hi, rfl⟩ := range_at hd'
    have hi3 : i < 3 := by omega
    refine ⟨_, _, gb_name 12, ?_⟩
    refine db_cons (ds_setLcAll 13 [("j", 14)] (xs := List.range (countT.getD i 0)) (enc := fun (j : Nat) => .int (j : Int)) (f := fun j => .int (cellAt ns (1 + 6 * i + j))) (is_range (ed_ixL (ds := countT.map fun (c : Nat) => .int (c : Int)) (el_lst (ea_cons ed_int (ea_cons ed_int (ea_cons ed_int ea_nil)))).q (ed_var 12) (d := .int (countT.getD i 0 : Nat)) (atI_map (xs := countT) (i := (i : Int)) (v := countT.getD i 0) (by omega) (getD_some (xs := countT) (by show i < 3; omega)))) (by have := count_tab i hi3; omega) B.range)
      (by have := count_tab i hi3; rw [List.length_range]; omega) (fun j hj => ⟨_, gb_name 14, ets_nil, fun _ => ed_call Dce (ea_ph 0 (ea_cons ((ed_add (ed_add ed_int (ed_mulS ed_int (ed_var 12) (.inl ⟨by decide, by decide⟩))) (ed_var 14)).is (d2 := .int ((1 + 6 * i + j : Nat) : Int)) (congrArg PyData.int (by omega))) ea_nil)) ⟨ns, 1 + 6 * i + j, rfl, rfl⟩⟩) ?_)
    have hcl : ((List.range (countT.getD i 0)).map fun j => PyData.int (cellAt ns (1 + 6 * i + j))) = (cellsOf ns i).map .int := by
      unfold cellsOf
      rw [List.map_map]
      rfl
    rw [hcl]
    refine db_freeze 13 ?_
    have hat : atI ((namesOf ns).map PyData.str) (i : Int) = some (.str ((namesOf ns).getD i Str.empty)) := atI_map (by omega) (getD_some hi)
    have hcnt : (cellsOf ns i).length ≤ 100 := by
      unfold cellsOf
      rw [List.length_map, List.length_range]
      have := count_tab i hi3
      omega
    refine db_one (ds_app 11 (ed_tup (ds := [.str ((namesOf ns).getD i Str.empty), .list (encB false (talkOf ns i).2)]) (ea_cons (ed_ixL (ed_var 10).q (ed_var 12) hat) (ea_cons (el_call Dt (ea_cons (ed_var 13) (ea_cons (ed_var 7) (ea_cons ((el_slice (ed_var 10).q (eo_some ((ed_add (ed_var 12) ed_int).is (d2 := .int ((i + 1 : Nat) : Int)) rfl)) eo_none).dd.is (d2 := dStrs ((namesOf ns).drop (i + 1))) (by rw [cutD_drop (by omega), ← List.map_drop])) (ea_cons (ed_var 8) ea_nil))))
      ⟨cellsOf ns i, boxesOf ns, (namesOf ns).drop (i + 1), mostOf ns, hcnt, hbx, hcal i hi3, hmo, hpsh i, rfl, rfl⟩).dd ea_nil))) ?_ ?_)
    · rw [List.length_map, List.length_map, List.length_range]
      omega
    · rw [show ((List.range (i + 1)).map (talkOf ns)).map (encTalk false) = ((List.range i).map (talkOf ns)).map (encTalk false) ++ [encTalk false (talkOf ns i)] by rw [List.range_succ, List.map_append, List.map_append]; rfl]
      exact ⟨_, _, rfl⟩
  subst e
  rw [show ((List.range (namesOf ns).length).map fun (j : Nat) => PyData.int (j : Int)).length = (namesOf ns).length by simp]
  refine db_cons (ds_app 11 (ed_tup (ds := [.str "held", .list [.tuple [.str "wait", .int (mostOf ns), .list []]]]) (ea_cons ed_str (ea_cons (el_lst (ds := [.tuple [.str "wait", .int (mostOf ns), .list []]]) (ea_cons (ed_tup (ds := [.str "wait", .int (mostOf ns), .list []]) (ea_cons ed_str (ea_cons (ed_var 8) (ea_cons (el_lst (ds := []) ea_nil).dd ea_nil)))) ea_nil)).dd ea_nil))) ?_ ?_)
  · rw [List.length_map, List.length_map, List.length_range]
    omega
  have hT : (talksOf ns).map (encTalk false) = ((List.range (namesOf ns).length).map (talkOf ns)).map (encTalk false) ++ [.tuple [.str "held", .list [.tuple [.str "wait", .int (mostOf ns), .list []]]]] := by
    unfold talksOf
    rw [List.map_append]
    rfl
  have hTl : ((talksOf ns).map (encTalk false)).length = (namesOf ns).length + 1 := by
    rw [List.length_map]
    unfold talksOf
    simp
  rw [← hT]
  refine db_if (fun δ => ∃ u12 u13, δ = [some (.ph (PScr K ns)), none, none, none, some (dInt a3), none, none, some (.dat (bxD (boxesOf ns))), some (dInt (mostOf ns)), none, some (.dat (dStrs (namesOf ns))), some (.lst ((genScript ns).talks.map (encTalk false))), u12, u13, none]) (et_eqI (ed_var 4) ed_int) (fun h => ?_) (fun h => ?_) (fun δ ⟨u12, u13, e⟩ => ?_)
  · have h' : a3 = 1 := of_decide_eq_true h
    have hg : (genScript ns).talks = (talksOf ns).take 1 ++ ((talksOf ns).drop 1).reverse := by
      unfold genScript
      simp only [e3]
      rw [if_pos h']
    rw [hg]
    refine db_one (ds_setL 11 ((el_cat ((el_slice (eq_var 11) eo_none (eo_some ed_int)).q.is (cutD_take (n := 1) (by omega))) (el_revT (eq_var 11)).q (by rw [List.length_take, List.length_reverse, List.length_drop]; omega)).is (es := ((talksOf ns).take 1 ++ ((talksOf ns).drop 1).reverse).map (encTalk false)) ?_) ⟨_, _, rfl⟩)
    rw [List.map_append, List.map_reverse, List.map_drop, List.map_take]
  · have h' : ¬ a3 = 1 := of_decide_eq_false h
    have hg : (genScript ns).talks = talksOf ns := by
      unfold genScript
      simp only [e3]
      rw [if_neg h']
    rw [hg]
    exact db_nil ⟨_, _, rfl⟩
  subst e
  refine db_freeze 11 ?_
  exact db_one (ds_ret (ed_tup (ds := [bxD (boxesOf ns), .list ((genScript ns).talks.map (encTalk false))]) (ea_cons (ed_var 7) (ea_cons (ed_var 11) ea_nil))) rfl)
end
end CM

namespace CM
open PySem L2 DL
def rHand : List Sl → Rs → Prop := fun as r => ∃ (l : Int) (x : Str), (0 ≤ l ∧ l ≤ 9) ∧ okW x ∧ as = [dInt l, .dat (.str x)] ∧ r = .dat (.str (handText l x))
abbrev bxT (bx : List (Str × Int)) : PyData := .tuple (bx.map encBox)
abbrev intT (vs : List Int) : PyData := .tuple (vs.map .int)
def bxOk (bx : List (Str × Int)) : Prop := (∀ b ∈ bx, okW b.1) ∧ bx.length ≤ 10
def rWorth (n : Nat) : List Sl → Rs → Prop := fun as r => ∃ (e : Ex) (bx : List (Str × Int)) (vs : List Int), dEx e ≤ n ∧ okEx bx e ∧ bxOk bx ∧ vs.length = bx.length ∧ as = [.dat (encEx e), .dat (bxT bx), .dat (intT vs)] ∧ r = .dat (.int (worthM bx vs e))
def rHolds (n : Nat) : List Sl → Rs → Prop := fun as r => ∃ (c : Co) (bx : List (Str × Int)) (vs : List Int), dCo c ≤ n ∧ okCo bx c ∧ bxOk bx ∧ vs.length = bx.length ∧ as = [.dat (encCo c), .dat (bxT bx), .dat (intT vs)] ∧ r = .dat (.bool (holdsM bx vs c))
theorem shaped_strs {l : List Str} (h : ∀ x ∈ l, PyData.canLay0 (.str x) = true) : SeqAt.shaped (dStrs l) = true := by
  unfold SeqAt.shaped
  rw [Bool.and_eq_true]
  refine ⟨lay_all fun d hd => ?_, decide_eq_true ?_⟩
  · obtain ⟨x, hx, rfl⟩ := List.mem_map.mp hd
    exact h x hx
  · have := depthAll_le (n := 0) (ds := l.map PyData.str) fun d hd => by
      obtain ⟨x, hx, rfl⟩ := List.mem_map.mp hd
      simp [PyData.depth]
    simp only [PyData.depth]
    omega
theorem shaped_str {x : Str} (h : PyData.canLay0 (.str x) = true) : SeqAt.shaped (.str x) = true := by
  unfold SeqAt.shaped
  rw [Bool.and_eq_true]
  exact ⟨h, decide_eq_true (by simp [PyData.depth])⟩
section
variable {P : Program} {w : World} {K : PySem.W.Frag} {mg : Str → Option Value} {base : Heap} {f : Addr} {fd : FuncData}
theorem df_hand_text (B : Free mg) (F : Fun K "hand_text" "hand_text" s_hand_text f fd) (hm : mg "hand_text" = some (.ref f)) (hb : Binds K fd ["line", "word"] []) : Df P w K mg base "hand_text" 1 ["line", "word"] rHand := by
  refine df_mk F sc_hand_text hm hb (fun as r ⟨_, _, _, _, e, _⟩ => by rw [e]; rfl) fun cdv A outer s H E M as r ⟨l, x, hl, hx, e1, e2⟩ => ?_
  subst e1 e2
  obtain ⟨n, hn⟩ := Int.eq_ofNat_of_zero_le hl.1
  have h1 := (digit_ok n (by omega)).2
  rw [← hn] at h1
  have hlog : l.natAbs.log2 < 1920 := by
    have : l.natAbs < 2 ^ 10 := by omega
    exact Nat.lt_of_le_of_lt (Nat.le_of_lt_succ (Nat.lt_succ_of_lt (PySem.Flt.log2_lt_of (by decide) this))) (by decide)
  have h2 := hx.2
  have ha := len_app (Str.ofString (toString l)) ":"
  refine db_one (ds_ret (ed_cat (ed_cat (ed_strI (ed_var 0) hlog B.str) ed_str (by omega)) (ed_var 1) (by omega)) rfl)
theorem df_worth (B : Free mg) (F : Fun K "worth" "worth" s_worth f fd) (hm : mg "worth" = some (.ref f)) (hb : Binds K fd ["expression", "boxes", "values"] []) : ∀ n, Df P w K mg base "worth" (n + 1) ["expression", "boxes", "values"] (rWorth n) := by
  intro n
  induction n with
  | zero =>
    refine df_mk F sc_worth hm hb (fun as r ⟨_, _, _, _, _, _, _, e, _⟩ => by rw [e]; rfl) fun cdv A outer s H E M as r ⟨e, bx, vs, hd, ho, hbx, hvs, e1, e2⟩ => ?_
    subst e1 e2
    cases e with
    | num m =>
      refine db_cons (ds_set 3 (ed_ixT (ed_var 0) ed_int (d := .str "number")) ?_)
      refine db_cons (ds_if (et_eqS (ed_var 3) ed_str) (fun h => ?_) (fun h => absurd h (by decide)))
      exact db_one (ds_ret (ed_ixT (ed_var 0) ed_int (d := .int m)) rfl)
    | box x =>
      refine db_cons (ds_set 3 (ed_ixT (ed_var 0) ed_int (d := .str "box")) ?_)
      refine db_cons (ds_if (et_eqS (ed_var 3) ed_str) (fun h => absurd h (by decide)) (fun h => db_nil ?_))
      refine db_cons (ds_if (et_eqS (ed_var 3) ed_str) (fun h => ?_) (fun h => absurd h (by decide)))
      have hx : ixOf bx x < bx.length := ho
      obtain ⟨b, hb⟩ := ixOf_name hx
      have hmem := List.mem_of_getElem? hb
      refine db_cons (ds_setLcAll 4 [("name", 7), ("size", 8)] (xs := bx) (enc := encBox) (f := fun b => .str b.1) (is_tup (ed_var 1)) (by have := hbx.2; omega) (fun y hy => ⟨_, gb_tup (gbs_cons 7 (gbs_cons 8 gbs_nil)), ets_nil, fun _ => ed_var 7⟩) ?_)
      have hs1 : SeqAt.shaped (.list (bx.map fun b => PyData.str b.1)) = true := by
        have := shaped_strs (l := bx.map (·.1)) fun z hz => by
          obtain ⟨b, hb, rfl⟩ := List.mem_map.mp hz
          exact (hbx.1 b hb).1
        rw [dStrs, List.map_map] at this
        exact this
      refine db_one (ds_ret (ed_ixT (ed_var 2) (ed_index (j := ixOf bx x) (z := .str x) (eq_var 4) (ed_ixT (ed_var 0) ed_int (d := .str x)) hs1 (shaped_str (hbx.1 _ hmem).1) (by rw [List.getElem?_map, hb]; rfl) (by simp [PyData.eqv]) (fun m z' hm hz' => ?_)) (d := .int (vs.getD (ixOf bx x) 0)) (atI_map (by omega) (getD_some (by rw [Int.toNat_natCast, hvs]; exact hx)))) rfl)
      have hml : m < bx.length := by omega
      rw [List.getElem?_map, List.getElem?_eq_getElem hml] at hz'
      have hz2 : PyData.str (bx[m]).1 = z' := Option.some.inj hz'
      subst hz2
      have hne : decide ((bx[m]).1 = x) = false := List.not_of_lt_findIdx (p := fun y : Str × Int => decide (y.1 = x)) hm
      have hne' := of_decide_eq_false hne
      simp [PyData.eqv, hne']
    | plus a b => exact absurd hd (by simp [dEx])
    | less a b => exact absurd hd (by simp [dEx])
  | succ n ih =>
    refine df_mk F sc_worth hm hb (fun as r ⟨_, _, _, _, _, _, _, e, _⟩ => by rw [e]; rfl) fun cdv A outer s H E M as r ⟨e, bx, vs, hd, ho, hbx, hvs, e1, e2⟩ => ?_
    subst e1 e2
    cases e with
    | num m =>
      refine db_cons (ds_set 3 (ed_ixT (ed_var 0) ed_int (d := .str "number")) ?_)
      refine db_cons (ds_if (et_eqS (ed_var 3) ed_str) (fun h => ?_) (fun h => absurd h (by decide)))
      exact db_one (ds_ret (ed_ixT (ed_var 0) ed_int (d := .int m)) rfl)
    | box x =>
      refine db_cons (ds_set 3 (ed_ixT (ed_var 0) ed_int (d := .str "box")) ?_)
      refine db_cons (ds_if (et_eqS (ed_var 3) ed_str) (fun h => absurd h (by decide)) (fun h => db_nil ?_))
      refine db_cons (ds_if (et_eqS (ed_var 3) ed_str) (fun h => ?_) (fun h => absurd h (by decide)))
      have hx : ixOf bx x < bx.length := ho
      obtain ⟨b, hb⟩ := ixOf_name hx
      have hmem := List.mem_of_getElem? hb
      refine db_cons (ds_setLcAll 4 [("name", 7), ("size", 8)] (xs := bx) (enc := encBox) (f := fun b => .str b.1) (is_tup (ed_var 1)) (by have := hbx.2; omega) (fun y hy => ⟨_, gb_tup (gbs_cons 7 (gbs_cons 8 gbs_nil)), ets_nil, fun _ => ed_var 7⟩) ?_)
      have hs1 : SeqAt.shaped (.list (bx.map fun b => PyData.str b.1)) = true := by
        have := shaped_strs (l := bx.map (·.1)) fun z hz => by
          obtain ⟨b, hb, rfl⟩ := List.mem_map.mp hz
          exact (hbx.1 b hb).1
        rw [dStrs, List.map_map] at this
        exact this
      refine db_one (ds_ret (ed_ixT (ed_var 2) (ed_index (j := ixOf bx x) (z := .str x) (eq_var 4) (ed_ixT (ed_var 0) ed_int (d := .str x)) hs1 (shaped_str (hbx.1 _ hmem).1) (by rw [List.getElem?_map, hb]; rfl) (by simp [PyData.eqv]) (fun m z' hm hz' => ?_)) (d := .int (vs.getD (ixOf bx x) 0)) (atI_map (by omega) (getD_some (by rw [Int.toNat_natCast, hvs]; exact hx)))) rfl)
      have hml : m < bx.length := by omega
      rw [List.getElem?_map, List.getElem?_eq_getElem hml] at hz'
      have hz2 : PyData.str (bx[m]).1 = z' := Option.some.inj hz'
      subst hz2
      have hne : decide ((bx[m]).1 = x) = false := List.not_of_lt_findIdx (p := fun y : Str × Int => decide (y.1 = x)) hm
      have hne' := of_decide_eq_false hne
      simp [PyData.eqv, hne']
    | plus a b =>
      have hd' : max (dEx a) (dEx b) + 1 ≤ n + 1 := hd
      refine db_cons (ds_set 3 (ed_ixT (ed_var 0) ed_int (d := .str "plus")) ?_)
      refine db_cons (ds_if (et_eqS (ed_var 3) ed_str) (fun h => absurd h (by decide)) (fun h => db_nil ?_))
      refine db_cons (ds_if (et_eqS (ed_var 3) ed_str) (fun h => absurd h (by decide)) (fun h => db_nil ?_))
      refine db_cons (ds_set 5 (ed_call ih (ea_cons (ed_ixT (ed_var 0) ed_int (d := encEx a)) (ea_cons (ed_var 1) (ea_cons (ed_var 2) ea_nil))) ⟨a, bx, vs, by omega, ho.1, hbx, hvs, rfl, rfl⟩ (hk := Nat.le_refl _)) ?_)
      refine db_cons (ds_set 6 (ed_call ih (ea_cons (ed_ixT (ed_var 0) ed_int (d := encEx b)) (ea_cons (ed_var 1) (ea_cons (ed_var 2) ea_nil))) ⟨b, bx, vs, by omega, ho.2, hbx, hvs, rfl, rfl⟩ (hk := Nat.le_refl _)) ?_)
      refine db_cons (ds_if (et_eqS (ed_var 3) ed_str) (fun h => ?_) (fun h => absurd h (by decide)))
      exact db_one (ds_ret (ed_add (ed_var 5) (ed_var 6)) rfl)
    | less a b =>
      have hd' : max (dEx a) (dEx b) + 1 ≤ n + 1 := hd
      refine db_cons (ds_set 3 (ed_ixT (ed_var 0) ed_int (d := .str "less")) ?_)
      refine db_cons (ds_if (et_eqS (ed_var 3) ed_str) (fun h => absurd h (by decide)) (fun h => db_nil ?_))
      refine db_cons (ds_if (et_eqS (ed_var 3) ed_str) (fun h => absurd h (by decide)) (fun h => db_nil ?_))
      refine db_cons (ds_set 5 (ed_call ih (ea_cons (ed_ixT (ed_var 0) ed_int (d := encEx a)) (ea_cons (ed_var 1) (ea_cons (ed_var 2) ea_nil))) ⟨a, bx, vs, by omega, ho.1, hbx, hvs, rfl, rfl⟩ (hk := Nat.le_refl _)) ?_)
      refine db_cons (ds_set 6 (ed_call ih (ea_cons (ed_ixT (ed_var 0) ed_int (d := encEx b)) (ea_cons (ed_var 1) (ea_cons (ed_var 2) ea_nil))) ⟨b, bx, vs, by omega, ho.2, hbx, hvs, rfl, rfl⟩ (hk := Nat.le_refl _)) ?_)
      refine db_cons (ds_if (et_eqS (ed_var 3) ed_str) (fun h => absurd h (by decide)) (fun h => db_nil ?_))
      exact db_one (ds_ret (ed_sub (ed_var 5) (ed_var 6)) rfl)
theorem df_holds (B : Free mg) (W : Df P w K mg base "worth" 4 ["expression", "boxes", "values"] (rWorth 3)) (F : Fun K "holds" "holds" s_holds f fd) (hm : mg "holds" = some (.ref f)) (hb : Binds K fd ["condition", "boxes", "values"] []) : ∀ n, Df P w K mg base "holds" (n + 5) ["condition", "boxes", "values"] (rHolds n) := by
  intro n
  induction n with
  | zero =>
    refine df_mk (k := 4) F sc_holds hm hb (fun as r ⟨_, _, _, _, _, _, _, e, _⟩ => by rw [e]; rfl) fun cdv A outer s H E M as r ⟨c, bx, vs, hd, ho, hbx, hvs, e1, e2⟩ => ?_
    subst e1 e2
    cases c with
    | same a b =>
      refine db_cons (ds_set 3 (ed_ixT (ed_var 0) ed_int (d := .str "same")) ?_)
      refine db_cons (ds_if (et_eqS (ed_var 3) ed_str) (fun h => absurd h (by decide)) (fun h => db_nil ?_))
      refine db_cons (ds_if (et_eqS (ed_var 3) ed_str) (fun h => absurd h (by decide)) (fun h => db_nil ?_))
      refine db_cons (ds_set 4 (ed_call W (ea_cons (ed_ixT (ed_var 0) ed_int (d := encEx a)) (ea_cons (ed_var 1) (ea_cons (ed_var 2) ea_nil))) ⟨a, bx, vs, ho.1.2, ho.1.1, hbx, hvs, rfl, rfl⟩) ?_)
      refine db_cons (ds_set 5 (ed_call W (ea_cons (ed_ixT (ed_var 0) ed_int (d := encEx b)) (ea_cons (ed_var 1) (ea_cons (ed_var 2) ea_nil))) ⟨b, bx, vs, ho.2.2, ho.2.1, hbx, hvs, rfl, rfl⟩) ?_)
      refine db_cons (ds_if (et_eqS (ed_var 3) ed_str) (fun h => ?_) (fun h => absurd h (by decide)))
      exact db_one (ds_ret (ed_eqI (ed_var 4) (ed_var 5)) rfl)
    | under a b =>
      refine db_cons (ds_set 3 (ed_ixT (ed_var 0) ed_int (d := .str "under")) ?_)
      refine db_cons (ds_if (et_eqS (ed_var 3) ed_str) (fun h => absurd h (by decide)) (fun h => db_nil ?_))
      refine db_cons (ds_if (et_eqS (ed_var 3) ed_str) (fun h => absurd h (by decide)) (fun h => db_nil ?_))
      refine db_cons (ds_set 4 (ed_call W (ea_cons (ed_ixT (ed_var 0) ed_int (d := encEx a)) (ea_cons (ed_var 1) (ea_cons (ed_var 2) ea_nil))) ⟨a, bx, vs, ho.1.2, ho.1.1, hbx, hvs, rfl, rfl⟩) ?_)
      refine db_cons (ds_set 5 (ed_call W (ea_cons (ed_ixT (ed_var 0) ed_int (d := encEx b)) (ea_cons (ed_var 1) (ea_cons (ed_var 2) ea_nil))) ⟨b, bx, vs, ho.2.2, ho.2.1, hbx, hvs, rfl, rfl⟩) ?_)
      refine db_cons (ds_if (et_eqS (ed_var 3) ed_str) (fun h => absurd h (by decide)) (fun h => db_nil ?_))
      exact db_one (ds_ret (ed_lt (ed_var 4) (ed_var 5)) rfl)
    | no c => exact absurd hd (by simp [dCo])
    | both c d => exact absurd hd (by simp [dCo])
  | succ n ih =>
    refine df_mk (k := n + 5) F sc_holds hm hb (fun as r ⟨_, _, _, _, _, _, _, e, _⟩ => by rw [e]; rfl) fun cdv A outer s H E M as r ⟨c, bx, vs, hd, ho, hbx, hvs, e1, e2⟩ => ?_
    subst e1 e2
    cases c with
    | same a b =>
      refine db_cons (ds_set 3 (ed_ixT (ed_var 0) ed_int (d := .str "same")) ?_)
      refine db_cons (ds_if (et_eqS (ed_var 3) ed_str) (fun h => absurd h (by decide)) (fun h => db_nil ?_))
      refine db_cons (ds_if (et_eqS (ed_var 3) ed_str) (fun h => absurd h (by decide)) (fun h => db_nil ?_))
      refine db_cons (ds_set 4 (ed_call W (ea_cons (ed_ixT (ed_var 0) ed_int (d := encEx a)) (ea_cons (ed_var 1) (ea_cons (ed_var 2) ea_nil))) ⟨a, bx, vs, ho.1.2, ho.1.1, hbx, hvs, rfl, rfl⟩ (hk := by omega)) ?_)
      refine db_cons (ds_set 5 (ed_call W (ea_cons (ed_ixT (ed_var 0) ed_int (d := encEx b)) (ea_cons (ed_var 1) (ea_cons (ed_var 2) ea_nil))) ⟨b, bx, vs, ho.2.2, ho.2.1, hbx, hvs, rfl, rfl⟩ (hk := by omega)) ?_)
      refine db_cons (ds_if (et_eqS (ed_var 3) ed_str) (fun h => ?_) (fun h => absurd h (by decide)))
      exact db_one (ds_ret (ed_eqI (ed_var 4) (ed_var 5)) rfl)
    | under a b =>
      refine db_cons (ds_set 3 (ed_ixT (ed_var 0) ed_int (d := .str "under")) ?_)
      refine db_cons (ds_if (et_eqS (ed_var 3) ed_str) (fun h => absurd h (by decide)) (fun h => db_nil ?_))
      refine db_cons (ds_if (et_eqS (ed_var 3) ed_str) (fun h => absurd h (by decide)) (fun h => db_nil ?_))
      refine db_cons (ds_set 4 (ed_call W (ea_cons (ed_ixT (ed_var 0) ed_int (d := encEx a)) (ea_cons (ed_var 1) (ea_cons (ed_var 2) ea_nil))) ⟨a, bx, vs, ho.1.2, ho.1.1, hbx, hvs, rfl, rfl⟩ (hk := by omega)) ?_)
      refine db_cons (ds_set 5 (ed_call W (ea_cons (ed_ixT (ed_var 0) ed_int (d := encEx b)) (ea_cons (ed_var 1) (ea_cons (ed_var 2) ea_nil))) ⟨b, bx, vs, ho.2.2, ho.2.1, hbx, hvs, rfl, rfl⟩ (hk := by omega)) ?_)
      refine db_cons (ds_if (et_eqS (ed_var 3) ed_str) (fun h => absurd h (by decide)) (fun h => db_nil ?_))
      exact db_one (ds_ret (ed_lt (ed_var 4) (ed_var 5)) rfl)
    | no c =>
      have hd' : dCo c + 1 ≤ n + 1 := hd
      refine db_cons (ds_set 3 (ed_ixT (ed_var 0) ed_int (d := .str "not")) ?_)
      refine db_cons (ds_if (et_eqS (ed_var 3) ed_str) (fun h => ?_) (fun h => absurd h (by decide)))
      exact db_one (ds_ret (ed_not (ed_call ih (ea_cons (ed_ixT (ed_var 0) ed_int (d := encCo c)) (ea_cons (ed_var 1) (ea_cons (ed_var 2) ea_nil))) ⟨c, bx, vs, by omega, ho, hbx, hvs, rfl, rfl⟩ (hk := Nat.le_refl _))) rfl)
    | both c d =>
      have hd' : max (dCo c) (dCo d) + 1 ≤ n + 1 := hd
      refine db_cons (ds_set 3 (ed_ixT (ed_var 0) ed_int (d := .str "both")) ?_)
      refine db_cons (ds_if (et_eqS (ed_var 3) ed_str) (fun h => absurd h (by decide)) (fun h => db_nil ?_))
      refine db_cons (ds_if (et_eqS (ed_var 3) ed_str) (fun h => ?_) (fun h => absurd h (by decide)))
      exact db_one (ds_ret (ed_and (ed_call ih (ea_cons (ed_ixT (ed_var 0) ed_int (d := encCo c)) (ea_cons (ed_var 1) (ea_cons (ed_var 2) ea_nil))) ⟨c, bx, vs, by omega, ho.1, hbx, hvs, rfl, rfl⟩ (hk := Nat.le_refl _)) fun _ => ed_one (ed_call ih (ea_cons (ed_ixT (ed_var 0) ed_int (d := encCo d)) (ea_cons (ed_var 1) (ea_cons (ed_var 2) ea_nil))) ⟨d, bx, vs, by omega, ho.2, hbx, hvs, rfl, rfl⟩ (hk := Nat.le_refl _))) rfl)
end
end CM

namespace CM
open PySem L2 DL
mutual
def frOk : PyData → Prop
  | .list ds => ds.length ≤ 16000000 ∧ frAll ds
  | .tuple ds => ds.length ≤ 16000000 ∧ frAll ds
  | .dict _ => False
  | .none => True
  | .bool _ => True
  | .int _ => True
  | .str _ => True
def frAll : List PyData → Prop
  | [] => True
  | d :: r => frOk d ∧ frAll r
end
theorem frAll_mem : ∀ {ds : List PyData}, frAll ds → ∀ d ∈ ds, frOk d
  | _ :: _, h, d, hd => by
    rcases List.mem_cons.mp hd with rfl | hd
    · exact h.1
    · exact frAll_mem h.2 d hd
theorem frAll_of : ∀ {ds : List PyData}, (∀ d ∈ ds, frOk d) → frAll ds
  | [], _ => trivial
  | d :: r, h => ⟨h d List.mem_cons_self, frAll_of fun e he => h e (List.mem_cons_of_mem _ he)⟩
theorem depth_mem : ∀ {ds : List PyData} {d : PyData}, d ∈ ds → d.depth ≤ PyData.depthAll ds
  | e :: r, d, h => by
    simp only [PyData.depthAll]
    rcases List.mem_cons.mp h with rfl | h
    · omega
    · have := depth_mem h
      omega
def rFrozen (n : Nat) : List Sl → Rs → Prop := fun as r => ∃ d : PyData, d.depth ≤ n ∧ frOk d ∧ as = [.dat d] ∧ r = .dat (fz d)
def rPart : List Sl → Rs → Prop := fun as r => ∃ (s : Sm) (n : Nat) (b : List Sm), subB s n = some b ∧ as = [.dat (encS true s), dInt n] ∧ r = .dat (.tuple (encB true b))
def subs : Sm → List (List Sm)
  | .test _ a b => [a, b]
  | .wait _ bs => bs.map (·.2)
  | .loop b => [b]
  | _ => []
def rParts : List Sl → Rs → Prop := fun as r => ∃ s : Sm, (subs s).length ≤ 16000000 ∧ as = [.dat (encS false s)] ∧ r = .lst ((subs s).map fun b => .list (encB false b))
def tkAt (bs : List (Tk × List Sm)) (t : Tk) : Nat := bs.findIdx fun x => decide (x.1 = t)
def hasTk (bs : List (Tk × List Sm)) (t : Tk) : Bool := bs.any fun x => decide (x.1 = t)
def brFor (bs : List (Tk × List Sm)) (t : Tk) : Option Nat := if hasTk bs t = true then some (tkAt bs t) else if t ≠ .quiet ∧ hasTk bs .other = true then some (tkAt bs .other) else none
def brNone (bs : List (Tk × List Sm)) : Option Nat := if hasTk bs .none = true then some (tkAt bs .none) else none
def optI : Option Nat → PyData
  | none => .none
  | some n => .int (n : Int)
def layBr (bs : List (Tk × List Sm)) : Prop := (∀ x ∈ bs, PyData.canLay0 (encTk x.1) = true) ∧ bs.length ≤ 100000
def rBr : List Sl → Rs → Prop := fun as r => ∃ (l : Int) (bs : List (Tk × List Sm)) (t : Tk), layBr bs ∧ PyData.canLay0 (encTk t) = true ∧ as = [.dat (encS true (.wait l bs)), .dat (encTk t)] ∧ r = .dat (optI (brFor bs t))
def rBrN : List Sl → Rs → Prop := fun as r => ∃ (l : Int) (bs : List (Tk × List Sm)), layBr bs ∧ as = [.dat (encS true (.wait l bs))] ∧ r = .dat (optI (brNone bs))
def rCut : List Sl → Rs → Prop := fun as r => ∃ (S : List Fr) (κ : Kd), cutTo κ S ≠ [] ∧ as = [.dat (.list (encStk S)), .dat (.str (kdS κ))] ∧ r = .lst (encStk (cutTo κ S))
theorem shaped_tk {t : Tk} (h : PyData.canLay0 (encTk t) = true) : SeqAt.shaped (encTk t) = true := by
  unfold SeqAt.shaped
  rw [Bool.and_eq_true]
  exact ⟨h, decide_eq_true (by rw [depth_tk]; decide)⟩
theorem shaped_tks {α : Type} {l : List α} {g : α → Tk} (h : ∀ x ∈ l, PyData.canLay0 (encTk (g x)) = true) : SeqAt.shaped (.list (l.map fun x => encTk (g x))) = true := by
  unfold SeqAt.shaped
  rw [Bool.and_eq_true]
  refine ⟨lay_all fun d hd => ?_, decide_eq_true ?_⟩
  · obtain ⟨x, hx, rfl⟩ := List.mem_map.mp hd
    exact h x hx
  · have := depthAll_le (n := 1) (ds := l.map fun x => encTk (g x)) fun d hd => by
      obtain ⟨x, hx, rfl⟩ := List.mem_map.mp hd
      rw [depth_tk]
      exact Nat.le_refl _
    simp only [PyData.depth]
    omega
theorem any_tks {α : Type} (l : List α) (g : α → Tk) (t : Tk) : ((l.map fun x => encTk (g x)).any fun z => PyData.eqv z (encTk t)) = l.any fun x => decide (g x = t) := by
  rw [List.any_map]
  congr 1
  funext x
  exact eqv_tk (g x) t
theorem kdS_inj : ∀ a b : Kd, decide (kdS a = kdS b) = decide (a = b) := by
  intro a b
  cases a <;> cases b <;> decide
section
variable {P : Program} {w : World} {K : PySem.W.Frag} {mg : Str → Option Value} {base : Heap} {f : Addr} {fd : FuncData}
theorem df_frozen (B : Free mg) (F : Fun K "frozen" "frozen" s_frozen f fd) (hm : mg "frozen" = some (.ref f)) (hb : Binds K fd ["thing"] []) : ∀ n, Df P w K mg base "frozen" (n + 1) ["thing"] (rFrozen n) := by
  have leaf : ∀ (n : Nat) (cdv : Value) (A : Around) (outer : List Env) (s : Shared) (H : Hp) (E : XK), Fm (fcx P w K mg base n_frozen "frozen" s_frozen f cdv A outer s H E) P w K mg base n → ∀ (d : PyData) (T : String), (∀ v G H, Same G H → Dq G v d → TyOf K H v (.type T)) → kitB T "list" = some false → kitB T "tuple" = some false → fz d = d →
      DB (fcx P w K mg base n_frozen "frozen" s_frozen f cdv A outer s H E) (env0 [.dat d] n_frozen.length) (defBody s_frozen) { nx := fun _ => Rs.dat (fz d) = .dat .none, rt := fun r' => r' = .dat (fz d) } := by
    intro n cdv A outer s H E M d T hT h1 h2 hf
    rw [hf]
    refine db_cons (ds_if (EW.t (ew_or (et_val (et_isi (ed_var 0) PyProof.Rows.boot_list B.list hT (kit_ty h1) B.isinstance)) (fun _ => ew_or1 (et_val (et_isi (ed_var 0) PyProof.Rows.boot_tuple B.tuple hT (kit_ty h2) B.isinstance))))) (fun h => absurd h (by decide)) (fun h => db_nil ?_))
    exact db_one (ds_ret (ed_var 0) rfl)
  intro n
  induction n with
  | zero =>
    refine df_mk F sc_frozen hm hb (fun as r ⟨_, _, _, e, _⟩ => by rw [e]; rfl) fun cdv A outer s H E M as r ⟨d, hd, hok, e1, e2⟩ => ?_
    subst e1 e2
    cases d with
    | none => exact leaf 0 cdv A outer s H E M .none "NoneType" (fun v G H _ h => by cases h; exact .non) (by decide +kernel) (by decide +kernel) rfl
    | bool b => exact leaf 0 cdv A outer s H E M (.bool b) "bool" (fun v G H _ h => by cases h; exact .bl _) (by decide +kernel) (by decide +kernel) rfl
    | int i => exact leaf 0 cdv A outer s H E M (.int i) "int" (fun v G H _ h => by cases h; exact .int _) (by decide +kernel) (by decide +kernel) rfl
    | str x => exact leaf 0 cdv A outer s H E M (.str x) "str" (fun v G H _ h => by cases h; exact .str _) (by decide +kernel) (by decide +kernel) rfl
    | list ds => simp [PyData.depth] at hd
    | tuple ds => simp [PyData.depth] at hd
    | dict _ => exact hok.elim
  | succ n ih =>
    refine df_mk F sc_frozen hm hb (fun as r ⟨_, _, _, e, _⟩ => by rw [e]; rfl) fun cdv A outer s H E M as r ⟨d, hd, hok, e1, e2⟩ => ?_
    subst e1 e2
    cases d with
    | none => exact leaf _ cdv A outer s H E M .none "NoneType" (fun v G H _ h => by cases h; exact .non) (by decide +kernel) (by decide +kernel) rfl
    | bool b => exact leaf _ cdv A outer s H E M (.bool b) "bool" (fun v G H _ h => by cases h; exact .bl _) (by decide +kernel) (by decide +kernel) rfl
    | int i => exact leaf _ cdv A outer s H E M (.int i) "int" (fun v G H _ h => by cases h; exact .int _) (by decide +kernel) (by decide +kernel) rfl
    | str x => exact leaf _ cdv A outer s H E M (.str x) "str" (fun v G H _ h => by cases h; exact .str _) (by decide +kernel) (by decide +kernel) rfl
    | list ds =>
      have hd' : PyData.depthAll ds + 1 ≤ n + 1 := by simp only [PyData.depth] at hd; omega
      refine db_cons (ds_if (EW.t (ew_or (et_val (et_isi (k1 := true) (ed_var 0) PyProof.Rows.boot_list B.list (fun v G H s h => by cases h with | lst h1 _ => exact .lst (s _ _ h1)) (kit_ty (by decide +kernel)) B.isinstance)) (l := false) (fun h => by cases h))) (fun h => ?_) (fun h => by cases h))
      refine db_one (ds_ret (ed_tupleL (el_lcAll [("part", 1)] (xs := ds) (enc := id) (f := fz) (by rw [List.map_id]; exact is_list (ed_var 0)) hok.1 (fun x hx => ⟨_, gb_name 1, ets_nil, fun _ => ed_call ih (ea_cons (ed_var 1) ea_nil) ⟨x, Nat.le_trans (depth_mem hx) (by omega), frAll_mem hok.2 x hx, rfl, rfl⟩ (hk := Nat.le_refl _)⟩)).q B.tuple) ?_)
      show Rs.dat (.tuple (ds.map fz)) = Rs.dat (fz (.list ds))
      rw [show fz (.list ds) = .tuple (fzs ds) from rfl, fzs_map]
    | tuple ds =>
      have hd' : PyData.depthAll ds + 1 ≤ n + 1 := by simp only [PyData.depth] at hd; omega
      refine db_cons (ds_if (EW.t (ew_or (et_val (et_isi (k1 := false) (ed_var 0) PyProof.Rows.boot_list B.list (fun v G H s h => by cases h with | tup h1 _ => exact .tup (s _ _ h1)) (kit_ty (by decide +kernel)) B.isinstance)) (fun _ => ew_or1 (et_val (et_isi (k1 := true) (ed_var 0) PyProof.Rows.boot_tuple B.tuple (fun v G H s h => by cases h with | tup h1 _ => exact .tup (s _ _ h1)) (kit_ty (by decide +kernel)) B.isinstance))))) (fun h => ?_) (fun h => by cases h))
      refine db_one (ds_ret (ed_tupleL (el_lcAll [("part", 1)] (xs := ds) (enc := id) (f := fz) (by rw [List.map_id]; exact is_tup (ed_var 0)) hok.1 (fun x hx => ⟨_, gb_name 1, ets_nil, fun _ => ed_call ih (ea_cons (ed_var 1) ea_nil) ⟨x, Nat.le_trans (depth_mem hx) (by omega), frAll_mem hok.2 x hx, rfl, rfl⟩ (hk := Nat.le_refl _)⟩)).q B.tuple) ?_)
      show Rs.dat (.tuple (ds.map fz)) = Rs.dat (fz (.tuple ds))
      rw [show fz (.tuple ds) = .tuple (fzs ds) from rfl, fzs_map]
    | dict _ => exact hok.elim
theorem df_part_of (F : Fun K "part_of" "part_of" s_part_of f fd) (hm : mg "part_of" = some (.ref f)) (hb : Binds K fd ["statement", "number"] []) : Df P w K mg base "part_of" 1 ["statement", "number"] rPart := by
  refine df_mk F sc_part_of hm hb (fun as r ⟨_, _, _, _, e, _⟩ => by rw [e]; rfl) fun cdv A outer sh H E M as r hR => ?_
  obtain ⟨s, n, b, hsb, e1, e2⟩ := hR
  subst e1 e2
  cases s <;> simp only [subB, reduceCtorEq] at hsb
  case test c x y =>
    refine db_cons (ds_if (et_eqS (ed_ixT (ed_var 0) ed_int (d := .str "test")) ed_str) (fun h => ?_) (fun h => absurd h (by decide)))
    split at hsb
    · rename_i hn
      cases hsb
      subst hn
      exact db_one (ds_ret (ed_ixT (ed_var 0) (ed_add ed_int (ed_var 1)) (d := .tuple (encB true b))) rfl)
    · split at hsb
      · rename_i hn
        cases hsb
        subst hn
        exact db_one (ds_ret (ed_ixT (ed_var 0) (ed_add ed_int (ed_var 1)) (d := .tuple (encB true b))) rfl)
      · cases hsb
  case wait l bs =>
    refine db_cons (ds_if (et_eqS (ed_ixT (ed_var 0) ed_int (d := .str "wait")) ed_str) (fun h => absurd h (by decide)) (fun h => db_nil ?_))
    refine db_cons (ds_if (et_eqS (ed_ixT (ed_var 0) ed_int (d := .str "wait")) ed_str) (fun h => absurd h (by decide)) (fun h => db_nil ?_))
    cases e : bs[n]? with
    | none => rw [e] at hsb; cases hsb
    | some x =>
      rw [e] at hsb
      cases hsb
      have hat : atI (encBr true bs) (n : Int) = some (encBr1 true x) := by
        rw [encBr_map]
        exact atI_map (by omega) (by rw [Int.toNat_natCast]; exact e)
      exact db_one (ds_ret (ed_ixT (ed_ixT (ed_ixT (ed_var 0) ed_int (d := .tuple (encBr true bs))) (ed_var 1) hat) ed_int (d := .tuple (encB true x.2))) rfl)
  case loop x =>
    cases hsb
    refine db_cons (ds_if (et_eqS (ed_ixT (ed_var 0) ed_int (d := .str "loop")) ed_str) (fun h => absurd h (by decide)) (fun h => db_nil ?_))
    refine db_cons (ds_if (et_eqS (ed_ixT (ed_var 0) ed_int (d := .str "loop")) ed_str) (fun h => ?_) (fun h => absurd h (by decide)))
    exact db_one (ds_ret (ed_ixT (ed_var 0) ed_int (d := .tuple (encB true b))) rfl)
theorem df_parts_of (F : Fun K "parts_of" "parts_of" s_parts_of f fd) (hm : mg "parts_of" = some (.ref f)) (hb : Binds K fd ["statement"] []) : Df P w K mg base "parts_of" 1 ["statement"] rParts := by
  refine df_mk F sc_parts_of hm hb (fun as r ⟨_, _, e, _⟩ => by rw [e]; rfl) fun cdv A outer sh H E M as r hR => ?_
  obtain ⟨s, hl, e1, e2⟩ := hR
  subst e1 e2
  have other : ∀ (k : Str) (rs : List PyData), k ≠ "test" → k ≠ "wait" → k ≠ "loop" → DB (fcx P w K mg base n_parts_of "parts_of" s_parts_of f cdv A outer sh H E) (env0 [.dat (.tuple (.str k :: rs))] n_parts_of.length) (defBody s_parts_of) { nx := fun _ => Rs.lst [] = .dat .none, rt := fun r' => r' = .lst [] } := by
    intro k rs h1 h2 h3
    have hat : atI (PyData.str k :: rs) 0 = some (.str k) := atI_of (by decide) rfl
    refine db_cons (ds_if (et_eqS (ed_ixT (ed_var 0) ed_int hat) ed_str) (fun h => absurd (of_decide_eq_true h) h1) (fun h => db_nil ?_))
    refine db_cons (ds_if (et_eqS (ed_ixT (ed_var 0) ed_int hat) ed_str) (fun h => absurd (of_decide_eq_true h) h2) (fun h => db_nil ?_))
    refine db_cons (ds_if (et_eqS (ed_ixT (ed_var 0) ed_int hat) ed_str) (fun h => absurd (of_decide_eq_true h) h3) (fun h => db_nil ?_))
    exact db_one (ds_retL (el_lst (ds := []) ea_nil) rfl)
  cases s
  case test c x y =>
    refine db_cons (ds_if (et_eqS (ed_ixT (ed_var 0) ed_int (d := .str "test")) ed_str) (fun h => ?_) (fun h => absurd h (by decide)))
    exact db_one (ds_retL (el_lst (ds := [.list (encB false x), .list (encB false y)]) (ea_cons (ed_ixT (ed_var 0) ed_int) (ea_cons (ed_ixT (ed_var 0) ed_int) ea_nil))) rfl)
  case wait l bs =>
    refine db_cons (ds_if (et_eqS (ed_ixT (ed_var 0) ed_int (d := .str "wait")) ed_str) (fun h => absurd h (by decide)) (fun h => db_nil ?_))
    refine db_cons (ds_if (et_eqS (ed_ixT (ed_var 0) ed_int (d := .str "wait")) ed_str) (fun h => ?_) (fun h => absurd h (by decide)))
    have hl' : bs.length ≤ 16000000 := by
      have : (subs (.wait l bs)).length = bs.length := List.length_map ..
      omega
    exact db_one (ds_retL (el_lcAll [("pattern", 1), ("body", 2)] (xs := bs) (enc := encBr1 false) (f := fun x => .list (encB false x.2)) (by rw [← encBr_map]; exact is_list (ed_ixT (ed_var 0) ed_int)) hl' (fun x hx => ⟨_, gb_tup (gbs_cons 1 (gbs_cons 2 gbs_nil)), ets_nil, fun _ => ed_var 2⟩)) (by
      show Rs.lst _ = Rs.lst ((bs.map (·.2)).map _)
      rw [List.map_map]
      rfl))
  case loop x =>
    refine db_cons (ds_if (et_eqS (ed_ixT (ed_var 0) ed_int (d := .str "loop")) ed_str) (fun h => absurd h (by decide)) (fun h => db_nil ?_))
    refine db_cons (ds_if (et_eqS (ed_ixT (ed_var 0) ed_int (d := .str "loop")) ed_str) (fun h => absurd h (by decide)) (fun h => db_nil ?_))
    refine db_cons (ds_if (et_eqS (ed_ixT (ed_var 0) ed_int (d := .str "loop")) ed_str) (fun h => ?_) (fun h => absurd h (by decide)))
    exact db_one (ds_retL (el_lst (ds := [.list (encB false x)]) (ea_cons (ed_ixT (ed_var 0) ed_int) ea_nil)) rfl)
  case say x => exact other "say" _ (by decide) (by decide) (by decide)
  case hand l x => exact other "hand" _ (by decide) (by decide) (by decide)
  case put b e => exact other "put" _ (by decide) (by decide) (by decide)
  case again => exact other "again" _ (by decide) (by decide) (by decide)
  case leave => exact other "leave" _ (by decide) (by decide) (by decide)
  case call t => exact other "call" _ (by decide) (by decide) (by decide)
  case back => exact other "back" _ (by decide) (by decide) (by decide)
  case stop => exact other "stop" _ (by decide) (by decide) (by decide)
theorem ed_tkIndex {ι : Type} {X : ι → Cx} {δ : DEnv} {k : Nat} [M : Fm X P w K mg base k] {a b : Expr} {apos' cpos : Pos} {bs : List (Tk × List Sm)} {t : Tk} (hL : layBr bs) (ht : PyData.canLay0 (encTk t) = true) (hh : hasTk bs t = true) (ha : EQ X δ a (bs.map fun x => encTk x.1)) (hb : ED X δ b (encTk t))
    (hbase : ∀ j, attributeBase a "index" (X j).env (eval a (X j).env) = eval a (X j).env := by intro _; rfl)
    (hfew : ∀ j, ((backTo cpos (starEach [b] (X j).env)).all (fun x => !x.1) && (backToKw cpos (keywordEach [] (X j).env)).all (fun x => x.1.isSome)
      && decide (([b] : List Expr).length + ([] : List Keyword).length + (if ([] : List Keyword).isEmpty then 0 else 1) < 30)) = true := by intro _; rfl)
    (hline : (apos'.endLine == cpos.line) = true := by rfl) (hs : ∀ j, starEach [b] (X j).env = (false, eval b (X j).env) :: starEach [] (X j).env := by intro _; rfl) : ED X δ (.Call (.Attribute a "index" apos') [b] [] cpos) (.int (tkAt bs t : Nat)) := by
  have hlt : tkAt bs t < bs.length := by
    rw [tkAt, List.findIdx_lt_length]
    exact List.any_eq_true.mp hh
  have h1 : decide ((bs[tkAt bs t]'hlt).1 = t) = true := List.findIdx_getElem (w := hlt)
  refine ed_index (j := tkAt bs t) (z := encTk (bs[tkAt bs t]'hlt).1) ha hb (shaped_tks hL.1) (shaped_tk ht) (by rw [List.getElem?_map, List.getElem?_eq_getElem hlt]; rfl) (by rw [eqv_tk]; exact h1) (fun m z' hm hz' => ?_) hbase hfew hline hs
  have hml : m < bs.length := by omega
  rw [List.getElem?_map, List.getElem?_eq_getElem hml] at hz'
  have hz2 : encTk (bs[m]).1 = z' := Option.some.inj hz'
  subst hz2
  rw [eqv_tk]
  exact List.not_of_lt_findIdx (p := fun y : Tk × List Sm => decide (y.1 = t)) hm
theorem df_branch_for (F : Fun K "branch_for" "branch_for" s_branch_for f fd) (hm : mg "branch_for" = some (.ref f)) (hb : Binds K fd ["wait", "event"] []) : Df P w K mg base "branch_for" 1 ["wait", "event"] rBr := by
  refine df_mk F sc_branch_for hm hb (fun as r ⟨_, _, _, _, _, e, _⟩ => by rw [e]; rfl) fun cdv A outer s H E M as r ⟨l, bs, t, hL, ht, e1, e2⟩ => ?_
  subst e1 e2
  have hoL : PyData.canLay0 (encTk .other) = true := by decide +kernel
  have hqL : PyData.canLay0 (encTk .quiet) = true := by decide +kernel
  refine db_cons (ds_setLcAll 2 [("pattern", 3), ("body", 4)] (xs := bs) (enc := encBr1 true) (f := fun x => encTk x.1) (by rw [← encBr_map]; exact is_tup (ed_ixT (ed_var 0) ed_int)) (by have := hL.2; omega) (fun x hx => ⟨_, gb_tup (gbs_cons 3 (gbs_cons 4 gbs_nil)), ets_nil, fun _ => ed_var 3⟩) ?_)
  refine db_cons (ds_if ((et_in (ed_var 1) (eq_var 2) (shaped_tk ht) (shaped_tks hL.1)).is (b' := hasTk bs t) (any_tks bs (·.1) t)) (fun h => ?_) (fun h => db_nil ?_))
  · have e : brFor bs t = some (tkAt bs t) := by unfold brFor; rw [if_pos h]
    rw [e]
    exact db_one (ds_ret (ed_tkIndex hL ht h (eq_var 2) (ed_var 1)) rfl)
  have hno : ¬ hasTk bs t = true := by rw [h]; decide
  refine db_cons (ds_if (EW.t (ew_and ((et_neD (ed_var 1) (ed_tup (ds := [.str "quiet"]) (ea_cons ed_str ea_nil)) (shaped_tk ht) (shaped_tk hqL)).is (b' := !decide (t = .quiet)) (by rw [show PyData.tuple [.str "quiet"] = encTk .quiet from rfl, eqv_tk])) (fun _ => ew_and1 ((et_in (ed_tup (ds := [.str "other"]) (ea_cons ed_str ea_nil)) (eq_var 2) (shaped_tk hoL) (shaped_tks hL.1)).is (b' := hasTk bs .other) (any_tks bs (·.1) .other))))) (fun h => ?_) (fun h => db_nil ?_))
  · have h' : t ≠ .quiet ∧ hasTk bs .other = true := by
      rw [Bool.and_eq_true, Bool.not_eq_true', decide_eq_false_iff_not] at h
      exact h
    have e : brFor bs t = some (tkAt bs .other) := by unfold brFor; rw [if_neg hno, if_pos h']
    rw [e]
    exact db_one (ds_ret (ed_tkIndex hL hoL h'.2 (eq_var 2) (ed_tup (ds := [.str "other"]) (ea_cons ed_str ea_nil))) rfl)
  have h' : ¬ (t ≠ .quiet ∧ hasTk bs .other = true) := fun q => by
    have : (!decide (t = .quiet) && hasTk bs .other) = true := by
      rw [Bool.and_eq_true, Bool.not_eq_true', decide_eq_false_iff_not]
      exact q
    rw [this] at h
    cases h
  have e : brFor bs t = none := by unfold brFor; rw [if_neg hno, if_neg h']
  rw [e]
  exact db_one (ds_ret ed_non rfl)
theorem df_branch_for_none (F : Fun K "branch_for_none" "branch_for_none" s_branch_for_none f fd) (hm : mg "branch_for_none" = some (.ref f)) (hb : Binds K fd ["wait"] []) : Df P w K mg base "branch_for_none" 1 ["wait"] rBrN := by
  refine df_mk F sc_branch_for_none hm hb (fun as r ⟨_, _, _, e, _⟩ => by rw [e]; rfl) fun cdv A outer s H E M as r ⟨l, bs, hL, e1, e2⟩ => ?_
  subst e1 e2
  have hoL : PyData.canLay0 (encTk .none) = true := by decide +kernel
  refine db_cons (ds_setLcAll 1 [("pattern", 2), ("body", 3)] (xs := bs) (enc := encBr1 true) (f := fun x => encTk x.1) (by rw [← encBr_map]; exact is_tup (ed_ixT (ed_var 0) ed_int)) (by have := hL.2; omega) (fun x hx => ⟨_, gb_tup (gbs_cons 2 (gbs_cons 3 gbs_nil)), ets_nil, fun _ => ed_var 2⟩) ?_)
  refine db_cons (ds_if ((et_in (ed_tup (ds := [.str "none"]) (ea_cons ed_str ea_nil)) (eq_var 1) (shaped_tk hoL) (shaped_tks hL.1)).is (b' := hasTk bs .none) (any_tks bs (·.1) .none)) (fun h => ?_) (fun h => db_nil ?_))
  · have e : brNone bs = some (tkAt bs .none) := by unfold brNone; rw [if_pos h]
    rw [e]
    exact db_one (ds_ret (ed_tkIndex hL hoL h (eq_var 1) (ed_tup (ds := [.str "none"]) (ea_cons ed_str ea_nil))) rfl)
  have e : brNone bs = none := by unfold brNone; rw [h]; rfl
  rw [e]
  exact db_one (ds_ret ed_non rfl)
theorem encStk_cons (g : Fr) (S : List Fr) : encStk (g :: S) = encStk S ++ [encFr g] := by unfold encStk; rw [List.reverse_cons, List.map_append]; rfl
theorem atI_last {α : Type} (l : List α) (x : α) : atI (l ++ [x]) (-1) = some x := by
  unfold atI ixN
  have e1 : ¬ ((0 : Int) ≤ -1) := by decide
  rw [if_neg e1, if_pos (by rw [List.length_append, List.length_singleton]; omega)]
  have e2 : ((-1 : Int) + ((l ++ [x]).length : Int)).toNat = l.length := by rw [List.length_append, List.length_singleton]; omega
  show (l ++ [x])[_]? = _
  first
  | rw [e2, List.getElem?_append_right (Nat.le_refl _), Nat.sub_self]; rfl
  | (simp; omega)
theorem df_cut_to (B : Free mg) (F : Fun K "cut_to" "cut_to" s_cut_to f fd) (hm : mg "cut_to" = some (.ref f)) (hb : Binds K fd ["frames", "kind"] []) : Df P w K mg base "cut_to" 1 ["frames", "kind"] rCut := by
  refine df_mk F sc_cut_to hm hb (fun as r ⟨_, _, _, e, _⟩ => by rw [e]; rfl) fun cdv A outer s H E M as r ⟨S, κ, hne, e1, e2⟩ => ?_
  subst e1 e2
  refine db_cons (ds_setL 2 (el_listL (ed_var 0).q B.list) ?_)
  refine db_cons (ds_while (fun n δ => ∃ T, T.length = n ∧ cutTo κ T = cutTo κ S ∧ δ = [some (.dat (.list (encStk S))), some (.dat (.str (kdS κ))), some (.lst (encStk T))]) (m0 := S.length) ⟨S, rfl, rfl, rfl⟩ (fun n δ ⟨T, hn, hc, e⟩ => ?_))
  subst e
  cases T with
  | nil => exact absurd hc.symm hne
  | cons g T =>
    rw [encStk_cons]
    refine ⟨!decide (kdS g.kind = kdS κ), et_neS (ed_ixT (ed_ixL (eq_var 2) (ed_neg ed_int) (atI_last _ _)) ed_int (d := .str (kdS g.kind))) (ed_var 1), fun h => ?_, fun h => ?_⟩
    · rw [Bool.not_eq_true', kdS_inj, decide_eq_false_iff_not] at h
      refine db_one (ds_pop 2 rfl ⟨T.length, by rw [← hn]; simp, T, rfl, ?_, rfl⟩)
      rw [← hc]
      show _ = if g.kind = κ then g :: T else cutTo κ T
      rw [if_neg h]
    · rw [Bool.not_eq_false', kdS_inj, decide_eq_true_eq] at h
      have e : cutTo κ S = g :: T := by
        rw [← hc]
        show (if g.kind = κ then g :: T else cutTo κ T) = _
        rw [if_pos h]
      rw [e, encStk_cons]
      exact db_one (ds_retV 2 rfl)
end
end CM

namespace CM
open PySem L2 DL
/-- the teller's fields -/
def tFs (vb vt : V) (nd : Addr) : List (Str × V) := [("boxes", vb), ("talks", vt), ("numbers", .ref nd)]
def PSelf (C : Addr) (sc : Sc) : Hp → V → Prop := fun G v => ∃ a dx vb vt nd kvs, v = .ref a ∧ G a = some (.ins C dx (tFs vb vt nd)) ∧ Dq G vb (bxT sc.boxes) ∧ Dq G vt (.tuple (sc.talks.map (encTalk true))) ∧ G nd = some (.dK kvs) ∧
  ∀ t ∈ sc.talks.map (·.1), valV kvs (.inr t) = some (.int (tkIx sc t : Nat))
theorem PSelf.mono {C : Addr} {sc : Sc} {G G' : Hp} {v : V} (h : PSelf C sc G v) (s : Same G G') : PSelf C sc G' v := by
  obtain ⟨a, dx, vb, vt, nd, kvs, h1, h2, h3, h4, h5, h6⟩ := h
  exact ⟨a, dx, vb, vt, nd, kvs, h1, s _ _ h2, Dq.mono s _ _ h3, Dq.mono s _ _ h4, s _ _ h5, h6⟩
structure ClsT (K : PySem.W.Frag) (C : Addr) : Prop where
  cls : Cls K C
  boxes : NoAttr K C "boxes"
  talks : NoAttr K C "talks"
  numbers : NoAttr K C "numbers"
section
variable {P : Program} {w : World} {K : PySem.W.Frag} {mg : Str → Option Value} {base : Heap} {f C : Addr} {fd : FuncData} {sc : Sc}
section
variable {ι : Type} {X : ι → Cx} {δ : DEnv} {k : Nat} [M : Fm X P w K mg base k] {e : Expr} {es : List Expr} {ds : List PyData} {d : PyData} {p pos apos cpos : Pos} {x : Str}
include M
theorem ed_boxes (T : ClsT K C) (i : Nat) (hl : δ[i]? = some (some (.ph (PSelf C sc))) := by rfl) (hN : ∀ j, (X j).N[i]? = some x := by intro _; rfl) (hv : ∀ j, Vis (X j).env.scope x := by intro _; first | exact Or.inl rfl | exact Or.inr (Or.inl rfl) | exact Or.inr (Or.inr rfl))
    (hd : (x == ("__debug__" : Str)) = false := by decide) (hcd : (x == ("__classdict__" : Str)) = false := by decide) (hb : ∀ j, attributeBase (.Name x p) "boxes" (X j).env (eval (.Name x p) (X j).env) = eval (.Name x p) (X j).env := by intro _; rfl) : ED X δ (.Attribute (.Name x p) "boxes" pos) (bxT sc.boxes) := fun G0 H0 σ G H rp Q q =>
  ⟨tFld K (uE X (.Name x p)) "boxes", fun j => by rw [← M.frag j]; exact pe_fld (uE_ok j) (hb j), ev_ph (M := M) i hN hv hl hd hcd rp fun v h => by
    obtain ⟨a, dx, vb, vt, nd, kvs, rfl, h2, h3, h4, h5, h6⟩ := h G (Same.refl G)
    exact ⟨a, C, dx, tFs vb vt nd, vb, rfl, rp.fx.s _ _ h2, T.cls, T.boxes, rfl, q _ G H (Fx.refl rp.fx.s) h3⟩⟩
theorem ed_talks (T : ClsT K C) (i : Nat) (hl : δ[i]? = some (some (.ph (PSelf C sc))) := by rfl) (hN : ∀ j, (X j).N[i]? = some x := by intro _; rfl) (hv : ∀ j, Vis (X j).env.scope x := by intro _; first | exact Or.inl rfl | exact Or.inr (Or.inl rfl) | exact Or.inr (Or.inr rfl))
    (hd : (x == ("__debug__" : Str)) = false := by decide) (hcd : (x == ("__classdict__" : Str)) = false := by decide) (hb : ∀ j, attributeBase (.Name x p) "talks" (X j).env (eval (.Name x p) (X j).env) = eval (.Name x p) (X j).env := by intro _; rfl) : ED X δ (.Attribute (.Name x p) "talks" pos) (.tuple (sc.talks.map (encTalk true))) := fun G0 H0 σ G H rp Q q =>
  ⟨tFld K (uE X (.Name x p)) "talks", fun j => by rw [← M.frag j]; exact pe_fld (uE_ok j) (hb j), ev_ph (M := M) i hN hv hl hd hcd rp fun v h => by
    obtain ⟨a, dx, vb, vt, nd, kvs, rfl, h2, h3, h4, h5, h6⟩ := h G (Same.refl G)
    exact ⟨a, C, dx, tFs vb vt nd, vt, rfl, rp.fx.s _ _ h2, T.cls, T.talks, rfl, q _ G H (Fx.refl rp.fx.s) h4⟩⟩
/-- self.numbers[e] -/
theorem ed_number (T : ClsT K C) (i : Nat) {t : Str} (he : ED X δ e (.str t)) (ht : t ∈ sc.talks.map (·.1)) (hl : δ[i]? = some (some (.ph (PSelf C sc))) := by rfl) (hN : ∀ j, (X j).N[i]? = some x := by intro _; rfl) (hv : ∀ j, Vis (X j).env.scope x := by intro _; first | exact Or.inl rfl | exact Or.inr (Or.inl rfl) | exact Or.inr (Or.inr rfl))
    (hd : (x == ("__debug__" : Str)) = false := by decide) (hcd : (x == ("__classdict__" : Str)) = false := by decide) (hb : ∀ j, attributeBase (.Name x p) "numbers" (X j).env (eval (.Name x p) (X j).env) = eval (.Name x p) (X j).env := by intro _; rfl) (hs : NoSl e := by intro _ _; rfl) : ED X δ (.Subscript (.Attribute (.Name x p) "numbers" apos) e pos) (.int (tkIx sc t : Nat)) := fun G0 H0 σ G H rp Q q =>
  ⟨tDGet (tFld K (uE X (.Name x p)) "numbers") (uE X e), fun j => by rw [← M.frag j]; exact pe_dget (by have := (M.room j).un; omega) (pe_fld (uE_ok j) (hb j)) (uE_ok j) hs, ev_ph (M := M) i hN hv hl hd hcd rp fun v h => by
    obtain ⟨a, dx, vb, vt, nd, kvs, rfl, h2, h3, h4, h5, h6⟩ := h G (Same.refl G)
    refine ⟨a, C, dx, tFs vb vt nd, .ref nd, rfl, rp.fx.s _ _ h2, T.cls, T.numbers, rfl, he G0 H0 σ G H rp _ fun u G1 H1 f1 hu => ?_⟩
    cases hu
    exact ⟨nd, .int (tkIx sc t : Nat), rfl, .inl ⟨kvs, .inr t, Or.inl (f1.h _ _ (rp.fx.s _ _ h5)), rfl, (h6 t ht).symm⟩, q _ G1 H1 f1 (.int _)⟩⟩
/-- the methods' calls -/
theorem pe_dm {kk : Nat} {m : Str} {ps : List Str} {R : List Sl → Rs → Prop} (D : Dm P w K mg base C m kk ps R) (T : ClsT K C) (hk : kk ≤ k) {pl : ι → Sem Bool} (hst : ∀ j, starEach (e :: es) (X j).env = (false, eval e (X j).env) :: starEach es (X j).env) (hpl : ∀ j, (backTo pos (starEach es (X j).env)).any (·.1) = false)
    (ht : ∀ j, eval (.Call (.Attribute (.Name x p) m apos) (e :: es) [] pos) (X j).env = (do
      let ov ← eval (.Name x p) (X j).env
      standAt apos.atName
      let (f, first) ← holding [ov] (getMethod ov m (pl j))
      callWith pos f first (backTo pos (starEach (e :: es) (X j).env)) (backToKw pos (keywordEach [] (X j).env)))) (j : ι) : PE (X j) (.Call (.Attribute (.Name x p) m apos) (e :: es) [] pos) (tMeth C m (SpR R) [] E0 (uE X (.Name x p)) (uA X (e :: es))) := by
  obtain ⟨f, fd, F, h1, h2⟩ := D.ex
  exact pe_meth (pl := pl j) (uE_ok j) (by rw [M.frag j]; exact T.cls) (by rw [M.frag j]; exact h1) (Fm.fn M F j) ((M.room j).mono hk) (by rw [M.frag j]; exact h2) .nil pass0 (uA_ok j) (hst j) (hpl j) (ht j)
theorem ed_dm {kk : Nat} {m : Str} {ps : List Str} {R : List Sl → Rs → Prop} {as : List Sl} (D : Dm P w K mg base C m kk ps R) (T : ClsT K C) (i : Nat) (ha : EA X δ (e :: es) as) (hr : R (.ph (PSelf C sc) :: as) (.dat d)) (hno : ∀ vb vt nd, (tFs vb vt nd).lookup m = none := by intro _ _ _; rfl) (hk : kk ≤ k := by decide)
    (hl : δ[i]? = some (some (.ph (PSelf C sc))) := by rfl) (hN : ∀ j, (X j).N[i]? = some x := by intro _; rfl) (hv : ∀ j, Vis (X j).env.scope x := by intro _; first | exact Or.inl rfl | exact Or.inr (Or.inl rfl) | exact Or.inr (Or.inr rfl)) {pl : ι → Sem Bool}
    (hd : (x == ("__debug__" : Str)) = false := by decide) (hcd : (x == ("__classdict__" : Str)) = false := by decide) (hst : ∀ j, starEach (e :: es) (X j).env = (false, eval e (X j).env) :: starEach es (X j).env := by intro _; rfl) (hpl : ∀ j, (backTo pos (starEach es (X j).env)).any (·.1) = false := by intro _; rfl)
    (ht : ∀ j, eval (.Call (.Attribute (.Name x p) m apos) (e :: es) [] pos) (X j).env = (do
      let ov ← eval (.Name x p) (X j).env
      standAt apos.atName
      let (f, first) ← holding [ov] (getMethod ov m (pl j))
      callWith pos f first (backTo pos (starEach (e :: es) (X j).env)) (backToKw pos (keywordEach [] (X j).env))) := by intro _; rfl) : ED X δ (.Call (.Attribute (.Name x p) m apos) (e :: es) [] pos) d := fun G0 H0 σ G H rp Q q =>
  ⟨_, pe_dm D T hk hst hpl ht, ev_ph (M := M) i hN hv hl hd hcd rp fun v h => by
    obtain ⟨a, dx, vb, vt, nd, kvs, rfl, h2, h3⟩ := h G (Same.refl G)
    refine ⟨a, dx, tFs vb vt nd, rfl, rp.fx.s _ _ h2, hno _ _ _, ha G0 H0 σ G H rp _ fun vs G1 H1 f1 hvs => ?_⟩
    refine ⟨G1, .ph (PSelf C sc) :: as, .dat d, f1.s, .cons (fun G' s => h G' (f1.g.trans s)) (by rw [List.append_nil]; exact hvs), hr, fun v G2 H2 f2 hq => q v G2 H2 (f1.trans f2) hq⟩⟩
theorem el_dm {kk : Nat} {m : Str} {ps : List Str} {R : List Sl → Rs → Prop} {as : List Sl} (D : Dm P w K mg base C m kk ps R) (T : ClsT K C) (i : Nat) (ha : EA X δ (e :: es) as) (hr : R (.ph (PSelf C sc) :: as) (.lst ds)) (hno : ∀ vb vt nd, (tFs vb vt nd).lookup m = none := by intro _ _ _; rfl) (hk : kk ≤ k := by decide)
    (hl : δ[i]? = some (some (.ph (PSelf C sc))) := by rfl) (hN : ∀ j, (X j).N[i]? = some x := by intro _; rfl) (hv : ∀ j, Vis (X j).env.scope x := by intro _; first | exact Or.inl rfl | exact Or.inr (Or.inl rfl) | exact Or.inr (Or.inr rfl)) {pl : ι → Sem Bool}
    (hd : (x == ("__debug__" : Str)) = false := by decide) (hcd : (x == ("__classdict__" : Str)) = false := by decide) (hst : ∀ j, starEach (e :: es) (X j).env = (false, eval e (X j).env) :: starEach es (X j).env := by intro _; rfl) (hpl : ∀ j, (backTo pos (starEach es (X j).env)).any (·.1) = false := by intro _; rfl)
    (ht : ∀ j, eval (.Call (.Attribute (.Name x p) m apos) (e :: es) [] pos) (X j).env = (do
      let ov ← eval (.Name x p) (X j).env
      standAt apos.atName
      let (f, first) ← holding [ov] (getMethod ov m (pl j))
      callWith pos f first (backTo pos (starEach (e :: es) (X j).env)) (backToKw pos (keywordEach [] (X j).env))) := by intro _; rfl) : EL X δ (.Call (.Attribute (.Name x p) m apos) (e :: es) [] pos) ds := fun G0 H0 σ G H rp Q q =>
  ⟨_, pe_dm D T hk hst hpl ht, ev_ph (M := M) i hN hv hl hd hcd rp fun v h => by
    obtain ⟨a, dx, vb, vt, nd, kvs, rfl, h2, h3⟩ := h G (Same.refl G)
    refine ⟨a, dx, tFs vb vt nd, rfl, rp.fx.s _ _ h2, hno _ _ _, ha G0 H0 σ G H rp _ fun vs G1 H1 f1 hvs => ?_⟩
    refine ⟨G1, .ph (PSelf C sc) :: as, .lst ds, f1.s, .cons (fun G' s => h G' (f1.g.trans s)) (by rw [List.append_nil]; exact hvs), hr, fun v G2 H2 f2 hq => ?_⟩
    obtain ⟨p, xs, rfl, h1, h2, h3, h4⟩ := hq
    exact q p xs G2 H2 (f1.trans f2) (f1.h.free h1) h2 h3 h4⟩
end
/-- a method by its body -/
theorem dm_mk {m qual : Str} {st : Stmt} {N ps : List Str} {k : Nat} {R : List Sl → Rs → Prop} (F : Fun K m qual st f fd) (S : FnScope N ps (defScope st)) (hm : Meth K C m f) (hbd : Binds K fd ps []) (len : ∀ as r, R as r → as.length = ps.length)
    (hb : ∀ (cdv : Value) (A : Around) (outer : List Env) (s : Shared) (H : Hp) (E : XK), Fm (fcx P w K mg base N qual st f cdv A outer s H E) P w K mg base k → ∀ as r, R as r →
      DB (fcx P w K mg base N qual st f cdv A outer s H E) (env0 as N.length) (defBody st) { nx := fun _ => r = .dat .none, rt := fun r' => r' = r }) : Dm P w K mg base C m (k + 1) ps R :=
  ⟨f, fd, fn_data F S len hb, hm, hbd⟩
end
end CM

namespace CM
open PySem L2 DL
def rBodyAt (C : Addr) (sc : Sc) : List Sl → Rs → Prop := fun as r => ∃ (p : List Nat) (B : List Sm), p.length ≤ 100000 ∧ bodyAt sc p = some B ∧ as = [.ph (PSelf C sc), .dat (encPath p)] ∧ r = .dat (.tuple (encB true B))
def behindM (sc : Sc) (s : Sm) (p : List Nat) (at_ : Nat) (S : List Fr) : List Fr := match s with
  | .loop _ => ⟨p ++ [at_, 0], 0, .loop⟩ :: S
  | .call t => ⟨[tkIx sc t], 0, .talk⟩ :: S
  | .again => agT S
  | .leave => (cutTo .loop S).tail
  | .back => (cutTo .talk S).tail
  | _ => []
def behindOk (sc : Sc) (s : Sm) (S : List Fr) : Prop := match s with
  | .loop _ => True
  | .call t => t ∈ sc.talks.map (·.1)
  | .again => cutTo .loop S ≠ []
  | .leave => cutTo .loop S ≠ []
  | .back => cutTo .talk S ≠ []
  | .stop => True
  | _ => False
def rBehind (C : Addr) (sc : Sc) : List Sl → Rs → Prop := fun as r => ∃ (s : Sm) (p : List Nat) (at_ : Nat) (S : List Fr), p.length ≤ 100000 ∧ S.length ≤ 100000 ∧ behindOk sc s S ∧ as = [.ph (PSelf C sc), .dat (encS true s), .dat (encPath p), dInt at_, .dat (.list (encStk S))] ∧ r = .lst (encStk (behindM sc s p at_ S))
def rPut (C : Addr) (sc : Sc) : List Sl → Rs → Prop := fun as r => ∃ (vs : List Int) (b : Str) (e : Ex), bxOk sc.boxes ∧ (∀ b ∈ sc.boxes, 0 < b.2) ∧ ixOf sc.boxes b < sc.boxes.length ∧ okEx sc.boxes e ∧ dEx e ≤ 3 ∧ vs.length = sc.boxes.length ∧
  as = [.ph (PSelf C sc), .dat (intT vs), .dat (.str b), .dat (encEx e)] ∧ r = .dat (intT (putIn sc.boxes vs b e))
theorem rgC2 (m : Nat) (h : m ≤ 1000000) : RgC 1 ((2 * m + 1 : Nat) : Int) 2 m := by
  have e : Builtin.Range.rangeSize 1 ((2 * m + 1 : Nat) : Int) 2 = m := by
    unfold Builtin.Range.rangeSize
    rw [if_pos (by decide)]
    split <;> omega
  refine ⟨by decide, by decide, ?_, e⟩
  have fit : ∀ i : Int, -(2 ^ 63) ≤ i → i < 2 ^ 63 → Builtin.Range.rangeFitsLong i = true := fun i h1 h2 => by
    unfold Builtin.Range.rangeFitsLong
    rw [decide_eq_true h1, decide_eq_true h2]
    rfl
  unfold Builtin.Range.small
  rw [e, if_pos (by decide), fit 1 (by decide) (by decide), fit 2 (by decide) (by decide), fit _ (show -(2 ^ 63) ≤ ((2 * m + 1 : Nat) : Int) by omega) (by omega), fit _ (show -(2 ^ 63) ≤ ((m : Nat) : Int) by omega) (by omega), fit _ (show -(2 ^ 63) ≤ ((2 * m + 1 : Nat) : Int) + (2 - 1) by omega) (by omega), Bool.or_true]
  rfl
theorem walk_even : ∀ (r : List Nat) (B C : List Sm), walkP B r = some C → ∃ m, r.length = 2 * m
  | [], _, _, _ => ⟨0, rfl⟩
  | [_], _, _, h => by cases h
  | i :: n :: r, B, C, h => by
    simp only [walkP] at h
    cases e1 : B[i]? with
    | none => rw [e1] at h; cases h
    | some s =>
      rw [e1] at h
      simp only at h
      cases e2 : subB s n with
      | none => rw [e2] at h; cases h
      | some b =>
        rw [e2] at h
        obtain ⟨m, hm⟩ := walk_even r b C h
        exact ⟨m + 1, by simp; omega⟩
theorem encB_get (f : Bool) (B : List Sm) (i : Nat) (s : Sm) (h : B[i]? = some s) : atI (encB f B) (i : Int) = some (encS f s) := by
  rw [encB_map]
  exact atI_map (by omega) (by rw [Int.toNat_natCast]; exact h)
theorem path_get (p : List Nat) (i : Nat) (n : Nat) (h : p[i]? = some n) : atI (p.map fun (n : Nat) => PyData.int (n : Int)) (i : Int) = some (.int (n : Int)) := atI_map (f := fun (n : Nat) => PyData.int (n : Int)) (by omega) (by rw [Int.toNat_natCast]; exact h)
theorem cutD_last (l : List PyData) (x : PyData) : cutD (l ++ [x]) none (some (-1)) = l := by
  have e : HT.sIx (l ++ [x]).length (l ++ [x]).length (some (-1)) = l.length := by
    show (if (-1 : Int) < 0 then ((-1 : Int) + ((l ++ [x]).length : Int)).toNat else min (-1 : Int).toNat (l ++ [x]).length) = _
    rw [if_pos (by decide), List.length_append, List.length_singleton]
    omega
  unfold cutD
  rw [e]
  show ((l ++ [x]).drop 0).take (l.length - 0) = l
  simp
theorem encStk_len (S : List Fr) : (encStk S).length = S.length := by simp [encStk]
section
variable {P : Program} {w : World} {K : PySem.W.Frag} {mg : Str → Option Value} {base : Heap} {f C : Addr} {fd : FuncData} {sc : Sc}
theorem dm_body_at (B : Free mg) (T : ClsT K C) (Pa : Df P w K mg base "part_of" 1 ["statement", "number"] rPart) (F : Fun K "body_at" "Teller.body_at" s_Tbody_at f fd) (hm : Meth K C "body_at" f) (hb : Binds K fd ["self", "path"] []) : Dm P w K mg base C "body_at" 2 ["self", "path"] (rBodyAt C sc) := by
  refine dm_mk F sc_Tbody_at hm hb (fun as r ⟨_, _, _, _, e, _⟩ => by rw [e]; rfl) fun cdv A outer s H E M as r ⟨p, B', hp, hba, e1, e2⟩ => ?_
  subst e1 e2
  cases p with
  | nil => cases hba
  | cons k r =>
    simp only [bodyAt] at hba
    cases ht : sc.talks[k]? with
    | none => rw [ht] at hba; cases hba
    | some t =>
      rw [ht] at hba
      simp only at hba
      obtain ⟨m, hm2⟩ := walk_even r t.2 B' hba
      have hm6 : m ≤ 1000000 := by simp at hp; omega
      have hat : atI (sc.talks.map (encTalk true)) (k : Int) = some (encTalk true t) := atI_map (by omega) (by rw [Int.toNat_natCast]; exact ht)
      have hk : atI ((k :: r).map fun (n : Nat) => PyData.int (n : Int)) 0 = some (.int (k : Int)) := path_get (k :: r) 0 k rfl
      refine db_cons (ds_set 2 (ed_ixT (ed_ixT (ed_talks T 0) (ed_ixT (ed_var 1) ed_int hk) hat) ed_int (d := .tuple (encB true t.2))) ?_)
      have hlen : (((k :: r).map fun (n : Nat) => PyData.int (n : Int)).length : Int) = ((2 * m + 1 : Nat) : Int) := by simp; omega
      refine db_for (ds := (List.range m).map fun (j : Nat) => .int (1 + (j : Int) * 2)) (is_rangeC (ea_cons ed_int (ea_cons ((ed_lenT (ed_var 1) B.len).is (congrArg PyData.int hlen)) (ea_cons ed_int ea_nil))) (rgC2 m hm6) B.range)
        (fun i δ => ∃ Bi u3, walkP Bi (r.drop (2 * i)) = some B' ∧ δ = [some (.ph (PSelf C sc)), some (.dat (encPath (k :: r))), some (.dat (.tuple (encB true Bi))), u3]) ⟨t.2, _, hba, rfl⟩ (fun i d δ hd ⟨Bi, u3, hw, e⟩ => ?_) (fun δ ⟨Bi, u3, hw, e⟩ => ?_)
      · subst e
        have hi : i < m := by simpa using len1 hd
        rw [List.getElem?_map, List.getElem?_range hi] at hd
        cases hd
        have h2 : 2 * i + 1 < r.length := by omega
        have hd2 : r.drop (2 * i) = r[2 * i] :: r[2 * i + 1] :: r.drop (2 * (i + 1)) := by
          rw [List.drop_eq_getElem_cons (by omega), List.drop_eq_getElem_cons h2]
          rfl
        rw [hd2] at hw
        simp only [walkP] at hw
        cases es : Bi[r[2 * i]]? with
        | none => rw [es] at hw; cases hw
        | some s1 =>
          rw [es] at hw
          simp only at hw
          cases eb : subB s1 r[2 * i + 1] with
          | none => rw [eb] at hw; cases hw
          | some b1 =>
            rw [eb] at hw
            simp only at hw
            have p1 : atI ((k :: r).map fun (n : Nat) => PyData.int (n : Int)) (1 + (i : Int) * 2) = some (.int (r[2 * i] : Int)) := by
              have := path_get (k :: r) (2 * i + 1) r[2 * i] (by rw [List.getElem?_cons_succ, List.getElem?_eq_getElem])
              rw [show (1 + (i : Int) * 2) = ((2 * i + 1 : Nat) : Int) by omega]
              exact this
            have p2 : atI ((k :: r).map fun (n : Nat) => PyData.int (n : Int)) (1 + (i : Int) * 2 + 1) = some (.int (r[2 * i + 1] : Int)) := by
              have := path_get (k :: r) (2 * i + 1 + 1) r[2 * i + 1] (by rw [List.getElem?_cons_succ, List.getElem?_eq_getElem])
              rw [show (1 + (i : Int) * 2 + 1) = ((2 * i + 1 + 1 : Nat) : Int) by omega]
              exact this
            refine ⟨_, _, gb_name 3, ?_⟩
            exact db_one (ds_set 2 (ed_call Pa (ea_cons (ed_ixT (ed_var 2) (ed_ixT (ed_var 1) (ed_var 3) p1) (encB_get true Bi _ s1 es)) (ea_cons (ed_ixT (ed_var 1) (ed_add (ed_var 3) ed_int) p2) ea_nil)) ⟨s1, r[2 * i + 1], b1, eb, rfl, rfl⟩) ⟨b1, _, hw, rfl⟩)
      · subst e
        rw [show ((List.range m).map fun (j : Nat) => PyData.int (1 + (j : Int) * 2)).length = m by simp, List.drop_of_length_le (by omega)] at hw
        cases hw
        exact db_one (ds_ret (ed_var 2) rfl)
theorem dm_behind (B : Free mg) (T : ClsT K C) (Cu : Df P w K mg base "cut_to" 1 ["frames", "kind"] rCut) (F : Fun K "behind" "Teller.behind" s_Tbehind f fd) (hm : Meth K C "behind" f) (hb : Binds K fd ["self", "statement", "path", "at", "frames"] []) : Dm P w K mg base C "behind" 2 ["self", "statement", "path", "at", "frames"] (rBehind C sc) := by
  refine dm_mk F sc_Tbehind hm hb (fun as r ⟨_, _, _, _, _, _, _, e, _⟩ => by rw [e]; rfl) fun cdv A outer sh H E M as r hR => ?_
  obtain ⟨s, p, at_, S, hp, hS, hok, e1, e2⟩ := hR
  subst e1 e2
  have eL := encStk_len S
  cases s with
  | say x => exact hok.elim
  | hand l x => exact hok.elim
  | put b e => exact hok.elim
  | test c a b => exact hok.elim
  | wait l bs => exact hok.elim
  | loop b =>
    refine db_cons (ds_set 5 (ed_ixT (ed_var 1) ed_int (d := .str "loop")) ?_)
    refine db_cons (ds_if (et_eqS (ed_var 5) ed_str) (fun h => ?_) (fun h => absurd h (by decide)))
    refine db_one (ds_retL (el_cat (ed_var 4).q (el_lst (ds := [encFr ⟨p ++ [at_, 0], 0, .loop⟩]) (ea_cons (ed_tup (ds := [encPath (p ++ [at_, 0]), .int 0, .str "loop"]) (ea_cons ((ed_catT (ed_var 2) (ed_tup (ds := [.int (at_ : Nat), .int 0]) (ea_cons (ed_var 3) (ea_cons ed_int ea_nil))) ?_).is ?_) (ea_cons ed_int (ea_cons ed_str ea_nil)))) ea_nil)).q ?_) ?_)
    · simp
      omega
    · simp [encPath]
    · rw [eL]
      show _ + 1 ≤ _
      omega
    · show _ = Rs.lst (encStk (_ :: S))
      rw [encStk_cons]
  | call t =>
    refine db_cons (ds_set 5 (ed_ixT (ed_var 1) ed_int (d := .str "call")) ?_)
    refine db_cons (ds_if (et_eqS (ed_var 5) ed_str) (fun h => absurd h (by decide)) (fun h => db_nil ?_))
    refine db_cons (ds_if (et_eqS (ed_var 5) ed_str) (fun h => ?_) (fun h => absurd h (by decide)))
    refine db_one (ds_retL (el_cat (ed_var 4).q (el_lst (ds := [encFr ⟨[tkIx sc t], 0, .talk⟩]) (ea_cons (ed_tup (ds := [encPath [tkIx sc t], .int 0, .str "talk"]) (ea_cons (ed_tup (ds := [.int (tkIx sc t : Nat)]) (ea_cons (ed_number (sc := sc) T 0 (ed_ixT (ed_var 1) ed_int (d := .str t)) hok) ea_nil)) (ea_cons ed_int (ea_cons ed_str ea_nil)))) ea_nil)).q ?_) ?_)
    · rw [eL]
      show _ + 1 ≤ _
      omega
    · show _ = Rs.lst (encStk (_ :: S))
      rw [encStk_cons]
  | again =>
    refine db_cons (ds_set 5 (ed_ixT (ed_var 1) ed_int (d := .str "again")) ?_)
    refine db_cons (ds_if (et_eqS (ed_var 5) ed_str) (fun h => absurd h (by decide)) (fun h => db_nil ?_))
    refine db_cons (ds_if (et_eqS (ed_var 5) ed_str) (fun h => absurd h (by decide)) (fun h => db_nil ?_))
    refine db_cons (ds_if (et_eqS (ed_var 5) ed_str) (fun h => ?_) (fun h => absurd h (by decide)))
    refine db_cons (ds_set 6 (el_call Cu (ea_cons (ed_var 4) (ea_cons ed_str ea_nil)) ⟨S, .loop, hok, rfl, rfl⟩).dd ?_)
    have hok' : cutTo .loop S ≠ [] := hok
    cases ec : cutTo .loop S with
    | nil => exact absurd ec hok'
    | cons g T' =>
      have hT : T'.length ≤ S.length := by
        have : ∀ (S : List Fr), (cutTo .loop S).length ≤ S.length := fun S => by
          induction S with
          | nil => exact Nat.le_refl _
          | cons f r ih =>
            show (if f.kind = .loop then f :: r else cutTo .loop r).length ≤ _
            split
            · exact Nat.le_refl _
            · simp; omega
        have := this S
        rw [ec] at this
        simp at this
        omega
      have e3 : behindM sc .again p at_ S = ⟨g.path, 0, .loop⟩ :: T' := by
        show agT S = _
        unfold agT
        rw [ec]
      rw [e3, encStk_cons g, encStk_cons]
      refine db_one (ds_retL (el_cat ((el_slice (ed_var 6).q eo_none (eo_some (ed_neg ed_int))).q.is (cutD_last _ _)) (el_lst (ds := [encFr ⟨g.path, 0, .loop⟩]) (ea_cons (ed_tup (ds := [encPath g.path, .int 0, .str "loop"]) (ea_cons (ed_ixT (ed_ixL (ed_var 6).q (ed_neg ed_int) (atI_last _ _)) ed_int (d := encPath g.path)) (ea_cons ed_int (ea_cons ed_str ea_nil)))) ea_nil)).q ?_) rfl)
      rw [encStk_len]
      show _ + 1 ≤ _
      omega
  | leave =>
    refine db_cons (ds_set 5 (ed_ixT (ed_var 1) ed_int (d := .str "leave")) ?_)
    refine db_cons (ds_if (et_eqS (ed_var 5) ed_str) (fun h => absurd h (by decide)) (fun h => db_nil ?_))
    refine db_cons (ds_if (et_eqS (ed_var 5) ed_str) (fun h => absurd h (by decide)) (fun h => db_nil ?_))
    refine db_cons (ds_if (et_eqS (ed_var 5) ed_str) (fun h => absurd h (by decide)) (fun h => db_nil ?_))
    refine db_cons (ds_if (et_eqS (ed_var 5) ed_str) (fun h => ?_) (fun h => absurd h (by decide)))
    have hok' : cutTo .loop S ≠ [] := hok
    refine db_one (ds_retL ((el_slice (el_call Cu (ea_cons (ed_var 4) (ea_cons ed_str ea_nil)) ⟨S, .loop, hok, rfl, rfl⟩).q eo_none (eo_some (ed_neg ed_int))).is (es := encStk (cutTo .loop S).tail) ?_) rfl)
    cases ec : cutTo .loop S with
    | nil => exact absurd ec hok'
    | cons g T' => rw [encStk_cons, cutD_last]; rfl
  | back =>
    refine db_cons (ds_set 5 (ed_ixT (ed_var 1) ed_int (d := .str "back")) ?_)
    refine db_cons (ds_if (et_eqS (ed_var 5) ed_str) (fun h => absurd h (by decide)) (fun h => db_nil ?_))
    refine db_cons (ds_if (et_eqS (ed_var 5) ed_str) (fun h => absurd h (by decide)) (fun h => db_nil ?_))
    refine db_cons (ds_if (et_eqS (ed_var 5) ed_str) (fun h => absurd h (by decide)) (fun h => db_nil ?_))
    refine db_cons (ds_if (et_eqS (ed_var 5) ed_str) (fun h => absurd h (by decide)) (fun h => db_nil ?_))
    refine db_cons (ds_if (et_eqS (ed_var 5) ed_str) (fun h => ?_) (fun h => absurd h (by decide)))
    have hok' : cutTo .talk S ≠ [] := hok
    refine db_one (ds_retL ((el_slice (el_call Cu (ea_cons (ed_var 4) (ea_cons ed_str ea_nil)) ⟨S, .talk, hok, rfl, rfl⟩).q eo_none (eo_some (ed_neg ed_int))).is (es := encStk (cutTo .talk S).tail) ?_) rfl)
    cases ec : cutTo .talk S with
    | nil => exact absurd ec hok'
    | cons g T' => rw [encStk_cons, cutD_last]; rfl
  | stop =>
    refine db_cons (ds_set 5 (ed_ixT (ed_var 1) ed_int (d := .str "stop")) ?_)
    refine db_cons (ds_if (et_eqS (ed_var 5) ed_str) (fun h => absurd h (by decide)) (fun h => db_nil ?_))
    refine db_cons (ds_if (et_eqS (ed_var 5) ed_str) (fun h => absurd h (by decide)) (fun h => db_nil ?_))
    refine db_cons (ds_if (et_eqS (ed_var 5) ed_str) (fun h => absurd h (by decide)) (fun h => db_nil ?_))
    refine db_cons (ds_if (et_eqS (ed_var 5) ed_str) (fun h => absurd h (by decide)) (fun h => db_nil ?_))
    refine db_cons (ds_if (et_eqS (ed_var 5) ed_str) (fun h => absurd h (by decide)) (fun h => db_nil ?_))
    exact db_one (ds_retL (el_lst (ds := []) ea_nil) rfl)
theorem dm_put_in (B : Free mg) (T : ClsT K C) (Wo : Df P w K mg base "worth" 4 ["expression", "boxes", "values"] (rWorth 3)) (F : Fun K "put_in" "Teller.put_in" s_Tput_in f fd) (hm : Meth K C "put_in" f) (hb : Binds K fd ["self", "values", "name", "expression"] []) : Dm P w K mg base C "put_in" 5 ["self", "values", "name", "expression"] (rPut C sc) := by
  refine dm_mk F sc_Tput_in hm hb (fun as r ⟨_, _, _, _, _, _, _, _, _, e, _⟩ => by rw [e]; rfl) fun cdv A outer sh H E M as r hR => ?_
  obtain ⟨vs, b, e, hbx, hpos, hx, he, hde, hvs, e1, e2⟩ := hR
  subst e1 e2
  obtain ⟨n, hn⟩ := ixOf_name hx
  have hmem := List.mem_of_getElem? hn
  refine db_cons (ds_setLcAll 4 [("box", 7)] (xs := sc.boxes) (enc := encBox) (f := fun b => .str b.1) (is_tup (ed_boxes T 0)) (by have := hbx.2; omega) (fun y hy => ⟨_, gb_name 7, ets_nil, fun _ => ed_ixT (ed_var 7) ed_int⟩) ?_)
  have hs1 : SeqAt.shaped (.list (sc.boxes.map fun b => PyData.str b.1)) = true := by
    have := shaped_strs (l := sc.boxes.map (·.1)) fun z hz => by
      obtain ⟨b, hb, rfl⟩ := List.mem_map.mp hz
      exact (hbx.1 b hb).1
    rw [dStrs, List.map_map] at this
    exact this
  refine db_cons (ds_set 5 (ed_index (j := ixOf sc.boxes b) (z := .str b) (eq_var 4) (ed_var 2) hs1 (shaped_str (hbx.1 _ hmem).1) (by rw [List.getElem?_map, hn]; rfl) (by simp [PyData.eqv]) (fun m z' hm hz' => ?_)) ?_)
  · have hml : m < sc.boxes.length := by omega
    rw [List.getElem?_map, List.getElem?_eq_getElem hml] at hz'
    have hz2 : PyData.str (sc.boxes[m]).1 = z' := Option.some.inj hz'
    subst hz2
    have hne : decide ((sc.boxes[m]).1 = b) = false := List.not_of_lt_findIdx (p := fun y : Str × Int => decide (y.1 = b)) hm
    have hne' := of_decide_eq_false hne
    simp [PyData.eqv, hne']
  have hat : atI (sc.boxes.map encBox) (ixOf sc.boxes b : Nat) = some (encBox (b, n)) := atI_map (by omega) (by rw [Int.toNat_natCast]; exact hn)
  refine db_cons (ds_set 6 (ed_mod (ed_call Wo (ea_cons (ed_var 3) (ea_cons (ed_boxes T 0) (ea_cons (ed_var 1) ea_nil))) ⟨e, sc.boxes, vs, hde, he, hbx, hvs, rfl, rfl⟩) (ed_ixT (ed_ixT (ed_boxes T 0) (ed_var 5) hat) ed_int (d := .int n)) (hpos _ hmem)) ?_)
  have hL : (vs.map PyData.int).length = vs.length := List.length_map ..
  have hcut : ∀ i : Nat, i ≤ vs.length → cutD (vs.map .int) none (some (i : Int)) = (vs.take i).map .int := fun i hi => by rw [cutD_take (by omega), List.map_take]
  have hcut2 : ∀ i : Nat, i ≤ vs.length → cutD (vs.map .int) (some (i : Int)) none = (vs.drop i).map .int := fun i hi => by rw [cutD_drop (by omega), List.map_drop]
  have hb10 := hbx.2
  refine db_one (ds_ret ((ed_catT (ed_catT ((ed_sliceT (ed_var 1) eo_none (eo_some (ed_var 5))).is (congrArg PyData.tuple (hcut (ixOf sc.boxes b) (by omega)))) (ed_tup (ds := [.int (worthM sc.boxes vs e % n)]) (ea_cons (ed_var 6) ea_nil)) ?_) ((ed_sliceT (ed_var 1) (eo_some ((ed_add (ed_var 5) ed_int).is (d2 := .int ((ixOf sc.boxes b + 1 : Nat) : Int)) rfl)) eo_none).is (congrArg PyData.tuple (hcut2 (ixOf sc.boxes b + 1) (by omega)))) ?_).is (d2 := intT (putIn sc.boxes vs b e)) ?_) rfl)
  · rw [List.length_map, List.length_take]
    show _ + 1 ≤ _
    omega
  · rw [List.length_append, List.length_map, List.length_map, List.length_take, List.length_drop]
    show _ + 1 + _ ≤ _
    omega
  · unfold putIn
    rw [hn]
    show PyData.tuple _ = PyData.tuple _
    congr 1
    rw [List.set_eq_take_append_cons_drop, if_pos (by omega), List.map_append, List.map_cons, List.append_assoc]
    rfl
end
end CM

namespace CM
open PySem L2 DL
def encSt : Option (List Fr × List Int × Int) → PyData
  | none => .none
  | some (S, vs, l) => .tuple [.tuple (encStk S), intT vs, .int l]
def encRz (r : Rz) : PyData := .tuple [.list (r.1.map .str), encSt r.2]
def SpGo (C : Addr) (sc : Sc) (Γ : Prm) (D : Nat) : Sp := fun us H Q _ => ∃ (G0 H0 G : Hp) (S : List Fr) (ws : List Int) (r : Rz) (v0 v1 v2 : V), us = [v0, v1, v2] ∧ Fx G0 H0 G H ∧ (∀ G', Same G G' → PSelf C sc G' v0) ∧ SlOk H0 G H (.lst (encStk S)) v1 ∧ Dq G v2 (intT ws) ∧ WS sc Γ D S ∧ ws.length = sc.boxes.length ∧ runM sc (lim D) S ws = some r ∧
  ∀ v G' H', Fx G0 H0 G' H' → Dq G' v (encRz r) → Q v H'
theorem shaped_stk (S : List Fr) : SeqAt.shaped (.list (encStk S)) = true := by
  have hk : ∀ k : Kd, PyData.canLay0 (.str (kdS k)) = true := by intro k; cases k <;> decide +kernel
  have hp : ∀ p : List Nat, (encPath p).canLay0 = true ∧ (encPath p).depth ≤ 1 := fun p => by
    refine ⟨?_, ?_⟩
    · show PyData.canLayAll0 _ = true
      refine lay_all fun d hd => ?_
      obtain ⟨n, _, rfl⟩ := List.mem_map.mp hd
      rfl
    · have := depthAll_le (n := 0) (ds := p.map fun (n : Nat) => PyData.int (n : Int)) fun d hd => by
        obtain ⟨n, _, rfl⟩ := List.mem_map.mp hd
        simp [PyData.depth]
      simp only [encPath, PyData.depth]
      omega
  have hf : ∀ f : Fr, (encFr f).canLay0 = true ∧ (encFr f).depth ≤ 2 := fun f => by
    obtain ⟨h1, h2⟩ := hp f.path
    have h3 := hk f.kind
    refine ⟨?_, ?_⟩
    · unfold encFr
      simp only [PyData.canLay0, PyData.canLayAll0, h1, Bool.true_and, Bool.and_true] at h3 ⊢
      exact h3
    · unfold encFr
      simp only [PyData.depth, PyData.depthAll]
      omega
  unfold SeqAt.shaped
  rw [Bool.and_eq_true]
  have hm : ∀ d ∈ encStk S, ∃ f, encFr f = d := fun d hd => let ⟨f, _, e⟩ := List.mem_map.mp hd; ⟨f, e⟩
  refine ⟨lay_all fun d hd => ?_, decide_eq_true ?_⟩
  · obtain ⟨f, rfl⟩ := hm d hd
    exact (hf f).1
  · have := depthAll_le (n := 2) fun d hd => by
      obtain ⟨f, rfl⟩ := hm d hd
      exact (hf f).2
    simp only [PyData.depth]
    omega
theorem bxOk_of {sc : Sc} {Γ : Prm} {D : Nat} (ok : ScOk sc Γ D) : bxOk sc.boxes := ⟨ok.bnames, ok.fewb⟩
def goE (C : Addr) (sc : Sc) (F : List PyData) (vs : List Int) (out : List Str) : DEnv := [some (.ph (PSelf C sc)), some (.lst F), some (.dat (intT vs)), some (.lst (out.map .str)), none, none, none, none, none, none, none]
def goI (C : Addr) (sc : Sc) (Γ : Prm) (D : Nat) (r : Rz) (n : Nat) (δ : DEnv) : Prop := ∃ S vs out q, WS sc Γ D S ∧ vs.length = sc.boxes.length ∧ runM sc n S vs = some q ∧ (out ++ q.1, q.2) = r ∧ out.length + n ≤ lim D ∧ δ = goE C sc (encStk S) vs out
theorem cat_path (p : List Nat) (a b : Nat) : (p.map fun (n : Nat) => PyData.int (n : Int)) ++ [.int (a : Int), .int (b : Int)] = (p ++ [a, b]).map fun (n : Nat) => PyData.int (n : Int) := by simp
section
variable {P : Program} {w : World} {K : PySem.W.Frag} {mg : Str → Option Value} {base : Heap} {f C : Addr} {fd : FuncData} {sc : Sc} {Γ : Prm} {D : Nat}
theorem go_body (B : Free mg) (T : ClsT K C) (ok : ScOk sc Γ D) (hD : D ≤ 2077) (Hd : Df P w K mg base "hand_text" 1 ["line", "word"] rHand) (Ho : Df P w K mg base "holds" 8 ["condition", "boxes", "values"] (rHolds 3)) (Mb : Dm P w K mg base C "body_at" 2 ["self", "path"] (rBodyAt C sc))
    (Mh : Dm P w K mg base C "behind" 2 ["self", "statement", "path", "at", "frames"] (rBehind C sc)) (Mp : Dm P w K mg base C "put_in" 5 ["self", "values", "name", "expression"] (rPut C sc)) (cdv : Value) (A : Around) (outer : List Env) (sh : Shared) (H : Hp) (E : XK) (M : Fm (fcx P w K mg base n_Tgo "Teller.go" s_Tgo f cdv A outer sh H E) P w K mg base 8)
    (S : List Fr) (ws : List Int) (r : Rz) (hw : WS sc Γ D S) (hl : ws.length = sc.boxes.length) (hr : runM sc (lim D) S ws = some r) :
    DB (fcx P w K mg base n_Tgo "Teller.go" s_Tgo f cdv A outer sh H E) [some (.ph (PSelf C sc)), some (.lst (encStk S)), some (.dat (intT ws)), none, none, none, none, none, none, none, none] (defBody s_Tgo) { nx := fun _ => False, rt := fun r' => r' = .dat (encRz r) } := by
  have hlim : lim D ≤ 10000000 := by
    unfold lim
    have : D * (2 * D + 3) ≤ 2077 * (2 * 2077 + 3) := Nat.mul_le_mul hD (by omega)
    omega
  refine db_cons (ds_setL 3 (el_lst (ds := []) ea_nil) ?_)
  refine db_cons (ds_while (goI C sc Γ D r) (m0 := lim D) ⟨S, ws, [], r, hw, hl, hr, rfl, by simp, rfl⟩ (fun n δ ⟨S, vs, out, q, hw, hl, hr, hq, hn, e⟩ => ?_))
  subst e
  refine ⟨!(encStk S).isEmpty, et_neNil (eq_var 1) (shaped_stk S), fun h => ?_, fun h => ?_⟩
  case refine_2 =>
    cases S with
    | cons g S => rw [encStk_cons] at h; simp at h
    | nil =>
      rw [runM_nil] at hr
      cases hr
      rw [List.append_nil] at hq
      subst hq
      refine db_freeze 3 ?_
      exact db_one (ds_ret (ed_tup (ds := [.list (out.map .str), .none]) (ea_cons (ed_var 3) (ea_cons ed_non ea_nil))) rfl)
  cases S with
  | nil => exact absurd h (by decide)
  | cons g F =>
    cases n with
    | zero => cases hr
    | succ n =>
      obtain ⟨⟨Bd, hB⟩, wF⟩ := id hw
      obtain ⟨p, at_, kd⟩ := g
      have hpl : p.length ≤ 100000 := by
        have h1 := hB.plen
        have h2 := ws_len hw
        simp only [List.length_cons] at h1 h2
        omega
      have hFl : F.length + 1 ≤ 2077 := by
        have h2 := ws_len hw
        simp only [List.length_cons] at h2
        omega
      have hBd : bodyAt sc p = some Bd := hB.body
      have hle : at_ ≤ Bd.length := hB.le
      obtain ⟨nx, hs1, hnx⟩ := step_ok ok hw hl
      simp only [runM, hs1] at hr
      have hot : out.length < 16000000 := by omega
      have cont : ∀ S' vs' out', nx = .go S' vs' out' → goI C sc Γ D r n (goE C sc (encStk S') vs' (out ++ out')) := fun S' vs' out' en => by
        subst en
        simp only [Option.map_eq_some_iff] at hr
        obtain ⟨q2, h3, rfl⟩ := hr
        refine ⟨S', vs', out ++ out', q2, hnx.1, hnx.2.1, h3, ?_, ?_, rfl⟩
        · rw [← hq, List.append_assoc]
        · have := hnx.2.2.1
          rw [List.length_append]
          omega
      rw [encStk_cons]
      have env : ∀ F', goE C sc F' vs out = [some (.ph (PSelf C sc)), some (.lst F'), some (.dat (intT vs)), some (.lst (out.map .str)), none, none, none, none, none, none, none] := fun _ => rfl
      rw [env]
      refine db_cons (ds_popT 1 rfl (gb_tup (gbs_cons 4 (gbs_cons 5 (gbs_cons 6 gbs_nil)))) ?_)
      refine db_cons (ds_set 7 (ed_dm (sc := sc) Mb T 0 (ea_cons (ed_var 4) ea_nil) ⟨p, Bd, hpl, hBd, rfl, rfl⟩) ?_)
      have hlB : (encB true Bd).length = Bd.length := by rw [encB_map, List.length_map]
      have eat : decide ((at_ : Int) = ((encB true Bd).length : Int)) = decide (at_ = Bd.length) := by
        rw [hlB]
        by_cases z : at_ = Bd.length
        · rw [decide_eq_true z, decide_eq_true (by omega)]
        · rw [decide_eq_false z, decide_eq_false (by omega)]
      refine db_cons (ds_if ((et_eqI (ed_var 5) (ed_lenT (ed_var 7) B.len)).is eat) (fun h => ?_) (fun h => db_nil ?_))
      · have he : at_ = Bd.length := of_decide_eq_true h
        have hnx2 : nx = .go (if kd = .loop then ⟨p, 0, .loop⟩ :: F else F) vs [] := by
          have := step1_end (k := kd) (F := F) hBd he vs
          rw [this] at hs1
          exact (Option.some.inj hs1).symm
        have c := cont _ _ _ hnx2
        rw [List.append_nil] at c
        refine db_if (fun δ => ∃ u4 u5 u6 u7, δ = [some (.ph (PSelf C sc)), some (.lst (encStk (if kd = .loop then ⟨p, 0, .loop⟩ :: F else F))), some (.dat (intT vs)), some (.lst (out.map .str)), u4, u5, u6, u7, none, none, none]) (et_eqS (ed_var 6) ed_str) (fun h => ?_) (fun h => ?_) (fun δ ⟨u4, u5, u6, u7, e⟩ => ?_)
        · have hk : kd = .loop := by
            have h' : decide (kdS kd = kdS .loop) = true := h
            rw [kdS_inj] at h'
            exact of_decide_eq_true h'
          rw [if_pos hk, encStk_cons]
          refine db_one (ds_app 1 (ed_tup (ds := [encPath p, .int 0, .str (kdS kd)]) (ea_cons (ed_var 4) (ea_cons ed_int (ea_cons (ed_var 6) ea_nil)))) ?_ ?_)
          · rw [encStk_len]
            omega
          · rw [hk]
            exact ⟨_, _, _, _, rfl⟩
        · have hk : ¬ kd = .loop := by
            have h' : decide (kdS kd = kdS .loop) = false := h
            rw [kdS_inj] at h'
            exact of_decide_eq_false h'
          rw [if_neg hk]
          exact db_nil ⟨_, _, _, _, rfl⟩
        · subst e
          refine db_sub (goE C sc (encStk (if kd = .loop then ⟨p, 0, .loop⟩ :: F else F)) vs out) ?_ (Sub.keep (Sub.keep (Sub.keep (Sub.keep (Sub.skip (Sub.skip (Sub.skip (Sub.skip (Sub.keep (Sub.keep (Sub.keep Sub.nil)))))))))))
          exact db_one (ds_continue ⟨n, by omega, c⟩)
      have hne : at_ ≠ Bd.length := of_decide_eq_false h
      have hlt : at_ < Bd.length := by omega
      obtain ⟨s, hs⟩ : ∃ s, Bd[at_]? = some s := ⟨_, List.getElem?_eq_getElem hlt⟩
      have hnx2 : nx = stepS sc ⟨p, at_, kd⟩ F vs s := by
        have := step1_at (k := kd) (F := F) hBd hs vs
        rw [this] at hs1
        exact (Option.some.inj hs1).symm
      have hos := okB_get hB.ok hs
      have w1 : WS sc Γ D (⟨p, at_ + 1, kd⟩ :: F) := ⟨⟨Bd, FrOk.to hB (q := at_ + 1) (by omega)⟩, wF⟩
      refine db_cons (ds_set 8 (ed_ixT (ed_var 7) (ed_var 5) (encB_get true Bd at_ s hs)) ?_)
      refine db_cons (ds_app 1 (ed_tup (ds := [encPath p, .int ((at_ + 1 : Nat) : Int), .str (kdS kd)]) (ea_cons (ed_var 4) (ea_cons ((ed_add (ed_var 5) ed_int).is rfl) (ea_cons (ed_var 6) ea_nil)))) (by rw [encStk_len]; omega) ?_ (hl := rfl))
      have hE : ∀ F' v o, goE C sc F' v o = [some (.ph (PSelf C sc)), some (.lst F'), some (.dat (intT v)), some (.lst (o.map .str)), none, none, none, none, none, none, none] := fun _ _ _ => rfl
      have hbx := bxOk_of ok
      cases s with
      | wait l bs =>
        subst hnx2
        simp only [stepS] at hr
        cases hr
        rw [List.append_nil] at hq
        subst hq
        refine db_cons (ds_set 9 (ed_ixT (ed_var 8) ed_int (d := .str "wait")) ?_)
        refine db_cons (ds_if (et_eqS (ed_var 9) ed_str) (fun h => ?_) (fun h => absurd h (by decide)))
        refine db_freeze 3 ?_
        refine db_one (ds_ret (ed_tup (ds := [.list (out.map .str), .tuple [.tuple (encStk (⟨p, at_ + 1, kd⟩ :: F)), intT vs, .int l]]) (ea_cons (ed_var 3) (ea_cons (ed_tup (ds := [.tuple (encStk (⟨p, at_ + 1, kd⟩ :: F)), intT vs, .int l]) (ea_cons ((ed_tupleL (eq_var 1) B.tuple).is (by rw [encStk_cons]; rfl)) (ea_cons (ed_var 2) (ea_cons (ed_ixT (ed_var 8) ed_int (d := .int l)) ea_nil)))) ea_nil))) rfl)
      | say x =>
        refine db_cons (ds_set 9 (ed_ixT (ed_var 8) ed_int (d := .str "say")) ?_)
        refine db_cons (ds_if (et_eqS (ed_var 9) ed_str) (fun h => absurd h (by decide)) (fun h => db_nil ?_))
        refine db_one (ds_if (et_eqS (ed_var 9) ed_str) (fun h => ?_) (fun h => absurd h (by decide)))
        have c := cont _ _ _ hnx2
        rw [encStk_cons, hE, List.map_append] at c
        refine db_cons (ds_app 3 (ed_ixT (ed_var 8) ed_int (d := .str x)) (by rw [List.length_map]; exact hot) ?_ (hl := rfl))
        exact db_end _ ⟨n, by omega, c⟩
      | hand l x =>
        refine db_cons (ds_set 9 (ed_ixT (ed_var 8) ed_int (d := .str "hand")) ?_)
        refine db_cons (ds_if (et_eqS (ed_var 9) ed_str) (fun h => absurd h (by decide)) (fun h => db_nil ?_))
        refine db_one (ds_if (et_eqS (ed_var 9) ed_str) (fun h => absurd h (by decide)) (fun h => ?_))
        refine db_one (ds_if (et_eqS (ed_var 9) ed_str) (fun h => ?_) (fun h => absurd h (by decide)))
        have c := cont _ _ _ hnx2
        rw [encStk_cons, hE, List.map_append] at c
        refine db_cons (ds_app 3 (ed_call Hd (ea_cons (ed_ixT (ed_var 8) ed_int (d := .int l)) (ea_cons (ed_ixT (ed_var 8) ed_int (d := .str x)) ea_nil)) ⟨l, x, hos.1, hos.2, rfl, rfl⟩) (by rw [List.length_map]; exact hot) ?_ (hl := rfl))
        exact db_end _ ⟨n, by omega, c⟩
      | put b e =>
        refine db_cons (ds_set 9 (ed_ixT (ed_var 8) ed_int (d := .str "put")) ?_)
        refine db_cons (ds_if (et_eqS (ed_var 9) ed_str) (fun h => absurd h (by decide)) (fun h => db_nil ?_))
        refine db_one (ds_if (et_eqS (ed_var 9) ed_str) (fun h => absurd h (by decide)) (fun h => ?_))
        refine db_one (ds_if (et_eqS (ed_var 9) ed_str) (fun h => absurd h (by decide)) (fun h => ?_))
        refine db_one (ds_if (et_eqS (ed_var 9) ed_str) (fun h => ?_) (fun h => absurd h (by decide)))
        have c := cont _ _ _ hnx2
        rw [encStk_cons, hE, List.append_nil] at c
        have hos' : ixOf sc.boxes b < sc.boxes.length ∧ okEx sc.boxes e ∧ dEx e ≤ 3 := by rw [← ok.boxes]; exact hos
        refine db_cons (ds_set 2 (ed_dm (sc := sc) Mp T 0 (ea_cons (ed_var 2) (ea_cons (ed_ixT (ed_var 8) ed_int (d := .str b)) (ea_cons (ed_ixT (ed_var 8) ed_int (d := encEx e)) ea_nil))) ⟨vs, b, e, hbx, fun b hb => (ok.sizes b hb).1, hos'.1, hos'.2.1, hos'.2.2, hl, rfl, rfl⟩) ?_)
        exact db_end _ ⟨n, by omega, c⟩
      | test c a b =>
        refine db_cons (ds_set 9 (ed_ixT (ed_var 8) ed_int (d := .str "test")) ?_)
        refine db_cons (ds_if (et_eqS (ed_var 9) ed_str) (fun h => absurd h (by decide)) (fun h => db_nil ?_))
        refine db_one (ds_if (et_eqS (ed_var 9) ed_str) (fun h => absurd h (by decide)) (fun h => ?_))
        refine db_one (ds_if (et_eqS (ed_var 9) ed_str) (fun h => absurd h (by decide)) (fun h => ?_))
        refine db_one (ds_if (et_eqS (ed_var 9) ed_str) (fun h => absurd h (by decide)) (fun h => ?_))
        refine db_one (ds_if (et_eqS (ed_var 9) ed_str) (fun h => ?_) (fun h => absurd h (by decide)))
        have c := cont _ _ _ hnx2
        rw [encStk_cons, encStk_cons, hE, List.append_nil] at c
        have hos' : okCo sc.boxes ‹Co› ∧ dCo ‹Co› ≤ 3 := by rw [← ok.boxes]; exact hos.1
        refine db_cons (ds_set 10 ((ed_intB (ed_not (ed_call Ho (ea_cons (ed_ixT (ed_var 8) ed_int) (ea_cons (ed_boxes T 0) (ea_cons (ed_var 2) ea_nil))) ⟨_, sc.boxes, vs, hos'.2, hos'.1, hbx, hl, rfl, rfl⟩)) B.int).is (d2 := .int ((if holdsM sc.boxes vs ‹Co› then 0 else 1 : Nat) : Int)) (by cases holdsM sc.boxes vs ‹Co› <;> rfl)) ?_)
        refine db_cons (ds_app 1 (ed_tup (ds := [encPath (p ++ [at_, if holdsM sc.boxes vs ‹Co› then 0 else 1]), .int 0, .str "block"]) (ea_cons ((ed_catT (ed_var 4) (ed_tup (ds := [.int (at_ : Int), .int ((if holdsM sc.boxes vs ‹Co› then 0 else 1 : Nat) : Int)]) (ea_cons (ed_var 5) (ea_cons (ed_var 10) ea_nil))) (by rw [List.length_map]; show p.length + 2 ≤ _; omega)).is (congrArg PyData.tuple (cat_path _ _ _))) (ea_cons ed_int (ea_cons ed_str ea_nil)))) (by rw [List.length_append, encStk_len]; show _ + 1 < _; omega) ?_ (hl := rfl))
        exact db_end _ ⟨n, by omega, c⟩
      | loop b =>
        refine db_cons (ds_set 9 (ed_ixT (ed_var 8) ed_int (d := .str "loop")) ?_)
        refine db_cons (ds_if (et_eqS (ed_var 9) ed_str) (fun h => absurd h (by decide)) (fun h => db_nil ?_))
        refine db_one (ds_if (et_eqS (ed_var 9) ed_str) (fun h => absurd h (by decide)) (fun h => ?_))
        refine db_one (ds_if (et_eqS (ed_var 9) ed_str) (fun h => absurd h (by decide)) (fun h => ?_))
        refine db_one (ds_if (et_eqS (ed_var 9) ed_str) (fun h => absurd h (by decide)) (fun h => ?_))
        refine db_one (ds_if (et_eqS (ed_var 9) ed_str) (fun h => absurd h (by decide)) (fun h => ?_))
        have c := cont _ _ _ hnx2
        rw [hE, List.append_nil] at c
        refine db_freeze 1 ?_
        refine db_cons (ds_setL 1 (el_dm (sc := sc) Mh T 0 (ea_cons (ed_var 8) (ea_cons (ed_var 4) (ea_cons (ed_var 5) (ea_cons (ed_var 1) ea_nil)))) ⟨.loop b, p, at_, ⟨p, at_ + 1, kd⟩ :: F, hpl, by simp only [List.length_cons]; omega, trivial, by rw [encStk_cons]; rfl, rfl⟩) ?_)
        exact db_end _ ⟨n, by omega, c⟩
      | call t =>
        refine db_cons (ds_set 9 (ed_ixT (ed_var 8) ed_int (d := .str "call")) ?_)
        refine db_cons (ds_if (et_eqS (ed_var 9) ed_str) (fun h => absurd h (by decide)) (fun h => db_nil ?_))
        refine db_one (ds_if (et_eqS (ed_var 9) ed_str) (fun h => absurd h (by decide)) (fun h => ?_))
        refine db_one (ds_if (et_eqS (ed_var 9) ed_str) (fun h => absurd h (by decide)) (fun h => ?_))
        refine db_one (ds_if (et_eqS (ed_var 9) ed_str) (fun h => absurd h (by decide)) (fun h => ?_))
        refine db_one (ds_if (et_eqS (ed_var 9) ed_str) (fun h => absurd h (by decide)) (fun h => ?_))
        have c := cont _ _ _ hnx2
        rw [hE, List.append_nil] at c
        have hos' : t ∈ sc.talks.map (·.1) := by rw [← ok.names]; exact hos
        refine db_freeze 1 ?_
        refine db_cons (ds_setL 1 (el_dm (sc := sc) Mh T 0 (ea_cons (ed_var 8) (ea_cons (ed_var 4) (ea_cons (ed_var 5) (ea_cons (ed_var 1) ea_nil)))) ⟨.call t, p, at_, ⟨p, at_ + 1, kd⟩ :: F, hpl, by simp only [List.length_cons]; omega, hos', by rw [encStk_cons]; rfl, rfl⟩) ?_)
        exact db_end _ ⟨n, by omega, c⟩
      | again =>
        refine db_cons (ds_set 9 (ed_ixT (ed_var 8) ed_int (d := .str "again")) ?_)
        refine db_cons (ds_if (et_eqS (ed_var 9) ed_str) (fun h => absurd h (by decide)) (fun h => db_nil ?_))
        refine db_one (ds_if (et_eqS (ed_var 9) ed_str) (fun h => absurd h (by decide)) (fun h => ?_))
        refine db_one (ds_if (et_eqS (ed_var 9) ed_str) (fun h => absurd h (by decide)) (fun h => ?_))
        refine db_one (ds_if (et_eqS (ed_var 9) ed_str) (fun h => absurd h (by decide)) (fun h => ?_))
        refine db_one (ds_if (et_eqS (ed_var 9) ed_str) (fun h => absurd h (by decide)) (fun h => ?_))
        have c := cont _ _ _ hnx2
        rw [hE, List.append_nil] at c
        have hlp : lpOf (⟨p, at_ + 1, kd⟩ :: F) = true := hos
        obtain ⟨g', r', hc, _⟩ := cut_loop w1 hlp
        have hcc : cutTo .loop (⟨p, at_ + 1, kd⟩ :: F) ≠ [] := by rw [hc]; exact List.cons_ne_nil _ _
        refine db_freeze 1 ?_
        refine db_cons (ds_setL 1 (el_dm (sc := sc) Mh T 0 (ea_cons (ed_var 8) (ea_cons (ed_var 4) (ea_cons (ed_var 5) (ea_cons (ed_var 1) ea_nil)))) ⟨.again, p, at_, ⟨p, at_ + 1, kd⟩ :: F, hpl, by simp only [List.length_cons]; omega, hcc, by rw [encStk_cons]; rfl, rfl⟩) ?_)
        exact db_end _ ⟨n, by omega, c⟩
      | leave =>
        refine db_cons (ds_set 9 (ed_ixT (ed_var 8) ed_int (d := .str "leave")) ?_)
        refine db_cons (ds_if (et_eqS (ed_var 9) ed_str) (fun h => absurd h (by decide)) (fun h => db_nil ?_))
        refine db_one (ds_if (et_eqS (ed_var 9) ed_str) (fun h => absurd h (by decide)) (fun h => ?_))
        refine db_one (ds_if (et_eqS (ed_var 9) ed_str) (fun h => absurd h (by decide)) (fun h => ?_))
        refine db_one (ds_if (et_eqS (ed_var 9) ed_str) (fun h => absurd h (by decide)) (fun h => ?_))
        refine db_one (ds_if (et_eqS (ed_var 9) ed_str) (fun h => absurd h (by decide)) (fun h => ?_))
        have c := cont _ _ _ hnx2
        rw [hE, List.append_nil] at c
        have hlp : lpOf (⟨p, at_ + 1, kd⟩ :: F) = true := hos
        obtain ⟨g', r', hc, _⟩ := cut_loop w1 hlp
        have hcc : cutTo .loop (⟨p, at_ + 1, kd⟩ :: F) ≠ [] := by rw [hc]; exact List.cons_ne_nil _ _
        refine db_freeze 1 ?_
        refine db_cons (ds_setL 1 (el_dm (sc := sc) Mh T 0 (ea_cons (ed_var 8) (ea_cons (ed_var 4) (ea_cons (ed_var 5) (ea_cons (ed_var 1) ea_nil)))) ⟨.leave, p, at_, ⟨p, at_ + 1, kd⟩ :: F, hpl, by simp only [List.length_cons]; omega, hcc, by rw [encStk_cons]; rfl, rfl⟩) ?_)
        exact db_end _ ⟨n, by omega, c⟩
      | back =>
        refine db_cons (ds_set 9 (ed_ixT (ed_var 8) ed_int (d := .str "back")) ?_)
        refine db_cons (ds_if (et_eqS (ed_var 9) ed_str) (fun h => absurd h (by decide)) (fun h => db_nil ?_))
        refine db_one (ds_if (et_eqS (ed_var 9) ed_str) (fun h => absurd h (by decide)) (fun h => ?_))
        refine db_one (ds_if (et_eqS (ed_var 9) ed_str) (fun h => absurd h (by decide)) (fun h => ?_))
        refine db_one (ds_if (et_eqS (ed_var 9) ed_str) (fun h => absurd h (by decide)) (fun h => ?_))
        refine db_one (ds_if (et_eqS (ed_var 9) ed_str) (fun h => absurd h (by decide)) (fun h => ?_))
        have c := cont _ _ _ hnx2
        rw [hE, List.append_nil] at c
        obtain ⟨g', r', hc, _⟩ := cut_talk w1 (List.cons_ne_nil _ _)
        have hcc : cutTo .talk (⟨p, at_ + 1, kd⟩ :: F) ≠ [] := by rw [hc]; exact List.cons_ne_nil _ _
        refine db_freeze 1 ?_
        refine db_cons (ds_setL 1 (el_dm (sc := sc) Mh T 0 (ea_cons (ed_var 8) (ea_cons (ed_var 4) (ea_cons (ed_var 5) (ea_cons (ed_var 1) ea_nil)))) ⟨.back, p, at_, ⟨p, at_ + 1, kd⟩ :: F, hpl, by simp only [List.length_cons]; omega, hcc, by rw [encStk_cons]; rfl, rfl⟩) ?_)
        exact db_end _ ⟨n, by omega, c⟩
      | stop =>
        refine db_cons (ds_set 9 (ed_ixT (ed_var 8) ed_int (d := .str "stop")) ?_)
        refine db_cons (ds_if (et_eqS (ed_var 9) ed_str) (fun h => absurd h (by decide)) (fun h => db_nil ?_))
        refine db_one (ds_if (et_eqS (ed_var 9) ed_str) (fun h => absurd h (by decide)) (fun h => ?_))
        refine db_one (ds_if (et_eqS (ed_var 9) ed_str) (fun h => absurd h (by decide)) (fun h => ?_))
        refine db_one (ds_if (et_eqS (ed_var 9) ed_str) (fun h => absurd h (by decide)) (fun h => ?_))
        refine db_one (ds_if (et_eqS (ed_var 9) ed_str) (fun h => absurd h (by decide)) (fun h => ?_))
        have c := cont _ _ _ hnx2
        rw [hE, List.append_nil] at c
        refine db_freeze 1 ?_
        refine db_cons (ds_setL 1 (el_dm (sc := sc) Mh T 0 (ea_cons (ed_var 8) (ea_cons (ed_var 4) (ea_cons (ed_var 5) (ea_cons (ed_var 1) ea_nil)))) ⟨.stop, p, at_, ⟨p, at_ + 1, kd⟩ :: F, hpl, by simp only [List.length_cons]; omega, trivial, by rw [encStk_cons]; rfl, rfl⟩) ?_)
        exact db_end _ ⟨n, by omega, c⟩
end
end CM

namespace CM
open PySem L2 DL
/-! ### __init__ -/
section
open PySem.Spec PyProof.Rows
def gFld (K : PySem.W.Frag) (ta : TE) (f : Str) : TG := fun v σ H Q => ta σ H fun x H2 => ∃ a C dx fs, x = .ref a ∧ H2 a = some (.ins C dx fs) ∧ Cls K C ∧ NoAttr K C f ∧ fs.length < 1000 ∧ Q σ (upd H2 a (.ins C dx (putF f v fs)))
theorem pg_attr {X : Cx} {o : Expr} {f : Str} {pos : Pos} {ta : TE} (ha : PE X o ta) : PG X (.Attribute o f pos) (gFld X.K ta f) := by
  refine ⟨fun pins s σ H v u Q I r h => ?_⟩
  refine PySem.W.kas_attr (thn (ha.run pins s σ H _ I h) fun ov s2 ⟨x, H2, I2, rx, a, C, dx, fs, ex, ea, c, n, l, q2⟩ => ?_)
  subst ex
  obtain rfl : ov = Value.ref a := rx
  exact setattr_ok I2 ea c n l r fun s3 I3 => ⟨σ, _, I3, q2⟩
end
def SpInit (C : Addr) (sc : Sc) : Sp := fun us H Q _ => ∃ (G0 H0 G : Hp) (x dx : Addr) (v : V), us = [.ref x, v] ∧ Fx G0 H0 G H ∧ H x = some (.ins C dx []) ∧ H0 x = none ∧ G x = none ∧ Dq G v (encSc false sc) ∧ ∀ G' H', Fx G0 H0 G' H' → PSelf C sc G' (.ref x) → Q .non H'
def kvsOf (sc : Sc) (i : Nat) : List (Key × V) := ((sc.talks.take i).zipIdx).foldl (fun kvs z => putK kvs (.inr z.1.1) (.int (z.2 : Nat))) []
section
variable {P : Program} {w : World} {K : PySem.W.Frag} {mg : Str → Option Value} {base : Heap} {f C : Addr} {fd : FuncData} {sc : Sc} {Γ : Prm} {D : Nat}
theorem kvs_succ {i : Nat} {t : Str × List Sm} (h : sc.talks[i]? = some t) : kvsOf sc (i + 1) = putK (kvsOf sc i) (.inr t.1) (.int (i : Nat)) := by
  unfold kvsOf
  have hi : i < sc.talks.length := (List.getElem?_eq_some_iff.mp h).1
  rw [List.take_add_one, h]
  simp only [Option.toList, List.zipIdx_append, List.foldl_append, List.zipIdx_cons, List.zipIdx_nil, List.foldl_cons, List.foldl_nil, List.length_take, Nat.zero_add]
  rw [Nat.min_eq_left (by omega)]
theorem kvs_len : ∀ i, (kvsOf sc i).length ≤ i
  | 0 => by simp [kvsOf]
  | i + 1 => by
    cases h : sc.talks[i]? with
    | none =>
      have hi : sc.talks.length ≤ i := List.getElem?_eq_none_iff.mp h
      have := kvs_len i
      unfold kvsOf at this ⊢
      rw [List.take_of_length_le (by omega)] at this ⊢
      omega
    | some t =>
      rw [kvs_succ h]
      have h1 := length_putK (kvsOf sc i) (.inr t.1) (.int (i : Nat))
      have h2 := kvs_len i
      omega
theorem kvs_val (hnd : (sc.talks.map (·.1)).Nodup) : ∀ (i j : Nat) (t : Str × List Sm), j < i → sc.talks[j]? = some t → valV (kvsOf sc i) (.inr t.1) = some (.int (j : Nat))
  | 0, _, _, h, _ => by omega
  | i + 1, j, t, h, ht => by
    have hj := (List.getElem?_eq_some_iff.mp ht).1
    cases hi : sc.talks[i]? with
    | none =>
      have hi' : sc.talks.length ≤ i := List.getElem?_eq_none_iff.mp hi
      have := kvs_val hnd i j t (by omega) ht
      unfold kvsOf at this ⊢
      rw [List.take_of_length_le (by omega)] at this ⊢
      exact this
    | some u =>
      rw [kvs_succ hi, valV_put]
      by_cases e : i = j
      · subst e
        rw [hi] at ht
        cases ht
        rw [if_pos rfl]
      · have ne : ¬ (Sum.inr t.1 : Key) = .inr u.1 := fun z => by
          have z' : t.1 = u.1 := Sum.inr.inj z
          have h1 : (sc.talks.map (·.1))[j]? = some t.1 := by rw [List.getElem?_map, ht]; rfl
          have h2 : (sc.talks.map (·.1))[i]? = some u.1 := by rw [List.getElem?_map, hi]; rfl
          rw [z'] at h1
          have hj2 : j < (sc.talks.map (·.1)).length := by rw [List.length_map]; exact hj
          have hi2 := (List.getElem?_eq_some_iff.mp h2).1
          have e1 := (List.getElem?_eq_some_iff.mp h1).2
          have e2 := (List.getElem?_eq_some_iff.mp h2).2
          have := (List.getElem_inj hnd).mp (e1.trans e2.symm)
          omega
        rw [if_neg ne]
        exact kvs_val hnd i j t (by omega) ht
theorem kvs_all (hnd : (sc.talks.map (·.1)).Nodup) (t : Str) (ht : t ∈ sc.talks.map (·.1)) : valV (kvsOf sc sc.talks.length) (.inr t) = some (.int (tkIx sc t : Nat)) := by
  obtain ⟨b, hb⟩ := tkIx_get ht
  exact kvs_val hnd _ _ _ (List.getElem?_eq_some_iff.mp hb).1 hb
theorem Rp.wr {G0 H0 G H : Hp} {δ : DEnv} {σ : L2.St} {p : Addr} {o : HO} (r : Rp G0 H0 δ σ G H) (h0 : H0 p = none) (gp : G p = none) (hno : ∀ (i : Nat) (ds : List PyData), δ[i]? ≠ some (some (.lst ds))) : Rp G0 H0 δ σ G (upd H p o) :=
  ⟨r.fx.write h0 gp, r.len, fun i s e => by
    obtain ⟨v, h1, h2⟩ := r.sl i s e
    refine ⟨v, h1, ?_⟩
    cases s with
    | dat d => exact h2
    | ph P => exact h2
    | lst ds => exact absurd e (hno i ds), fun i j ds es v e1 e2 e3 e4 => r.ap i j ds es v e1 e2 e3 e4⟩
theorem init_body (B : Free mg) (T : ClsT K C) (Fz : Df P w K mg base "frozen" 35 ["thing"] (rFrozen 34)) (hdp : (encSc false sc).depth ≤ 34) (hfr : frOk (encSc false sc)) (hnd : (sc.talks.map (·.1)).Nodup) (hfew : sc.talks.length ≤ 10) (cdv : Value) (A : Around) (outer : List Env) (sh : Shared) (Hb : Hp) (E : XK)
    (M : Fm (fcx P w K mg base n_Tinit "Teller.__init__" s_Tinit f cdv A outer sh Hb E) P w K mg base 35) (G0 H0 G H : Hp) (x dx : Addr) (v : V) (fx : Fx G0 H0 G H) (hx : H x = some (.ins C dx [])) (h0 : H0 x = none) (hg : G x = none) (hv : Dq G v (encSc false sc)) (Dn : Ends)
    (q : ∀ σ' G' H', Fx G0 H0 G' H' → PSelf C sc G' (.ref x) → Dn.nx σ' H') : uB (fcx P w K mg base n_Tinit "Teller.__init__" s_Tinit f cdv A outer sh Hb E) (defBody s_Tinit) Dn (L2.start n_Tinit [.ref x, v]) H := by
  have rp : Rp G0 H0 [some (.ph fun _ u => u = .ref x), some (.dat (encSc false sc)), none, none] (L2.start n_Tinit [.ref x, v]) G H := by
    refine ⟨fx, rfl, fun i s e => ?_, fun i j ds es u e1 e2 _ _ => ?_⟩
    · match i with
      | 0 => cases e; exact ⟨.ref x, rfl, fun _ _ => rfl⟩
      | 1 => cases e; exact ⟨v, rfl, hv⟩
      | 2 => cases e
      | 3 => cases e
      | n + 4 => cases e
    · match i with
      | 0 => cases e1
      | 1 => cases e1
      | 2 => cases e1
      | 3 => cases e1
      | n + 4 => cases e1
  obtain ⟨X, hX⟩ : ∃ X, X = fcx P w K mg base n_Tinit "Teller.__init__" s_Tinit f cdv A outer sh Hb E := ⟨_, rfl⟩
  have selfE : ∀ (p : Pos) (σ : L2.St) (H : Hp) (Q : VK), σ[0]? = some (some (.ref x)) → Q (.ref x) H → uE (fcx P w K mg base n_Tinit "Teller.__init__" s_Tinit f cdv A outer sh Hb E) (.Name "self" p) σ H Q := fun p σ H Q e1 e2 => ⟨tVar 0, fun j => pe_var rfl (.inl rfl) (by decide) (by decide), _, e1, e2⟩
  refine ⟨tSeq (uS _ _) (uB _ _), fun i => pss_cons (uS_ok i) (uB_ok i), ?_⟩
  refine ⟨tAsg (uE _ _) (gTup K 2 (gCons (gFld K (uE _ _) "boxes") (gCons (gFld K (uE _ _) "talks") gNil))), fun i => ps_asg (uE_ok i) (pg_tup (M.calm i) (pgs_cons (pg_attr (uE_ok i)) (pgs_cons (pg_attr (uE_ok i)) pgs_nil rfl) rfl) rfl rfl) rfl rfl rfl, ?_⟩
  refine (ed_call Fz (ea_cons (ed_var 1) ea_nil) ⟨encSc false sc, hdp, hfr, rfl, rfl⟩ : ED _ _ _ (fz (encSc false sc))) G0 H0 _ G H rp _ fun u G1 H1 f1 hu => ?_
  rw [fz_sc] at hu
  cases hu with
  | @tup a xs _ ha hxs =>
    cases hxs with
    | @cons vb _ _ _ hvb hxs =>
      cases hxs with
      | @cons vt _ _ _ hvt hxs =>
        cases hxs
        have fx1 := fx.trans f1
        have gx1 : G1 x = none := f1.m x hg (by rw [hx]; exact fun z => nomatch z)
        have hx1 : H1 x = some (.ins C dx []) := f1.h _ _ hx
        refine ⟨a, [vb, vt], rfl, SqT.of (fx1.s _ _ ha), rfl, vb, [vt], rfl, ?_⟩
        refine selfE _ _ _ _ rfl ⟨x, C, dx, [], rfl, hx1, T.cls, T.boxes, by decide, vt, [], rfl, ?_⟩
        refine selfE _ _ _ _ rfl ⟨x, C, dx, [("boxes", vb)], rfl, upd_same, T.cls, T.talks, Nat.le_of_ble_eq_true rfl, rfl, ?_⟩
        have fx2 := (fx1.write (o := .ins C dx [("boxes", vb)]) h0 gx1).write (o := .ins C dx [("boxes", vb), ("talks", vt)]) h0 gx1
        show uB _ _ Dn _ (upd (upd H1 x (.ins C dx [("boxes", vb)])) x (.ins C dx [("boxes", vb), ("talks", vt)]))
        have hx2 : (upd (upd H1 x (.ins C dx [("boxes", vb)])) x (.ins C dx [("boxes", vb), ("talks", vt)])) x = some (.ins C dx [("boxes", vb), ("talks", vt)]) := upd_same
        generalize (upd (upd H1 x (.ins C dx [("boxes", vb)])) x (.ins C dx [("boxes", vb), ("talks", vt)])) = H2 at fx2 hx2 ⊢
        refine ⟨tSeq (uS _ _) (uB _ _), fun i => pss_cons (uS_ok i) (uB_ok i), ?_⟩
        refine ⟨sFld K (uE _ _) tDNewK "numbers", fun i => ps_fld (uE_ok i) pe_dnewK rfl, fun nd hnd0 => ?_⟩
        have nne : x ≠ nd := ne_of_none hx2 hnd0
        have gnd : G1 nd = none := fx2.s.free hnd0
        have h0nd : H0 nd = none := fx2.h.free hnd0
        have fx3 := fx2.trans (Fx.lay fx2.s hnd0 (.dK []))
        refine selfE _ _ _ _ rfl ⟨x, C, dx, [("boxes", vb), ("talks", vt)], rfl, by rw [upd_ne nne]; exact hx2, T.cls, T.numbers, Nat.le_of_ble_eq_true rfl, ?_⟩
        have fx4 := fx3.write (o := .ins C dx (tFs vb vt nd)) h0 gx1
        show uB _ _ Dn _ (upd (upd H2 nd (.dK [])) x (.ins C dx (tFs vb vt nd)))
        have hx4 : (upd (upd H2 nd (.dK [])) x (.ins C dx (tFs vb vt nd))) x = some (.ins C dx (tFs vb vt nd)) := upd_same
        have hd4 : (upd (upd H2 nd (.dK [])) x (.ins C dx (tFs vb vt nd))) nd = some (.dK []) := by rw [upd_ne (Ne.symm nne), upd_same]
        generalize (upd (upd H2 nd (.dK [])) x (.ins C dx (tFs vb vt nd))) = H4 at fx4 hx4 hd4 ⊢
        have fx5 := fx4.freeze hx4 h0 gx1
        have gg : Same G1 (upd G1 x (.ins C dx (tFs vb vt nd))) := fun b u z => by
          rw [upd_ne (ne_of_none z gx1)]
          exact z
        have gx5 : (upd G1 x (.ins C dx (tFs vb vt nd))) x = some (.ins C dx (tFs vb vt nd)) := upd_same
        have gd5 : (upd G1 x (.ins C dx (tFs vb vt nd))) nd = none := by rw [upd_ne (Ne.symm nne)]; exact gnd
        have dvb := Dq.mono gg _ _ hvb
        have dvt := Dq.mono gg _ _ hvt
        generalize upd G1 x (.ins C dx (tFs vb vt nd)) = G5 at fx5 gx5 gd5 dvb dvt
        have rp5 : Rp G0 H0 [some (.ph fun G' u => u = .ref x ∧ G' x = some (.ins C dx (tFs vb vt nd)) ∧ Dq G' vt (.tuple (sc.talks.map (encTalk true)))), none, none, none] (L2.start n_Tinit [.ref x, v]) G5 H4 := by
          refine ⟨fx5, rfl, fun i s e => ?_, fun i j ds es u e1 e2 _ _ => ?_⟩
          · match i with
            | 0 => cases e; exact ⟨.ref x, rfl, fun G' z => ⟨rfl, z _ _ gx5, Dq.mono z _ _ dvt⟩⟩
            | 1 => cases e
            | 2 => cases e
            | 3 => cases e
            | n + 4 => cases e
          · match i with
            | 0 => cases e1
            | 1 => cases e1
            | 2 => cases e1
            | 3 => cases e1
            | n + 4 => cases e1
        have htalk : ∀ (p pos : Pos) (u2 u3 : Option Sl), ED (fcx P w K mg base n_Tinit "Teller.__init__" s_Tinit f cdv A outer sh Hb E) [some (.ph fun G' u => u = .ref x ∧ G' x = some (.ins C dx (tFs vb vt nd)) ∧ Dq G' vt (.tuple (sc.talks.map (encTalk true)))), none, u2, u3] (.Attribute (.Name "self" p) "talks" pos) (.tuple (sc.talks.map (encTalk true))) := fun p pos u2 u3 G0 H0 σ G H rp Q q =>
          ⟨tFld K (uE _ (.Name "self" p)) "talks", fun j => pe_fld (uE_ok j) rfl, ev_ph (M := M) 0 (fun _ => rfl) (fun _ => .inl rfl) rfl (by decide) (by decide) rp fun u h => by
            obtain ⟨rfl, h2, h3⟩ := h G (Same.refl G)
            exact ⟨x, C, dx, tFs vb vt nd, vt, rfl, rp.fx.s _ _ h2, T.cls, T.talks, rfl, q _ G H (Fx.refl rp.fx.s) h3⟩⟩
        refine ⟨tFor (uI _ _ _) (uG _ _) (uB _ _), fun i => pss_one (ps_for (M.pass i) (M.calm i) (uI_ok i) (uG_ok i) (uB_ok i) (fun _ => rfl)), ?_⟩
        refine is_enumT (htalk _ _ _ _) B.enumerate (fun _ => rfl) (fun _ => rfl) G0 H0 _ G5 H4 rp5 _ fun J G6 H6 f6 hJ => ?_
        obtain ⟨Gp, Y, wk, hG, hY⟩ := hJ.ex
        have hlen : (((sc.talks.map (encTalk true)).zipIdx.map fun z => PyData.tuple [.int z.2, z.1])).length = sc.talks.length := by simp
        have gd6 : G6 nd = none := f6.m nd gd5 (by rw [hd4]; exact fun z => nomatch z)
        refine for_it wk (fun i σ2 H2 => ∃ u2 u3 G2, Rp G6 H0 [some (.ph fun G' u => u = .ref x ∧ G' x = some (.ins C dx (tFs vb vt nd)) ∧ Dq G' vt (.tuple (sc.talks.map (encTalk true)))), none, u2, u3] σ2 G2 H2 ∧ (∀ ds, u2 ≠ some (.lst ds)) ∧ (∀ ds, u3 ≠ some (.lst ds)) ∧ G2 nd = none ∧ H2 nd = some (.dK (kvsOf sc i)))
          ⟨none, none, G6, (rp5.go f6).base, (fun _ z => by cases z), (fun _ z => by cases z), gd6, f6.h _ _ hd4⟩ (fun i σ2 H2 _ ⟨_, _, G2, r2, _⟩ => hG H2 (r2.fx.g.trans r2.fx.s)) ?_ ?_
        · rintro i y σ2 H2 H3 hi' ⟨u2, u3, G2, r2, n2, n3, gd2, hd2⟩ yy
          obtain ⟨G3, d, hd', f3, hy⟩ := hY i H2 y H3 G2 hi' r2.fx.g r2.fx.s yy
          rw [hlen] at hi'
          have ed : d = .tuple [.int (i : Nat), encTalk true sc.talks[i]] := by
            rw [List.getElem?_map, List.getElem?_eq_getElem (by simpa using hi')] at hd'
            have := Option.some.inj hd'
            rw [← this]
            simp
          subst ed
          refine gb_tup (δ' := [some (.ph fun G' u => u = .ref x ∧ G' x = some (.ins C dx (tFs vb vt nd)) ∧ Dq G' vt (.tuple (sc.talks.map (encTalk true)))), none, some (.dat (.int (i : Nat))), some (.dat (encTalk true sc.talks[i]))]) (ws := [2, 3]) (gbs_cons 2 (gbs_cons 3 gbs_nil)) rfl (fun _ => rfl) (fun _ => rfl) G6 H0 σ2 G3 H3 (r2.go f3) y hy _ fun σ3 r3 _ => ?_
          refine ⟨sDPut (tFld K (uE _ _) "numbers") (uE _ _) (uE _ _), fun j => pss_one (ps_dput (by have := (M.room j).un; omega) (pe_fld (uE_ok j) rfl) (uE_ok j) (uE_ok j) rfl), ?_⟩
          refine (ed_var 2 : ED _ _ _ (.int (i : Nat))) G6 H0 σ3 G3 H3 r3 _ fun v1 G7 H7 f7 hv1 => ?_
          have r7 := r3.go f7
          refine ev_ph (M := M) 0 (fun _ => rfl) (fun _ => .inl rfl) rfl (by decide) (by decide) r7 fun u h => ?_
          obtain ⟨rfl, h2, h3⟩ := h G7 (Same.refl G7)
          refine ⟨x, C, dx, tFs vb vt nd, .ref nd, rfl, r7.fx.s _ _ h2, T.cls, T.numbers, rfl, ?_⟩
          refine (ed_ixT (ed_var 3) ed_int : ED _ _ _ (.str (sc.talks[i]).1)) G6 H0 σ3 G7 H7 r7 _ fun v2 G8 H8 f8 hv2 => ?_
          have f38 := (f3.trans f7).trans f8
          have r8 := r7.go f8
          cases hv1
          cases hv2
          have hd8 : H8 nd = some (.dK (kvsOf sc i)) := f38.h _ _ hd2
          have gd8 : G8 nd = none := f38.m nd gd2 (by rw [hd2]; exact fun z => nomatch z)
          have hkl := kvs_len (sc := sc) i
          refine ⟨nd, _, rfl, .inl ⟨kvsOf sc i, .inr (sc.talks[i]).1, hd8, rfl, Nat.lt_of_le_of_lt (Nat.le_trans hkl (show i ≤ 10 by omega)) (by decide), rfl⟩, ?_⟩
          refine ⟨_, _, G8, Rp.wr r8 h0nd gd8 (fun j ds e => ?_), (fun _ z => by cases z), (fun _ z => by cases z), gd8, ?_⟩
          · match j with
            | 0 => cases e
            | 1 => cases e
            | 2 => cases e
            | 3 => cases e
            | n + 4 => cases e
          · rw [upd_same, kvs_succ (List.getElem?_eq_getElem hi')]
        · rintro σ2 H2 ⟨u2, u3, G2, r2, _, _, gd2, hd2⟩
          rw [hlen] at hd2
          have fxe : Fx G0 H0 G2 H2 := (r2.back (fx5.trans f6)).fx
          have g52 : Same G5 G2 := f6.g.trans r2.fx.g
          have fxz := fxe.freeze hd2 h0nd gd2
          have gz : Same G2 (upd G2 nd (.dK (kvsOf sc sc.talks.length))) := fun b u z => by
            rw [upd_ne (ne_of_none z gd2)]
            exact z
          refine q σ2 _ H2 fxz ⟨x, dx, vb, vt, nd, _, rfl, gz _ _ (g52 _ _ gx5), Dq.mono (g52.trans gz) _ _ dvb, Dq.mono (g52.trans gz) _ _ dvt, upd_same, kvs_all hnd⟩
end
end CM

namespace CM
open PySem L2 DL
section
variable {P : Program} {w : World} {K : PySem.W.Frag} {mg : Str → Option Value} {base : Heap} {f C : Addr} {fd : FuncData} {sc : Sc} {Γ : Prm} {D : Nat}
theorem fn_init (F : Fun K "__init__" "Teller.__init__" s_Tinit f fd) (B : Free mg) (T : ClsT K C) (Fz : Df P w K mg base "frozen" 35 ["thing"] (rFrozen 34)) (hdp : (encSc false sc).depth ≤ 34) (hfr : frOk (encSc false sc)) (hnd : (sc.talks.map (·.1)).Nodup) (hfew : sc.talks.length ≤ 10) :
    FnOk P w K mg base CX0 36 f fd ["self", "script"] (SpInit C sc) := by
  refine F.ok sc_Tinit (fun vs H Q E h => ?_) (fun cdv A outer s H vs Q E hr h => ?_)
  · obtain ⟨G0, H0, G, x, dx, v, rfl, _⟩ := h
    rfl
  · obtain ⟨G0, H0, G, x, dx, v, rfl, fx, hx, h0, hg, hv, q⟩ := h
    have M : Fm (fcx P w K mg base n_Tinit "Teller.__init__" s_Tinit f cdv A outer s H E) P w K mg base 35 :=
      ⟨fun _ => rfl, fun _ => rfl, fun _ => rfl, fun _ => rfl, fun _ => rfl, fun _ => rfl, fun _ => hr, fun _ => sc_Tinit.nd, fun _ => PassesOwn.never⟩
    refine ⟨uB (fcx P w K mg base n_Tinit "Teller.__init__" s_Tinit f cdv A outer s H E) (defBody s_Tinit), uB_ok (X := fcx P w K mg base n_Tinit "Teller.__init__" s_Tinit f cdv A outer s H E) (), ?_⟩
    exact init_body B T Fz hdp hfr hnd hfew cdv A outer s H E M G0 H0 G H x dx v fx hx h0 hg hv _ fun σ' G' H' f' p => q G' H' f' p
theorem fn_go (F : Fun K "go" "Teller.go" s_Tgo f fd) (B : Free mg) (T : ClsT K C) (ok : ScOk sc Γ D) (hD : D ≤ 2077) (Hd : Df P w K mg base "hand_text" 1 ["line", "word"] rHand) (Ho : Df P w K mg base "holds" 8 ["condition", "boxes", "values"] (rHolds 3)) (Mb : Dm P w K mg base C "body_at" 2 ["self", "path"] (rBodyAt C sc))
    (Mh : Dm P w K mg base C "behind" 2 ["self", "statement", "path", "at", "frames"] (rBehind C sc)) (Mp : Dm P w K mg base C "put_in" 5 ["self", "values", "name", "expression"] (rPut C sc)) : FnOk P w K mg base CX0 9 f fd ["self", "frames", "values"] (SpGo C sc Γ D) := by
  refine F.ok sc_Tgo (fun vs H Q E h => ?_) (fun cdv A outer s H vs Q E hr h => ?_)
  · obtain ⟨G0, H0, G, S, ws, r, v0, v1, v2, rfl, _⟩ := h
    rfl
  · obtain ⟨G0, H0, G, S, ws, r, v0, v1, v2, rfl, fx, h0, h1, h2, hw, hl, hr', q⟩ := h
    have M : Fm (fcx P w K mg base n_Tgo "Teller.go" s_Tgo f cdv A outer s H E) P w K mg base 8 :=
      ⟨fun _ => rfl, fun _ => rfl, fun _ => rfl, fun _ => rfl, fun _ => rfl, fun _ => rfl, fun _ => hr, fun _ => sc_Tgo.nd, fun _ => PassesOwn.never⟩
    refine ⟨uB (fcx P w K mg base n_Tgo "Teller.go" s_Tgo f cdv A outer s H E) (defBody s_Tgo), uB_ok (X := fcx P w K mg base n_Tgo "Teller.go" s_Tgo f cdv A outer s H E) (), ?_⟩
    have rp : Rp G0 H0 [some (.ph (PSelf C sc)), some (.lst (encStk S)), some (.dat (intT ws)), none, none, none, none, none, none, none, none] (L2.start n_Tgo [v0, v1, v2]) G H := by
      refine ⟨fx, rfl, fun i s e => ?_, fun i j ds es u e1 e2 _ _ => ?_⟩
      · match i with
        | 0 => cases e; exact ⟨v0, rfl, h0⟩
        | 1 => cases e; exact ⟨v1, rfl, h1⟩
        | 2 => cases e; exact ⟨v2, rfl, h2⟩
        | 3 => cases e
        | 4 => cases e
        | 5 => cases e
        | 6 => cases e
        | 7 => cases e
        | 8 => cases e
        | 9 => cases e
        | 10 => cases e
        | n + 11 => cases e
      · have one : ∀ (i : Nat) (ds : List PyData), ([some (.ph (PSelf C sc)), some (.lst (encStk S)), some (.dat (intT ws)), none, none, none, none, none, none, none, none] : DEnv)[i]? = some (some (.lst ds)) → i = 1 := fun i ds e => by
          match i with
          | 0 => cases e
          | 1 => rfl
          | 2 => cases e
          | 3 => cases e
          | 4 => cases e
          | 5 => cases e
          | 6 => cases e
          | 7 => cases e
          | 8 => cases e
          | 9 => cases e
          | 10 => cases e
          | n + 11 => cases e
        rw [one i ds e1, one j es e2]
    refine go_body B T ok hD Hd Ho Mb Mh Mp cdv A outer s H E M S ws r hw hl hr' G0 H0 _ G H _ rp ⟨fun _ _ _ _ _ z => z.elim, fun r' v G' H' f' h' e => ?_, fun _ _ _ _ _ z => z.elim, fun _ _ _ _ _ z => z.elim⟩
    rw [show r' = .dat (encRz r) from e] at h'
    exact q v G' H' f' h'
/-- go as a method -/
structure GoOk (P : Program) (w : World) (K : PySem.W.Frag) (mg : Str → Option Value) (base : Heap) (C : Addr) (sc : Sc) (Γ : Prm) (D : Nat) : Prop where
  ex : ∃ (f : Addr) (fd : FuncData), FnOk P w K mg base CX0 9 f fd ["self", "frames", "values"] (SpGo C sc Γ D) ∧ Meth K C "go" f ∧ Binds K fd ["self", "frames", "values"] []
section
variable {ι : Type} {X : ι → Cx} {δ : DEnv} {k : Nat} [M : Fm X P w K mg base k] {e1 e2 : Expr} {p pos apos : Pos} {x : Str}
include M
theorem ed_go (Go : GoOk P w K mg base C sc Γ D) (T : ClsT K C) (i : Nat) {S : List Fr} {ws : List Int} {r : Rz} (h1 : EL X δ e1 (encStk S)) (h2 : ED X δ e2 (intT ws)) (hw : WS sc Γ D S) (hl' : ws.length = sc.boxes.length) (hr : runM sc (lim D) S ws = some r) (hk : 9 ≤ k := by decide)
    (hl : δ[i]? = some (some (.ph (PSelf C sc))) := by rfl) (hN : ∀ j, (X j).N[i]? = some x := by intro _; rfl) (hv : ∀ j, Vis (X j).env.scope x := by intro _; first | exact Or.inl rfl | exact Or.inr (Or.inl rfl) | exact Or.inr (Or.inr rfl)) {pl : ι → Sem Bool}
    (hd : (x == ("__debug__" : Str)) = false := by decide) (hcd : (x == ("__classdict__" : Str)) = false := by decide) (hst : ∀ j, starEach [e1, e2] (X j).env = (false, eval e1 (X j).env) :: starEach [e2] (X j).env := by intro _; rfl) (hst2 : ∀ j, starEach [e2] (X j).env = (false, eval e2 (X j).env) :: starEach [] (X j).env := by intro _; rfl) (hpl : ∀ j, (backTo pos (starEach [e2] (X j).env)).any (·.1) = false := by intro _; rfl)
    (ht : ∀ j, eval (.Call (.Attribute (.Name x p) "go" apos) [e1, e2] [] pos) (X j).env = (do
      let ov ← eval (.Name x p) (X j).env
      standAt apos.atName
      let (f, first) ← holding [ov] (getMethod ov "go" (pl j))
      callWith pos f first (backTo pos (starEach [e1, e2] (X j).env)) (backToKw pos (keywordEach [] (X j).env))) := by intro _; rfl) : ED X δ (.Call (.Attribute (.Name x p) "go" apos) [e1, e2] [] pos) (encRz r) := fun G0 H0 σ G H rp Q q => by
  obtain ⟨f, fd, F, g1, g2⟩ := Go.ex
  refine ⟨tMeth C "go" (SpGo C sc Γ D) [] E0 (uE X (.Name x p)) (tCons (uE X e1) (tCons (uE X e2) tNil)), fun j => pe_meth (pl := pl j) (uE_ok j) (by rw [M.frag j]; exact T.cls) (by rw [M.frag j]; exact g1) (Fm.fn M F j) ((M.room j).mono hk) (by rw [M.frag j]; exact g2) .nil pass0 (pa_cons (uE_ok j) (pa_cons (uE_ok j) pa_nil (hst2 j)) (hst j)) (hst j) (hpl j) (ht j), ?_⟩
  refine ev_ph (M := M) i hN hv hl hd hcd rp fun v h => ?_
  obtain ⟨a, dx, vb, vt, nd, kvs, rfl, q2, q3⟩ := h G (Same.refl G)
  refine ⟨a, dx, tFs vb vt nd, rfl, rp.fx.s _ _ q2, rfl, ?_⟩
  refine h1 G0 H0 σ G H rp _ fun p1 xs G1 H1 f1 a1 a2 a3 a4 => ?_
  refine h2 G0 H0 σ G1 H1 (rp.go f1) _ fun v2 G2 H2 f2 hv2 => ?_
  refine ⟨G, H, G2, S, ws, r, .ref a, .ref p1, v2, rfl, f1.trans f2, fun G' s => h G' ((f1.trans f2).g.trans s), ⟨p1, xs, rfl, f2.h _ _ a2, f2.m _ a3 (by rw [a2]; exact fun z => nomatch z), a1, DqAll.mono f2.g _ _ a4⟩, hv2, hw, hl', hr, fun v G' H' f' hv' => q v G' H' f' hv'⟩
end
/-! ### begin -/
def zeros (sc : Sc) : List Int := sc.boxes.map fun _ => 0
theorem ws_start (ok : ScOk sc Γ D) : WS sc Γ D [⟨[0], 0, .talk⟩] := by
  cases ht : sc.talks with
  | nil => exact absurd ht ok.ne
  | cons t r =>
    obtain ⟨h1, h2, h3⟩ := ok.talks t (by rw [ht]; exact List.mem_cons_self)
    refine ⟨⟨t.2, ?_, Nat.zero_le _, h1, (fun z => by cases z), (fun z => absurd rfl z), ?_, by decide⟩, trivial⟩
    · simp [bodyAt, ht, walkP]
    · simpa using h3
def rBegin (C : Addr) (sc : Sc) (Γ : Prm) (D : Nat) : List Sl → Rs → Prop := fun as r => ∃ q, runM sc (lim D) [⟨[0], 0, .talk⟩] (zeros sc) = some q ∧ as = [.ph (PSelf C sc)] ∧ r = .dat (encRz q)
theorem dm_begin (F : Fun K "begin" "Teller.begin" s_Tbegin f fd) (B : Free mg) (T : ClsT K C) (ok : ScOk sc Γ D) (Go : GoOk P w K mg base C sc Γ D) (hm : Meth K C "begin" f) (hb : Binds K fd ["self"] []) : Dm P w K mg base C "begin" 10 ["self"] (rBegin C sc Γ D) := by
  refine dm_mk F sc_Tbegin hm hb (fun as r ⟨_, _, e, _⟩ => by rw [e]; rfl) fun cdv A outer sh H E M as r hR => ?_
  obtain ⟨q, hq, e1, e2⟩ := hR
  subst e1 e2
  exact db_one (ds_ret (ed_go Go T 0 (S := [⟨[0], 0, .talk⟩]) (ws := zeros sc) (el_lst (ds := [encFr ⟨[0], 0, .talk⟩]) (ea_cons (ed_tup (ds := [encPath [0], .int 0, .str "talk"]) (ea_cons (ed_tup (ds := [.int 0]) (ea_cons ed_int ea_nil)) (ea_cons ed_int (ea_cons ed_str ea_nil)))) ea_nil))
    ((ed_tupleL (el_lcAll [("box", 1)] (xs := sc.boxes) (enc := encBox) (f := fun _ => .int 0) (is_tup (ed_boxes T 0)) (by have := ok.fewb; omega) (fun x hx => ⟨_, gb_name 1, ets_nil, fun _ => ed_int⟩)).q B.tuple).is (by unfold zeros intT; rw [List.map_map]; rfl)) (ws_start ok) (by unfold zeros; rw [List.length_map]) hq) rfl)
end
end CM

namespace CM
open PySem L2 DL
def waitOf (sc : Sc) (S : List Fr) : Option (List (Tk × List Sm)) := match S with
  | [] => none
  | f :: _ => match bodyAt sc f.path with
    | none => none
    | some B => match B[f.pos - 1]? with
      | some (.wait _ bs) => some bs
      | _ => none
def brOr (bs : List (Tk × List Sm)) : Option Nat → Option Nat
  | some j => some j
  | none => brNone bs
def stepB (sc : Sc) (D : Nat) (S : List Fr) (vs : List Int) (l : Int) (bs : List (Tk × List Sm)) (br : Option Nat) : Option Rz :=
  if br = none ∧ l ≠ 1 then some ([], some (S, vs, max 0 (l - 1)))
  else match brOr bs br with
    | none => runM sc (lim D) S vs
    | some j => match S with
      | [] => none
      | f :: F => runM sc (lim D) (⟨f.path ++ [f.pos - 1, j], 0, .block⟩ :: f :: F) vs
def stepM (sc : Sc) (D : Nat) (st : Option (List Fr × List Int × Int)) (t : Tk) : Option Rz := match st with
  | none => some ([], none)
  | some q => match waitOf sc q.1 with
    | none => none
    | some bs => stepB sc D q.1 q.2.1 q.2.2 bs (brFor bs t)
def StdOk (sc : Sc) (Γ : Prm) (D : Nat) : Option (List Fr × List Int × Int) → Prop
  | none => True
  | some q => StOk sc Γ D q.1 q.2.1 q.2.2
theorem tk_lt {bs : List (Tk × List Sm)} {t : Tk} (h : hasTk bs t = true) : tkAt bs t < bs.length := by
  rw [tkAt, List.findIdx_lt_length]
  exact List.any_eq_true.mp h
theorem brFor_lt {bs : List (Tk × List Sm)} {t : Tk} {j : Nat} (h : brFor bs t = some j) : j < bs.length := by
  unfold brFor at h
  split at h
  · rename_i h1
    cases h
    exact tk_lt h1
  · split at h
    · rename_i h1
      cases h
      exact tk_lt h1.2
    · cases h
theorem brOr_lt {bs : List (Tk × List Sm)} {br : Option Nat} {j : Nat} (h : brOr bs br = some j) (hb : ∀ j, br = some j → j < bs.length) : j < bs.length := by
  cases br with
  | some i => exact hb j h
  | none =>
    unfold brOr brNone at h
    simp only at h
    split at h
    · rename_i h1
      cases h
      exact tk_lt h1
    · cases h
theorem wR_len {wt : Str → Nat} : ∀ bs : List (Tk × List Sm), bs.length ≤ wR wt bs
  | [] => Nat.le_refl _
  | (_, b) :: r => by
    have := wR_len (wt := wt) r
    have := wB_one (wt := wt) b
    simp only [wR, List.length_cons]
    omega
section
variable {sc : Sc} {Γ : Prm} {D : Nat}
theorem stepB_ok (ok : ScOk sc Γ D) {S : List Fr} {vs : List Int} {l : Int} {bs : List (Tk × List Sm)} (h : StOk sc Γ D S vs l) (hb : waitOf sc S = some bs) {br : Option Nat} (hbr : ∀ j, br = some j → j < bs.length) : ∃ r, stepB sc D S vs l bs br = some r ∧ RzOk sc Γ D r ∧ r.1.length ≤ lim D := by
  obtain ⟨hw, hv, hl, f, F, B, l', bs', rfl, hbd, hp, hB⟩ := h
  have ebs : bs' = bs := by
    simp only [waitOf, hbd, hB] at hb
    exact Option.some.inj hb
  subst ebs
  unfold stepB
  split
  · exact ⟨_, rfl, ⟨(fun x hx => by cases hx), hw, hv, (by show 0 ≤ max 0 (l - 1) ∧ max 0 (l - 1) ≤ 9; omega), f, F, B, l', bs', rfl, hbd, hp, hB⟩, Nat.zero_le _⟩
  · cases e : brOr bs' br with
    | none => exact runs ok hw hv
    | some j =>
      have hj := brOr_lt e hbr
      obtain ⟨⟨B', hF⟩, wF⟩ := id hw
      have eB : B' = B := by
        have := hF.body
        rw [hbd] at this
        exact (Option.some.inj this).symm
      subst eB
      obtain ⟨p, pos, kd⟩ := f
      have hsub : subB (.wait l' bs') j = some bs'[j].2 := by
        simp only [subB]
        rw [List.getElem?_eq_getElem hj]
        rfl
      have hpos : pos - 1 + 1 = pos := by
        have : 1 ≤ pos := hp
        omega
      have h2 := frOk_sub (FrOk.to hF (q := pos - 1) (by have : pos ≤ B'.length := hF.le; omega)) hB hsub (k := .block) (.inr ⟨rfl, rfl⟩)
      simp only [hpos] at h2
      exact runs ok (S := ⟨p ++ [pos - 1, j], 0, .block⟩ :: ⟨p, pos, kd⟩ :: F) ⟨⟨_, h2⟩, hw⟩ hv
theorem step_total (ok : ScOk sc Γ D) {st : Option (List Fr × List Int × Int)} (h : StdOk sc Γ D st) (t : Tk) : ∃ r, stepM sc D st t = some r ∧ RzOk sc Γ D r ∧ r.1.length ≤ lim D := by
  cases st with
  | none => exact ⟨_, rfl, ⟨(fun x hx => by cases hx), trivial⟩, Nat.zero_le _⟩
  | some q =>
    obtain ⟨S, vs, l⟩ := q
    have h' : StOk sc Γ D S vs l := h
    obtain ⟨hw, hv, hl, f, F, B, l', bs, rfl, hbd, hp, hB⟩ := id h'
    have hb : waitOf sc (f :: F) = some bs := by simp only [waitOf, hbd, hB]
    simp only [stepM, hb]
    exact stepB_ok ok h' hb fun j hj => brFor_lt hj
end
def rStep (C : Addr) (sc : Sc) (Γ : Prm) (D : Nat) : List Sl → Rs → Prop := fun as r => ∃ (st : Option (List Fr × List Int × Int)) (t : Tk) (q : Rz), StdOk sc Γ D st ∧ PyData.canLay0 (encTk t) = true ∧ stepM sc D st t = some q ∧ as = [.ph (PSelf C sc), .dat (encSt st), .dat (encTk t)] ∧ r = .dat (encRz q)
section
variable {P : Program} {w : World} {K : PySem.W.Frag} {mg : Str → Option Value} {base : Heap} {f C : Addr} {fd : FuncData} {sc : Sc} {Γ : Prm} {D : Nat}
section
variable {ι : Type} {X : ι → Cx} {δ : DEnv} {k : Nat} [M : Fm X P w K mg base k] {a : Expr} {pos p : Pos} {j : Nat}
include M
theorem et_isN1 (ha : ED X δ a .none) : ET X δ (.Compare a [.Is] [.Constant .none 0 p] pos) true := et_isN ha
theorem et_isNt {ds : List PyData} (ha : ED X δ a (.tuple ds)) : ET X δ (.Compare a [.Is] [.Constant .none 0 p] pos) false := et_isN ha
theorem et_isNi {n : Int} (ha : ED X δ a (.int n)) : ET X δ (.Compare a [.Is] [.Constant .none 0 p] pos) false := et_isN ha
end
theorem dm_step (F : Fun K "step" "Teller.step" s_Tstep f fd) (B : Free mg) (T : ClsT K C) (ok : ScOk sc Γ D) (hD : D ≤ 2077) (hQL : ∀ t, Γ.Q t → PyData.canLay0 (encTk t) = true) (Go : GoOk P w K mg base C sc Γ D) (Mb : Dm P w K mg base C "body_at" 2 ["self", "path"] (rBodyAt C sc)) (Br : Df P w K mg base "branch_for" 1 ["wait", "event"] rBr) (Bn : Df P w K mg base "branch_for_none" 1 ["wait"] rBrN)
    (hm : Meth K C "step" f) (hb : Binds K fd ["self", "standing", "event"] []) : Dm P w K mg base C "step" 10 ["self", "standing", "event"] (rStep C sc Γ D) := by
  refine dm_mk F sc_Tstep hm hb (fun as r ⟨_, _, _, _, _, _, e, _⟩ => by rw [e]; rfl) fun cdv A outer sh H E M as r hR => ?_
  obtain ⟨st, t, q, hst, ht, hq, e1, e2⟩ := hR
  subst e1 e2
  cases st with
  | none =>
    cases hq
    refine db_cons (ds_if (et_isN1 (ed_var 1)) (fun h => ?_) (fun h => absurd h (by decide)))
    exact db_one (ds_ret (ed_tup (ds := [.list [], .none]) (ea_cons (el_lst (ds := []) ea_nil).dd (ea_cons ed_non ea_nil))) rfl)
  | some q0 =>
    obtain ⟨S, vs, l⟩ := q0
    have h' : StOk sc Γ D S vs l := hst
    obtain ⟨hw, hv, hl, g, F', Bd, l', bs, rfl, hbd, hp, hB⟩ := id h'
    have hwb : waitOf sc (g :: F') = some bs := by simp only [waitOf, hbd, hB]
    simp only [stepM, hwb] at hq
    obtain ⟨p, pos, kd⟩ := g
    obtain ⟨⟨B', hF⟩, wF⟩ := id hw
    have eB : B' = Bd := by
      have := hF.body
      rw [hbd] at this
      exact (Option.some.inj this).symm
    subst eB
    have hlb : layBr bs := by
      have h1 := okB_get hF.ok hB
      refine ⟨fun x hx => hQL _ (okR_all.mp h1.2 x hx).1, ?_⟩
      have h2 := wS_le (wt := Γ.wt) hB
      have h3 := wR_len (wt := Γ.wt) bs
      have h4 := hF.few
      simp only [wS] at h2
      omega
    have hpl : p.length ≤ 100000 := by
      have h1 := hF.plen
      have h2 := ws_len hw
      simp only [List.length_cons] at h1 h2
      omega
    have hFl : F'.length + 1 ≤ 2077 := by
      have h2 := ws_len hw
      simp only [List.length_cons] at h2
      omega
    have hpp : 1 ≤ pos := hp
    have hpos : (pos : Int) - 1 = ((pos - 1 : Nat) : Int) := by omega
    have eS := encStk_cons ⟨p, pos, kd⟩ F'
    have hlen := encStk_len (⟨p, pos, kd⟩ :: F')
    refine db_cons (ds_if (et_isNt (ed_var 1)) (fun h => absurd h (by decide)) (fun h => db_nil ?_))
    refine db_cons (ds_asg (ed_var 1) (gb_tup (gbs_cons 3 (gbs_cons 4 (gbs_cons 5 gbs_nil)))) ?_)
    refine db_cons (ds_asg (ed_ixT (ed_var 3) (ed_neg ed_int) (d := encFr ⟨p, pos, kd⟩) (by rw [eS]; exact atI_last _ _)) (gb_tup (gbs_cons 6 (gbs_cons 7 (gbs_cons 8 gbs_nil)))) ?_)
    refine db_cons (ds_set 9 (ed_ixT (ed_dm (sc := sc) Mb T 0 (ea_cons (ed_var 6) ea_nil) ⟨p, B', hpl, hbd, rfl, rfl⟩) ((ed_sub (ed_var 7) ed_int).is (congrArg PyData.int hpos)) (encB_get true B' (pos - 1) _ hB)) ?_)
    refine db_cons (ds_set 10 (ed_call Br (ea_cons (ed_var 9) (ea_cons (ed_var 2) ea_nil)) ⟨l', bs, t, hlb, ht, rfl, rfl⟩) ?_)
    have hcat : ∀ j : Nat, (p.map fun (n : Nat) => PyData.int (n : Int)) ++ [.int ((pos - 1 : Nat) : Int), .int (j : Int)] = (p ++ [pos - 1, j]).map fun (n : Nat) => PyData.int (n : Int) := fun j => cat_path _ _ _
    cases hbr : brFor bs t with
    | some j =>
      have hj := brFor_lt hbr
      rw [hbr] at hq
      have hq2 : runM sc (lim D) (⟨p ++ [pos - 1, j], 0, .block⟩ :: ⟨p, pos, kd⟩ :: F') vs = some q := by
        unfold stepB at hq
        rw [if_neg (fun z => by cases z.1)] at hq
        exact hq
      refine db_cons (ds_if (EW.t (ew_and (l := false) (et_isNi (ed_var 10)) (fun h => by cases h))) (fun h => absurd h (by decide)) (fun h => db_nil ?_))
      refine db_cons (ds_if (et_isNi (ed_var 10)) (fun h => absurd h (by decide)) (fun h => db_nil ?_))
      refine db_cons (ds_if (et_isNi (ed_var 10)) (fun h => absurd h (by decide)) (fun h => db_nil ?_))
      have hsub : subB (.wait l' bs) j = some bs[j].2 := by
        simp only [subB]
        rw [List.getElem?_eq_getElem hj]
        rfl
      have hposn : pos - 1 + 1 = pos := by omega
      have h2 := frOk_sub (FrOk.to hF (q := pos - 1) (by have : pos ≤ B'.length := hF.le; omega)) hB hsub (k := .block) (.inr ⟨rfl, rfl⟩)
      simp only [hposn] at h2
      refine db_one (ds_ret (ed_go Go T 0 (S := ⟨p ++ [pos - 1, j], 0, .block⟩ :: ⟨p, pos, kd⟩ :: F') (ws := vs) ((el_cat (el_listT (ed_var 3) B.list).q (el_lst (ds := [encFr ⟨p ++ [pos - 1, j], 0, .block⟩]) (ea_cons (ed_tup (ds := [encPath (p ++ [pos - 1, j]), .int 0, .str "block"]) (ea_cons ((ed_catT (ed_var 6) (ed_tup (ds := [.int ((pos - 1 : Nat) : Int), .int (j : Int)]) (ea_cons ((ed_sub (ed_var 7) ed_int).is (congrArg PyData.int hpos)) (ea_cons (ed_var 10) ea_nil))) (by rw [List.length_map]; show p.length + 2 ≤ _; omega)).is (congrArg PyData.tuple (hcat j))) (ea_cons ed_int (ea_cons ed_str ea_nil)))) ea_nil)).q (by rw [hlen]; show _ + 1 ≤ _; simp only [List.length_cons]; omega)).is (encStk_cons _ _).symm) (ed_var 4) ⟨⟨_, h2⟩, hw⟩ hv hq2) rfl)
    | none =>
      rw [hbr] at hq
      by_cases hl1 : l = 1
      · subst hl1
        have hq2 : (match brNone bs with
          | none => runM sc (lim D) (⟨p, pos, kd⟩ :: F') vs
          | some j => runM sc (lim D) (⟨p ++ [pos - 1, j], 0, .block⟩ :: ⟨p, pos, kd⟩ :: F') vs) = some q := by
          unfold stepB at hq
          rw [if_neg (fun z => z.2 rfl)] at hq
          exact hq
        refine db_cons (ds_if (EW.t (ew_and (et_isN1 (ed_var 10)) (fun _ => ew_and1 (et_neI (ed_var 5) ed_int)))) (fun h => absurd h (by decide)) (fun h => db_nil ?_))
        cases hbn : brNone bs with
        | none =>
          rw [hbn] at hq2
          refine db_if (fun δ => δ = [some (.ph (PSelf C sc)), some (.dat (encSt (some (⟨p, pos, kd⟩ :: F', vs, 1)))), some (.dat (encTk t)), some (.dat (.tuple (encStk (⟨p, pos, kd⟩ :: F')))), some (.dat (intT vs)), some (dInt 1), some (.dat (encPath p)), some (dInt pos), some (.dat (.str (kdS kd))), some (.dat (encS true (.wait l' bs))), some (.dat .none)]) (et_isN1 (ed_var 10)) (fun h => ?_) (fun h => absurd h (by decide)) (fun δ e => ?_)
          · exact db_one (ds_set 10 (ed_call Bn (ea_cons (ed_var 9) ea_nil) ⟨l', bs, hlb, rfl, by rw [hbn]; rfl⟩) rfl)
          · subst e
            refine db_cons (ds_if (et_isN1 (ed_var 10)) (fun h => ?_) (fun h => absurd h (by decide)))
            exact db_one (ds_ret (ed_go Go T 0 (S := ⟨p, pos, kd⟩ :: F') (ws := vs) (el_listT (ed_var 3) B.list) (ed_var 4) hw hv hq2) rfl)
        | some j =>
          rw [hbn] at hq2
          have hj : j < bs.length := brOr_lt (br := none) hbn (fun _ z => by cases z)
          refine db_if (fun δ => δ = [some (.ph (PSelf C sc)), some (.dat (encSt (some (⟨p, pos, kd⟩ :: F', vs, 1)))), some (.dat (encTk t)), some (.dat (.tuple (encStk (⟨p, pos, kd⟩ :: F')))), some (.dat (intT vs)), some (dInt 1), some (.dat (encPath p)), some (dInt pos), some (.dat (.str (kdS kd))), some (.dat (encS true (.wait l' bs))), some (dInt (j : Nat))]) (et_isN1 (ed_var 10)) (fun h => ?_) (fun h => absurd h (by decide)) (fun δ e => ?_)
          · exact db_one (ds_set 10 (ed_call Bn (ea_cons (ed_var 9) ea_nil) ⟨l', bs, hlb, rfl, by rw [hbn]; rfl⟩) rfl)
          · subst e
            refine db_cons (ds_if (et_isNi (ed_var 10)) (fun h => absurd h (by decide)) (fun h => db_nil ?_))
            have hsub : subB (.wait l' bs) j = some bs[j].2 := by
              simp only [subB]
              rw [List.getElem?_eq_getElem hj]
              rfl
            have hposn : pos - 1 + 1 = pos := by omega
            have h2 := frOk_sub (FrOk.to hF (q := pos - 1) (by have : pos ≤ B'.length := hF.le; omega)) hB hsub (k := .block) (.inr ⟨rfl, rfl⟩)
            simp only [hposn] at h2
            refine db_one (ds_ret (ed_go Go T 0 (S := ⟨p ++ [pos - 1, j], 0, .block⟩ :: ⟨p, pos, kd⟩ :: F') (ws := vs) ((el_cat (el_listT (ed_var 3) B.list).q (el_lst (ds := [encFr ⟨p ++ [pos - 1, j], 0, .block⟩]) (ea_cons (ed_tup (ds := [encPath (p ++ [pos - 1, j]), .int 0, .str "block"]) (ea_cons ((ed_catT (ed_var 6) (ed_tup (ds := [.int ((pos - 1 : Nat) : Int), .int (j : Int)]) (ea_cons ((ed_sub (ed_var 7) ed_int).is (congrArg PyData.int hpos)) (ea_cons (ed_var 10) ea_nil))) (by rw [List.length_map]; show p.length + 2 ≤ _; omega)).is (congrArg PyData.tuple (hcat j))) (ea_cons ed_int (ea_cons ed_str ea_nil)))) ea_nil)).q (by rw [hlen]; show _ + 1 ≤ _; simp only [List.length_cons]; omega)).is (encStk_cons _ _).symm) (ed_var 4) ⟨⟨_, h2⟩, hw⟩ hv hq2) rfl)
      · have hq2 : some (([], some (⟨p, pos, kd⟩ :: F', vs, max 0 (l - 1))) : Rz) = some q := by
          unfold stepB at hq
          rw [if_pos ⟨rfl, hl1⟩] at hq
          exact hq
        cases hq2
        refine db_cons (ds_if (EW.t (ew_and (et_isN1 (ed_var 10)) (fun _ => ew_and1 (et_neI (ed_var 5) ed_int)))) (fun h => ?_) (fun h => ?_))
        · exact db_one (ds_ret (ed_tup (ds := [.list [], .tuple [.tuple (encStk (⟨p, pos, kd⟩ :: F')), intT vs, .int (max 0 (l - 1))]]) (ea_cons (el_lst (ds := []) ea_nil).dd (ea_cons (ed_tup (ds := [.tuple (encStk (⟨p, pos, kd⟩ :: F')), intT vs, .int (max 0 (l - 1))]) (ea_cons (ed_var 3) (ea_cons (ed_var 4) (ea_cons (ed_max2 (ea_cons ed_int (ea_cons (ed_sub (ed_var 5) ed_int) ea_nil)) B.max) ea_nil)))) ea_nil))) rfl)
        · have h2 : (!decide (l = 1)) = false := h
          rw [decide_eq_false hl1] at h2
          cases h2
end
end CM

namespace CM
open PySem L2 DL
/-! ### all patterns -/
mutual
def patS : Sm → List Tk
  | .test _ a b => patB a ++ patB b
  | .wait _ bs => patR bs
  | .loop b => patB b
  | _ => []
def patB : List Sm → List Tk
  | [] => []
  | s :: r => patS s ++ patB r
def patR : List (Tk × List Sm) → List Tk
  | [] => []
  | (p, b) :: r => p :: (patB b ++ patR r)
end
mutual
def zS : Sm → Nat
  | .test _ a b => zB a + zB b
  | .wait _ bs => zR bs
  | .loop b => zB b
  | _ => 0
def zB : List Sm → Nat
  | [] => 1
  | s :: r => zS s + zB r
def zR : List (Tk × List Sm) → Nat
  | [] => 0
  | (_, b) :: r => zB b + zR r
end
theorem zB_one : ∀ b : List Sm, 1 ≤ zB b
  | [] => Nat.le_refl _
  | s :: r => Nat.le_trans (zB_one r) (Nat.le_add_left _ _)
mutual
theorem zS_le (wt : Str → Nat) : ∀ s : Sm, zS s ≤ wS wt s
  | .test _ a b => by have := zB_le wt a; have := zB_le wt b; simp only [zS, wS]; omega
  | .wait _ bs => by have := zR_le wt bs; simp only [zS, wS]; omega
  | .loop b => by have := zB_le wt b; simp only [zS, wS]; omega
  | .say _ => by simp [zS]
  | .hand _ _ => by simp [zS]
  | .put _ _ => by simp [zS]
  | .again => by simp [zS]
  | .leave => by simp [zS]
  | .call _ => by simp [zS]
  | .back => by simp [zS]
  | .stop => by simp [zS]
theorem zB_le (wt : Str → Nat) : ∀ b : List Sm, zB b ≤ wB wt b
  | [] => Nat.le_refl _
  | s :: r => by have := zS_le wt s; have := zB_le wt r; simp only [zB, wB]; omega
theorem zR_le (wt : Str → Nat) : ∀ b : List (Tk × List Sm), zR b ≤ wR wt b
  | [] => Nat.le_refl _
  | (_, b) :: r => by have := zB_le wt b; have := zR_le wt r; simp only [zR, wR]; omega
end
mutual
theorem patS_len (wt : Str → Nat) : ∀ s : Sm, (patS s).length ≤ wS wt s
  | .test _ a b => by have := patB_len wt a; have := patB_len wt b; simp only [patS, wS, List.length_append]; omega
  | .wait _ bs => by have := patR_len wt bs; simp only [patS, wS]; omega
  | .loop b => by have := patB_len wt b; simp only [patS, wS]; omega
  | .say _ => by simp [patS]
  | .hand _ _ => by simp [patS]
  | .put _ _ => by simp [patS]
  | .again => by simp [patS]
  | .leave => by simp [patS]
  | .call _ => by simp [patS]
  | .back => by simp [patS]
  | .stop => by simp [patS]
theorem patB_len (wt : Str → Nat) : ∀ b : List Sm, (patB b).length + 1 ≤ wB wt b
  | [] => Nat.le_refl _
  | s :: r => by have := patS_len wt s; have := patB_len wt r; simp only [patB, wB, List.length_append]; omega
theorem patR_len (wt : Str → Nat) : ∀ b : List (Tk × List Sm), (patR b).length ≤ wR wt b
  | [] => Nat.le_refl _
  | (_, b) :: r => by have := patB_len wt b; have := patR_len wt r; simp only [patR, wR, List.length_append, List.length_cons]; omega
end
theorem patB_app : ∀ a b : List Sm, patB (a ++ b) = patB a ++ patB b
  | [], _ => rfl
  | s :: r, b => by simp [patB, patB_app r b]
def patsB (bs : List (List Sm)) : List Tk := bs.flatMap patB
def zsB (bs : List (List Sm)) : Nat := (bs.map zB).sum
theorem patsB_app (a b : List (List Sm)) : patsB (a ++ b) = patsB a ++ patsB b := List.flatMap_append
theorem zsB_app (a b : List (List Sm)) : zsB (a ++ b) = zsB a + zsB b := by simp [zsB]
theorem zs_len : ∀ bs : List (List Sm), bs.length ≤ zsB bs
  | [] => Nat.zero_le _
  | b :: r => by
    have := zB_one b
    have := zs_len r
    simp only [zsB, List.map_cons, List.sum_cons, List.length_cons] at this ⊢
    omega
def pats (sc : Sc) : List Tk := patsB (sc.talks.map (·.2))
/-- data that can be compared -/
def goodB (b : List Sm) : Prop := (PyData.list (encB false b)).canLay0 = true ∧ (PyData.list (encB false b)).depth ≤ 40
theorem lay_mem : ∀ {ds : List PyData} {d : PyData}, PyData.canLayAll0 ds = true → d ∈ ds → d.canLay0 = true
  | e :: r, d, h, hd => by
    simp only [PyData.canLayAll0, Bool.and_eq_true] at h
    rcases List.mem_cons.mp hd with rfl | hd
    · exact h.1
    · exact lay_mem h.2 hd
theorem good_in {b : List Sm} {s : Sm} (h : goodB b) (hs : s ∈ b) : (encS false s).canLay0 = true ∧ (encS false s).depth ≤ 39 := by
  obtain ⟨h1, h2⟩ := h
  have hm : encS false s ∈ encB false b := by rw [encB_map]; exact List.mem_map.mpr ⟨s, hs, rfl⟩
  refine ⟨lay_mem (by simpa only [PyData.canLay0] using h1) hm, ?_⟩
  have := depth_mem hm
  simp only [PyData.depth] at h2
  omega
theorem good_subs {s : Sm} (h : (encS false s).canLay0 = true ∧ (encS false s).depth ≤ 39) : ∀ b ∈ subs s, goodB b := by
  intro b hb
  obtain ⟨h1, h2⟩ := h
  cases s with
  | test c x y =>
    simp only [encS, sq, PyData.canLay0, PyData.canLayAll0, PyData.depth, PyData.depthAll, Bool.and_true, Bool.and_eq_true] at h1 h2
    simp only [subs, List.mem_cons, List.not_mem_nil, or_false] at hb
    rcases hb with rfl | rfl
    · refine ⟨h1.2.2.1, ?_⟩
      simp only [PyData.depth]
      simp only [Bool.false_eq_true, if_false, PyData.depth] at h2
      omega
    · refine ⟨h1.2.2.2, ?_⟩
      simp only [PyData.depth]
      simp only [Bool.false_eq_true, if_false, PyData.depth] at h2
      omega
  | wait l bs =>
    obtain ⟨x, hx, rfl⟩ := List.mem_map.mp hb
    simp only [encS, sq, PyData.canLay0, PyData.canLayAll0, PyData.depth, PyData.depthAll, Bool.and_true, Bool.and_eq_true, Bool.false_eq_true, if_false] at h1 h2
    have hm : encBr1 false x ∈ encBr false bs := by rw [encBr_map]; exact List.mem_map.mpr ⟨x, hx, rfl⟩
    have h3 := lay_mem h1.2.2 hm
    have h4 := depth_mem hm
    simp only [encBr1, sq, PyData.canLay0, PyData.canLayAll0, PyData.depth, PyData.depthAll, Bool.and_true, Bool.and_eq_true, Bool.false_eq_true, if_false] at h3 h4
    refine ⟨h3.2, ?_⟩
    simp only [PyData.depth]
    omega
  | loop x =>
    simp only [encS, sq, PyData.canLay0, PyData.canLayAll0, PyData.depth, PyData.depthAll, Bool.and_true, Bool.and_eq_true, Bool.false_eq_true, if_false] at h1 h2
    simp only [subs, List.mem_cons, List.not_mem_nil, or_false] at hb
    subst hb
    refine ⟨h1.2, ?_⟩
    simp only [PyData.depth]
    omega
  | say _ => cases hb
  | hand _ _ => cases hb
  | put _ _ => cases hb
  | again => cases hb
  | leave => cases hb
  | call _ => cases hb
  | back => cases hb
  | stop => cases hb
def bD (b : List Sm) : PyData := .list (encB false b)
theorem shaped_bodies {bs : List (List Sm)} (h : ∀ b ∈ bs, goodB b) : SeqAt.shaped (.list (bs.map bD)) = true := by
  unfold SeqAt.shaped
  rw [Bool.and_eq_true]
  refine ⟨lay_all fun d hd => ?_, decide_eq_true ?_⟩
  · obtain ⟨b, hb, rfl⟩ := List.mem_map.mp hd
    exact (h b hb).1
  · have := depthAll_le (n := 40) (ds := bs.map bD) fun d hd => by
      obtain ⟨b, hb, rfl⟩ := List.mem_map.mp hd
      exact (h b hb).2
    simp only [PyData.depth]
    omega
/-- found and what is left -/
structure PInv (T : List Tk) (L : List Tk) (bs : List (List Sm)) (rest : List Sm) : Prop where
  cnt : ∀ t, L.count t + ((patsB bs).count t + (patB rest).count t) = T.count t
  len : L.length + ((patsB bs).length + (patB rest).length) = T.length
  good : ∀ b ∈ bs, goodB b
def ownP : Sm → List Tk
  | .wait _ bs => bs.map (·.1)
  | _ => []
theorem pats_subs : ∀ s : Sm, (∀ t, (patS s).count t = ((ownP s).count t + (patsB (subs s)).count t)) ∧ (patS s).length = (ownP s).length + (patsB (subs s)).length ∧ zS s = zsB (subs s)
  | .test c a b => by simp [patS, subs, patsB, zS, zsB, ownP]
  | .loop b => by simp [patS, subs, patsB, zS, zsB, ownP]
  | .wait l bs => by
    have h : ∀ bs : List (Tk × List Sm), (∀ t, (patR bs).count t = (bs.map (·.1)).count t + (patsB (bs.map (·.2))).count t) ∧ (patR bs).length = (bs.map (·.1)).length + (patsB (bs.map (·.2))).length ∧ zR bs = zsB (bs.map (·.2)) := fun bs => by
      induction bs with
      | nil => simp [patR, patsB, zR, zsB]
      | cons x r ih =>
        obtain ⟨p, b⟩ := x
        obtain ⟨h1, h2, h3⟩ := ih
        refine ⟨fun t => ?_, ?_, ?_⟩
        · have := h1 t
          simp only [patR, patsB, List.map_cons, List.flatMap_cons, List.count_cons, List.count_append] at this ⊢
          omega
        · simp only [patR, patsB, List.map_cons, List.flatMap_cons, List.length_cons, List.length_append] at h2 ⊢
          omega
        · simp only [zR, zsB, List.map_cons, List.sum_cons] at h3 ⊢
          omega
    exact h bs
  | .say _ => by simp [patS, subs, patsB, zS, zsB, ownP]
  | .hand _ _ => by simp [patS, subs, patsB, zS, zsB, ownP]
  | .put _ _ => by simp [patS, subs, patsB, zS, zsB, ownP]
  | .again => by simp [patS, subs, patsB, zS, zsB, ownP]
  | .leave => by simp [patS, subs, patsB, zS, zsB, ownP]
  | .call _ => by simp [patS, subs, patsB, zS, zsB, ownP]
  | .back => by simp [patS, subs, patsB, zS, zsB, ownP]
  | .stop => by simp [patS, subs, patsB, zS, zsB, ownP]
theorem PInv.pop {T L : List Tk} {bs : List (List Sm)} {b : List Sm} (h : PInv T L (bs ++ [b]) []) : PInv T L bs b := by
  refine ⟨fun t => ?_, ?_, fun c hc => h.good c (List.mem_append_left _ hc)⟩
  · have := h.cnt t
    rw [patsB_app] at this
    simp only [patsB, List.flatMap_cons, List.flatMap_nil, List.append_nil, List.count_append, patB, List.count_nil] at this ⊢
    omega
  · have := h.len
    rw [patsB_app] at this
    simp only [patsB, List.flatMap_cons, List.flatMap_nil, List.append_nil, List.length_append, patB, List.length_nil] at this ⊢
    omega
theorem PInv.step {T L : List Tk} {bs : List (List Sm)} {s : Sm} {r : List Sm} (h : PInv T L bs (s :: r)) (hg : (encS false s).canLay0 = true ∧ (encS false s).depth ≤ 39) : PInv T (L ++ ownP s) (bs ++ subs s) r := by
  obtain ⟨e1, e2, _⟩ := pats_subs s
  refine ⟨fun t => ?_, ?_, fun c hc => ?_⟩
  · have h1 := h.cnt t
    have h2 := e1 t
    rw [patsB_app]
    simp only [patB, List.count_append] at h1 ⊢
    omega
  · have h1 := h.len
    rw [patsB_app]
    simp only [patB, List.length_append] at h1 ⊢
    omega
  · rcases List.mem_append.mp hc with z | z
    · exact h.good c z
    · exact good_subs hg c z
def rPats : List Sl → (List PyData → Prop) → Prop := fun as Po => ∃ sc : Sc, (∀ t ∈ sc.talks, goodB t.2) ∧ zsB (sc.talks.map (·.2)) ≤ 1000000 ∧ (pats sc).length ≤ 1000000 ∧ sc.talks.length ≤ 100 ∧ as = [.dat (encSc false sc)] ∧ Po = fun ds => ∃ L : List Tk, ds = L.map encTk ∧ (∀ t, t ∈ L ↔ t ∈ pats sc) ∧ L.length = (pats sc).length
theorem mem_of_count {T L : List Tk} (h : ∀ t, L.count t = T.count t) (t : Tk) : t ∈ L ↔ t ∈ T := by
  rw [← List.count_pos_iff, ← List.count_pos_iff, h t]
theorem snoc_of {α : Type} {l : List α} (h : l ≠ []) : ∃ r x, l = r ++ [x] := ⟨l.dropLast, l.getLast h, (List.dropLast_concat_getLast h).symm⟩
theorem stmts_at {b : List Sm} {i : Nat} {d : PyData} (h : (encB false b)[i]? = some d) : ∃ hi : i < b.length, d = encS false b[i] := by
  rw [encB_map] at h
  have hi : i < b.length := by simpa using len1 h
  rw [List.getElem?_map, List.getElem?_eq_getElem hi] at h
  exact ⟨hi, (Option.some.inj h).symm⟩
theorem snoc_map {α β γ : Type} (f : β → γ) (g : α → β) (L : List β) (l : List α) (x : α) : (L ++ (l ++ [x]).map g).map f = (L ++ l.map g).map f ++ [f (g x)] := by simp
theorem kind_of (s : Sm) : ∃ (k : Str) (rs : List PyData), encS false s = .tuple (.str k :: rs) ∧ (((∃ c a b, s = .test c a b) ∧ k = "test") ∨ ((∃ l bs, s = .wait l bs) ∧ k = "wait") ∨ ((∃ b, s = .loop b) ∧ k = "loop") ∨ (k ≠ "test" ∧ k ≠ "wait" ∧ k ≠ "loop" ∧ ownP s = [] ∧ subs s = [])) := by
  cases s with
  | test c a b => exact ⟨_, _, rfl, .inl ⟨⟨c, a, b, rfl⟩, rfl⟩⟩
  | wait l bs => exact ⟨_, _, rfl, .inr (.inl ⟨⟨l, bs, rfl⟩, rfl⟩)⟩
  | loop b => exact ⟨_, _, rfl, .inr (.inr (.inl ⟨⟨b, rfl⟩, rfl⟩))⟩
  | say w => exact ⟨"say", _, rfl, .inr (.inr (.inr ⟨by decide, by decide, by decide, rfl, rfl⟩))⟩
  | hand l w => exact ⟨"hand", _, rfl, .inr (.inr (.inr ⟨by decide, by decide, by decide, rfl, rfl⟩))⟩
  | put b e => exact ⟨"put", _, rfl, .inr (.inr (.inr ⟨by decide, by decide, by decide, rfl, rfl⟩))⟩
  | again => exact ⟨"again", _, rfl, .inr (.inr (.inr ⟨by decide, by decide, by decide, rfl, rfl⟩))⟩
  | leave => exact ⟨"leave", _, rfl, .inr (.inr (.inr ⟨by decide, by decide, by decide, rfl, rfl⟩))⟩
  | call t => exact ⟨"call", _, rfl, .inr (.inr (.inr ⟨by decide, by decide, by decide, rfl, rfl⟩))⟩
  | back => exact ⟨"back", _, rfl, .inr (.inr (.inr ⟨by decide, by decide, by decide, rfl, rfl⟩))⟩
  | stop => exact ⟨"stop", _, rfl, .inr (.inr (.inr ⟨by decide, by decide, by decide, rfl, rfl⟩))⟩
section
variable {P : Program} {w : World} {K : PySem.W.Frag} {mg : Str → Option Value} {base : Heap} {f : Addr} {fd : FuncData}
theorem start_inv {sc : Sc} (hg : ∀ t ∈ sc.talks, goodB t.2) : PInv (pats sc) [] (sc.talks.map (·.2)) [] := by
  refine ⟨fun t => ?_, ?_, fun b hb => ?_⟩
  · simp [pats, patB]
  · simp [pats, patB]
  · obtain ⟨t, ht, rfl⟩ := List.mem_map.mp hb
    exact hg t ht
theorem talks_bodies (sc : Sc) : (sc.talks.map fun t => bD t.2) = (sc.talks.map (·.2)).map bD := by rw [List.map_map]; rfl
theorem end_inv {T L : List Tk} (h : PInv T L [] []) : (∀ t, t ∈ L ↔ t ∈ T) ∧ L.length = T.length := by
  refine ⟨mem_of_count fun t => ?_, ?_⟩
  · have := h.cnt t
    simpa [patsB, patB] using this
  · have := h.len
    simpa [patsB, patB] using this
theorem L_le {T L : List Tk} {bs : List (List Sm)} {r : List Sm} (h : PInv T L bs r) : L.length ≤ T.length := by
  have := h.len
  omega
def pE (sc : Sc) (L : List Tk) (bs : List (List Sm)) (u2 u4 u5 : Option Sl) : DEnv := [some (.dat (encSc false sc)), some (.lst (L.map encTk)), u2, some (.lst (bs.map bD)), u4, u5, none]
theorem dfn_law_patterns (F : Fun K "_law_patterns" "_law_patterns" s_law_patterns f fd) (hm : mg "_law_patterns" = some (.ref f)) (hb : Binds K fd ["script"] []) : Dfn P w K mg base "_law_patterns" 1 ["script"] rPats := by
  refine dfn_mk F sc_law_patterns hm hb (fun as r ⟨_, _, _, _, _, e, _⟩ => by rw [e]; rfl) fun cdv A outer sh H E M as Po hR => ?_
  obtain ⟨sc, hg, hz, hp, ht, e1, e2⟩ := hR
  subst e1 e2
  refine db_cons (ds_setL 1 (el_lst (ds := []) ea_nil) ?_)
  refine db_cons (ds_setLcAll 3 [("name", 6), ("body", 2)] (xs := sc.talks) (enc := encTalk false) (f := fun t => bD t.2) (is_list (ed_ixT (ed_var 0) ed_int (d := .list (sc.talks.map (encTalk false))))) (by omega) (fun x hx => ⟨_, gb_tup (gbs_cons 6 (gbs_cons 2 gbs_nil)), ets_nil, fun _ => ed_var 2⟩) ?_)
  rw [talks_bodies]
  refine db_cons (ds_while (fun n δ => ∃ L bs u2 u4 u5, PInv (pats sc) L bs [] ∧ zsB bs = n ∧ n ≤ 1000000 ∧ δ = pE sc L bs u2 u4 u5) (m0 := zsB (sc.talks.map (·.2))) ⟨[], _, none, none, none, start_inv hg, rfl, hz, rfl⟩ (fun n δ ⟨L, bs, u2, u4, u5, hI, hn, hn6, e⟩ => ?_))
  subst e
  refine ⟨!(bs.map bD).isEmpty, et_neNil (eq_var 3) (shaped_bodies hI.good), fun h => ?_, fun h => ?_⟩
  case refine_2 =>
    have e : bs = [] := by
      rw [Bool.not_eq_false', List.isEmpty_iff] at h
      exact List.map_eq_nil_iff.mp h
    subst e
    obtain ⟨q1, q2⟩ := end_inv hI
    exact db_one (ds_retV 1 ⟨_, rfl, L, rfl, q1, q2⟩)
  have hne : bs ≠ [] := fun e => by subst e; cases h
  obtain ⟨bs', b, rfl⟩ := snoc_of hne
  have hgb := hI.good b (by simp)
  have hI0 := hI.pop
  rw [zsB_app] at hn
  have hzb : zsB [b] = zB b := by simp [zsB]
  rw [hzb] at hn
  refine db_one (ds_forPop 3 (zs := bs'.map bD) (ds := encB false b) (by rw [pE, List.map_append]; rfl)
    (fun i δ => ∃ L bs u2 u4 u5, PInv (pats sc) L bs (b.drop i) ∧ zsB bs + zB (b.drop i) = n ∧ δ = pE sc L bs u2 u4 u5) ⟨L, bs', u2, u4, u5, by simpa using hI0, by simpa using hn, rfl⟩ (fun i d δ hd ⟨L, bs, u2, u4, u5, hI, hn, e⟩ => ?_) (fun δ ⟨L, bs, u2, u4, u5, hI, hn, e⟩ => ?_))
  case refine_2 =>
    rw [encB_map, List.length_map, List.drop_length] at hI hn
    exact ⟨zsB bs, by simp only [zB] at hn; omega, L, bs, u2, u4, u5, hI, rfl, by omega, e⟩
  subst e
  obtain ⟨hi, rfl⟩ := stmts_at hd
  have hdr : b.drop i = b[i] :: b.drop (i + 1) := List.drop_eq_getElem_cons hi
  rw [hdr] at hI hn
  have hgs := good_in hgb (List.getElem_mem hi)
  have hI2 := hI.step hgs
  obtain ⟨_, _, hz2⟩ := pats_subs b[i]
  have hn2 : zsB (bs ++ subs b[i]) + zB (b.drop (i + 1)) = n := by
    rw [zsB_app]
    simp only [zB] at hn
    omega
  generalize b[i] = s at hgs hI2 hn2
  have hbl := zs_len (bs ++ subs s)
  have hLl := L_le hI2
  have hzn : n ≤ 1000000 := by omega
  rw [List.length_append] at hbl hLl
  refine ⟨_, _, gb_name 4, ?_⟩
  obtain ⟨k, rs, ek, hk⟩ := kind_of s
  rcases hk with ⟨⟨c, x, y, rfl⟩, _⟩ | ⟨⟨l, ws, rfl⟩, _⟩ | ⟨⟨x, rfl⟩, _⟩ | ⟨k1, k2, k3, ho, hs⟩
  · refine db_one (ds_if (et_eqS (ed_ixT (ed_var 4) ed_int (d := .str "test")) ed_str) (fun h => ?_) (fun h => absurd h (by decide)))
    refine db_one (ds_setL 3 (el_cat (eq_var 3) (el_lst (ds := [bD x, bD y]) (ea_cons (ed_ixT (ed_var 4) ed_int) (ea_cons (ed_ixT (ed_var 4) ed_int) ea_nil))).q ?_) ⟨L, bs ++ [x, y], u2, some (.dat (encS false (.test c x y))), u5, by simpa [ownP, subs] using hI2, hn2, ?_⟩)
    · rw [List.length_map]
      show _ + 2 ≤ _
      have h2 : (subs (.test c x y)).length = 2 := rfl
      omega
    · rw [pE, pE, List.map_append]
      rfl
  · refine db_one (ds_if (et_eqS (ed_ixT (ed_var 4) ed_int (d := .str "wait")) ed_str) (fun h => absurd h (by decide)) (fun h => ?_))
    refine db_one (ds_if (et_eqS (ed_ixT (ed_var 4) ed_int (d := .str "wait")) ed_str) (fun h => absurd h (by decide)) (fun h => ?_))
    refine db_one (ds_if (et_eqS (ed_ixT (ed_var 4) ed_int (d := .str "wait")) ed_str) (fun h => ?_) (fun h => absurd h (by decide)))
    have ho : ownP (.wait l ws) = ws.map (·.1) := rfl
    have hs : subs (.wait l ws) = ws.map (·.2) := rfl
    rw [ho, hs] at hI2
    rw [hs] at hn2
    rw [hs, List.length_map] at hbl
    rw [ho, List.length_map] at hLl
    refine db_one (ds_for (ds := ws.map (encBr1 false)) (by rw [← encBr_map]; exact is_list (ed_ixT (ed_var 4) ed_int)) (fun j δ => ∃ v2 v5, δ = pE sc (L ++ (ws.take j).map (·.1)) (bs ++ (ws.take j).map (·.2)) v2 (some (.dat (encS false (.wait l ws)))) v5) ⟨u2, u5, by simp [pE]⟩ (fun j d δ hd' ⟨v2, v5, e⟩ => ?_) (fun δ ⟨v2, v5, e⟩ => ?_))
    · subst e
      have hj : j < ws.length := by simpa using len1 hd'
      rw [List.getElem?_map, List.getElem?_eq_getElem hj] at hd'
      have e3 := Option.some.inj hd'
      subst e3
      refine ⟨_, _, gb_tup (gbs_cons 5 (gbs_cons 2 gbs_nil)), ?_⟩
      have htk : ws.take (j + 1) = ws.take j ++ [ws[j]] := by rw [List.take_add_one, List.getElem?_eq_getElem hj]; rfl
      have htl : (ws.take j).length ≤ ws.length := by rw [List.length_take]; omega
      refine db_cons (ds_app 1 (ed_var 5) ?_ ?_)
      · rw [List.length_map, List.length_append, List.length_map]
        omega
      · refine db_one (ds_app 3 (ed_var 2) ?_ ?_)
        · rw [List.length_map, List.length_append, List.length_map]
          omega
        · refine ⟨some (.dat (bD ws[j].2)), some (.dat (encTk ws[j].1)), ?_⟩
          have q1 : (L ++ (ws.take (j + 1)).map (·.1)).map encTk = (L ++ (ws.take j).map (·.1)).map encTk ++ [encTk ws[j].1] := by rw [htk, snoc_map]
          have q2 : (bs ++ (ws.take (j + 1)).map (·.2)).map bD = (bs ++ (ws.take j).map (·.2)).map bD ++ [bD ws[j].2] := by rw [htk, snoc_map]
          unfold pE
          rw [q1, q2]
          rfl
    · subst e
      rw [List.length_map, List.take_length]
      exact ⟨_, _, _, _, _, hI2, hn2, rfl⟩
  · refine db_one (ds_if (et_eqS (ed_ixT (ed_var 4) ed_int (d := .str "loop")) ed_str) (fun h => absurd h (by decide)) (fun h => ?_))
    refine db_one (ds_if (et_eqS (ed_ixT (ed_var 4) ed_int (d := .str "loop")) ed_str) (fun h => ?_) (fun h => absurd h (by decide)))
    refine db_one (ds_app 3 (ed_ixT (ed_var 4) ed_int (d := bD x)) ?_ ⟨L, bs ++ [x], u2, some (.dat (encS false (.loop x))), u5, by simpa [ownP, subs] using hI2, hn2, ?_⟩)
    · rw [List.length_map]
      omega
    · rw [pE, pE, List.map_append]
      rfl
  · have hat : atI (PyData.str k :: rs) 0 = some (.str k) := atI_of (by decide) rfl
    rw [ek]
    rw [ho, hs, List.append_nil, List.append_nil] at hI2
    rw [hs, List.append_nil] at hn2
    refine db_one (ds_if (et_eqS (ed_ixT (ed_var 4) ed_int hat) ed_str) (fun h => absurd (of_decide_eq_true h) k1) (fun h => ?_))
    refine db_one (ds_if (et_eqS (ed_ixT (ed_var 4) ed_int hat) ed_str) (fun h => absurd (of_decide_eq_true h) k3) (fun h => ?_))
    refine db_one (ds_if (et_eqS (ed_ixT (ed_var 4) ed_int hat) ed_str) (fun h => absurd (of_decide_eq_true h) k2) (fun h => ?_))
    exact db_nil ⟨_, _, _, _, _, hI2, hn2, rfl⟩
def qE (sc : Sc) (L : List Tk) (bs : List (List Sm)) (u3 : Option Sl) : DEnv := [some (.dat (encSc false sc)), some (.lst (L.map encTk)), some (.lst (bs.map bD)), u3, none, none, none]
theorem dfn_patterns_of (Pt : Df P w K mg base "parts_of" 1 ["statement"] rParts) (F : Fun K "patterns_of" "patterns_of" s_patterns_of f fd) (hm : mg "patterns_of" = some (.ref f)) (hb : Binds K fd ["script"] []) : Dfn P w K mg base "patterns_of" 2 ["script"] rPats := by
  refine dfn_mk F sc_patterns_of hm hb (fun as r ⟨_, _, _, _, _, e, _⟩ => by rw [e]; rfl) fun cdv A outer sh H E M as Po hR => ?_
  obtain ⟨sc, hg, hz, hp, ht, e1, e2⟩ := hR
  subst e1 e2
  refine db_cons (ds_setL 1 (el_lst (ds := []) ea_nil) ?_)
  refine db_cons (ds_setLcAll 2 [("name", 4), ("body", 5)] (xs := sc.talks) (enc := encTalk false) (f := fun t => bD t.2) (is_list (ed_ixT (ed_var 0) ed_int (d := .list (sc.talks.map (encTalk false))))) (by omega) (fun x hx => ⟨_, gb_tup (gbs_cons 4 (gbs_cons 5 gbs_nil)), ets_nil, fun _ => ed_var 5⟩) ?_)
  rw [talks_bodies]
  refine db_cons (ds_while (fun n δ => ∃ L bs u3, PInv (pats sc) L bs [] ∧ zsB bs = n ∧ n ≤ 1000000 ∧ δ = qE sc L bs u3) (m0 := zsB (sc.talks.map (·.2))) ⟨[], _, none, start_inv hg, rfl, hz, rfl⟩ (fun n δ ⟨L, bs, u3, hI, hn, hn6, e⟩ => ?_))
  subst e
  refine ⟨!(bs.map bD).isEmpty, et_neNil (eq_var 2) (shaped_bodies hI.good), fun h => ?_, fun h => ?_⟩
  case refine_2 =>
    have e : bs = [] := by
      rw [Bool.not_eq_false', List.isEmpty_iff] at h
      exact List.map_eq_nil_iff.mp h
    subst e
    obtain ⟨q1, q2⟩ := end_inv hI
    exact db_one (ds_retV 1 ⟨_, rfl, L, rfl, q1, q2⟩)
  have hne : bs ≠ [] := fun e => by subst e; cases h
  obtain ⟨bs', b, rfl⟩ := snoc_of hne
  have hgb := hI.good b (by simp)
  have hI0 := hI.pop
  rw [zsB_app] at hn
  have hzb : zsB [b] = zB b := by simp [zsB]
  rw [hzb] at hn
  refine db_one (ds_forPop 2 (zs := bs'.map bD) (ds := encB false b) (by rw [qE, List.map_append]; rfl)
    (fun i δ => ∃ L bs u3, PInv (pats sc) L bs (b.drop i) ∧ zsB bs + zB (b.drop i) = n ∧ δ = qE sc L bs u3) ⟨L, bs', u3, by simpa using hI0, by simpa using hn, rfl⟩ (fun i d δ hd ⟨L, bs, u3, hI, hn, e⟩ => ?_) (fun δ ⟨L, bs, u3, hI, hn, e⟩ => ?_))
  case refine_2 =>
    rw [encB_map, List.length_map, List.drop_length] at hI hn
    exact ⟨zsB bs, by simp only [zB] at hn; omega, L, bs, u3, hI, rfl, by omega, e⟩
  subst e
  obtain ⟨hi, rfl⟩ := stmts_at hd
  have hdr : b.drop i = b[i] :: b.drop (i + 1) := List.drop_eq_getElem_cons hi
  rw [hdr] at hI hn
  have hgs := good_in hgb (List.getElem_mem hi)
  have hI2 := hI.step hgs
  obtain ⟨_, _, hz2⟩ := pats_subs b[i]
  have hn2 : zsB (bs ++ subs b[i]) + zB (b.drop (i + 1)) = n := by
    rw [zsB_app]
    simp only [zB] at hn
    omega
  generalize b[i] = s at hgs hI2 hn2
  have hbl := zs_len (bs ++ subs s)
  have hLl := L_le hI2
  rw [List.length_append] at hbl hLl
  refine ⟨_, _, gb_name 3, ?_⟩
  obtain ⟨k, rs, ek, hk⟩ := kind_of s
  have hext : ((bs ++ subs s).map bD) = bs.map bD ++ (subs s).map fun b => .list (encB false b) := by rw [List.map_append]; rfl
  refine db_cons (ds_ext 2 (el_call Pt (ea_cons (ed_var 3) ea_nil) ⟨s, by omega, rfl, rfl⟩).q (by rw [List.length_map, List.length_map]; omega) ?_ (hl := rfl))
  have hw : (k = "wait" ∧ ∃ l ws, s = .wait l ws) ∨ (k ≠ "wait" ∧ ownP s = []) := by
    rcases hk with ⟨⟨c, x, y, rfl⟩, rfl⟩ | ⟨⟨l, ws, rfl⟩, rfl⟩ | ⟨⟨x, rfl⟩, rfl⟩ | ⟨k1, k2, k3, ho, hs⟩
    · exact .inr ⟨by decide, rfl⟩
    · exact .inl ⟨rfl, l, ws, rfl⟩
    · exact .inr ⟨by decide, rfl⟩
    · exact .inr ⟨k2, ho⟩
  rcases hw with ⟨_, l, ws, rfl⟩ | ⟨k2, ho⟩
  · have ho : ownP (.wait l ws) = ws.map (·.1) := rfl
    rw [ho] at hI2
    rw [ho, List.length_map] at hLl
    refine db_one (ds_if (et_eqS (ed_ixT (ed_var 3) ed_int (d := .str "wait")) ed_str) (fun h => ?_) (fun h => absurd h (by decide)))
    refine db_one (ds_ext 1 (zs := ws.map fun x => encTk x.1) (el_lcAll [("pattern", 6), ("body", 5)] (xs := ws) (enc := encBr1 false) (f := fun x => encTk x.1) (by rw [← encBr_map]; exact is_list (ed_ixT (ed_var 3) ed_int)) (by omega) (fun x hx => ⟨_, gb_tup (gbs_cons 6 (gbs_cons 5 gbs_nil)), ets_nil, fun _ => ed_var 6⟩)).q (by rw [List.length_map, List.length_map]; omega) ⟨L ++ ws.map (·.1), bs ++ subs (.wait l ws), some (.dat (encS false (.wait l ws))), hI2, hn2, ?_⟩ (hl := rfl))
    unfold qE
    rw [hext, List.map_append, List.map_map]
    rfl
  · rw [ho, List.append_nil] at hI2
    have hat : atI (PyData.str k :: rs) 0 = some (.str k) := atI_of (by decide) rfl
    rw [← hext, ek]
    refine db_one (ds_if (et_eqS (ed_ixT (ed_var 3) ed_int hat) ed_str) (fun h => absurd (of_decide_eq_true h) k2) (fun h => ?_))
    exact db_nil ⟨_, _, _, hI2, hn2, rfl⟩
end
end CM

namespace CM
open PySem L2 DL
def wordGo : Nat → Nat → Str → Str
  | 0, _, x => x
  | _ + 1, 0, x => x
  | f + 1, n + 1, x => wordGo f (n / 26) (letterAt (n % 26) ++ x)
def wordBy (n : Nat) : Str := wordGo n n Str.empty
theorem wordGo_zero (f : Nat) (x : Str) : wordGo f 0 x = x := by cases f <;> rfl
def rWordBy : List Sl → Rs → Prop := fun as r => ∃ n : Nat, n ≤ 1000 ∧ as = [dInt n] ∧ r = .dat (.str (wordBy n))
def tkName : Tk → Str
  | .key _ => "key"
  | .word _ => "word"
  | .other => "other"
  | .none => "none"
  | .quiet => "quiet"
theorem tk_head (t : Tk) : ∃ rs, encTk t = .tuple (.str (tkName t) :: rs) := by cases t <;> exact ⟨_, rfl⟩
def isKW (t : Tk) : Bool := decide (tkName t = "key") || decide (tkName t = "word")
abbrev szEvent : List Int := [8, 10, 1352]
def evM (cell : Int) (L : List Tk) : Tk :=
  if dr cell szEvent 0 < 4 ∧ L.filter isKW ≠ [] then (L.filter isKW).getD (dr cell szEvent 2 % (L.filter isKW).length).toNat .quiet
  else if dr cell szEvent 0 < 6 then .quiet
  else if dr cell szEvent 0 = 6 then .key (dr cell szEvent 1) else .word (genWord (dr cell szEvent 2))
abbrev tksD (L : List Tk) : PyData := .list (L.map encTk)
def okL (L : List Tk) : Prop := (∀ t ∈ L, PyData.canLay0 (encTk t) = true) ∧ L.length ≤ 1000000
def rEvent : List Sl → Rs → Prop := fun as r => ∃ (cell : Int) (L : List Tk), okL L ∧ as = [dInt cell, .dat (tksD L)] ∧ r = .dat (encTk (evM cell L))
def qFix (L : List Tk) : Nat → Str → Str
  | 0, x => x
  | n + 1, x => if .word x ∈ L then qFix L n (x ++ "q") else x
abbrev szOther : List Int := [10, 1352]
def freeK (L : List Tk) : List Nat := (List.range 10).filter fun k => !decide (Tk.key (k : Int) ∈ L)
def othM (cell : Int) (L : List Tk) : List (Tk × Tk) :=
  (.word (qFix L 10 (genWord (dr cell szOther 1))), .word "zebra") :: if freeK L = [] then [] else [(.key (((freeK L).getD (dr cell szOther 0 % (freeK L).length).toNat 0 : Nat) : Int), .key (((freeK L).getD 0 0 : Nat) : Int))]
def encPair (p : Tk × Tk) : PyData := .list [encTk p.1, encTk p.2]
def rOthers : List Sl → Rs → Prop := fun as r => ∃ (cell : Int) (L : List Tk), okL L ∧ (∀ x, Tk.word x ∈ L → x.length ≤ 5) ∧ as = [dInt cell, .dat (tksD L)] ∧ r = .lst ((othM cell L).map encPair)
theorem gw_len1 (n : Int) : 1 ≤ (genWord n).length ∧ (genWord n).length ≤ 5 := by
  have h := (gw_ok (gw_word n)).2.1
  refine ⟨?_, h⟩
  unfold genWord
  split
  · have : ∀ i : Nat, i < 9 → 1 ≤ (words9.getD i Str.empty).length := by decide +kernel
    exact this _ (by omega)
  · split
    · show 1 ≤ 1; decide
    · show 1 ≤ 2; decide
theorem any_mem (L : List Tk) (t : Tk) : ((L.map encTk).any fun z => PyData.eqv z (encTk t)) = decide (t ∈ L) := by
  have h := any_tks L id t
  rw [show (L.map fun x => encTk (id x)) = L.map encTk from rfl] at h
  rw [h, Bool.eq_iff_iff, List.any_eq_true, decide_eq_true_eq]
  constructor
  · rintro ⟨x, hx, e⟩
    rw [← of_decide_eq_true e]
    exact hx
  · intro ht
    exact ⟨t, ht, decide_eq_true rfl⟩
theorem shaped_L {L : List Tk} (h : ∀ t ∈ L, PyData.canLay0 (encTk t) = true) : SeqAt.shaped (tksD L) = true := by
  have := shaped_tks (l := L) (g := id) h
  exact this
theorem qFix_lay (L : List Tk) : ∀ (n : Nat) (x : Str), PyData.canLay0 (.str x) = true → PyData.canLay0 (.str (qFix L n x)) = true
  | 0, x, h => h
  | n + 1, x, h => by
    unfold qFix
    split
    · exact qFix_lay L n _ (canLay_app h (by decide +kernel))
    · exact h
section
variable {ι : Type} {X : ι → Cx} {δ : DEnv} {P : Program} {w : World} {K : PySem.W.Frag} {mg : Str → Option Value} {base : Heap} {k : Nat} [M : Fm X P w K mg base k] {a : Expr} {pos p : Pos} {x : Str} {s : Str}
include M
theorem ed_glob {u : Value} (hm : mg x = some u) (r : RelV (.str s) u) (hg : ∀ i, Gl (X i) x := by intro _; rfl) (hd : (x == ("__debug__" : Str)) = false := by decide) : ED X δ (.Name x pos) (.str s) := fun G0 H0 σ G H rp Q q =>
  ⟨tC (.str s), fun i => pe_glob (hg i) (by rw [M.glob i]; exact hm) r hd, q _ G H (Fx.refl rp.fx.s) (.str s)⟩
end
end CM

namespace CM
open PySem L2 DL
section
variable {ι : Type} {X : ι → Cx} {δ : DEnv} {P : Program} {w : World} {K : PySem.W.Frag} {mg : Str → Option Value} {base : Heap} {k : Nat} [M : Fm X P w K mg base k] {a : Expr} {pos p : Pos} {s : Str}
include M
theorem ed_lenStr (ha : ED X δ a (.str s)) (hz : s.length ≤ 16000000) (hm : mg "len" = none) (hg : ∀ i, Gl (X i) "len" := by intro _; rfl) (hs : ∀ i, starEach [a] (X i).env = [(false, eval a (X i).env)] := by intro _; rfl) : ED X δ (.Call (.Name "len" p) [a] [] pos) (.int s.length) :=
  ed_callB (ds := [.str s]) (fun i => call_len_str) boot_len' hm (ea_cons ha ea_nil hs) (fun vs G H sm hv Q q => by
    cases hv with
    | cons h1 h2 =>
      cases h1; cases h2
      exact ⟨s, rfl, small_of hz, q _ G H (Fx.refl sm) (.int _)⟩) hg hs (by intro _; rfl)
end
theorem empty_app (x : Str) : x.length = 0 + x.length := by omega
section
variable {P : Program} {w : World} {K : PySem.W.Frag} {mg : Str → Option Value} {base : Heap} {f : Addr} {fd : FuncData}
theorem df_word_by (B : Free mg) {uL : Value} (hL : mg "LETTERS" = some uL) (rL : RelV (.str lettersS) uL) (F : Fun K "word_by" "word_by" s_word_by f fd) (hm : mg "word_by" = some (.ref f)) (hb : Binds K fd ["number"] []) : Df P w K mg base "word_by" 1 ["number"] rWordBy := by
  refine df_mk F sc_word_by hm hb (fun as r ⟨_, _, e, _⟩ => by rw [e]; rfl) fun cdv A outer s H E M as r ⟨n0, hn0, e1, e2⟩ => ?_
  subst e1 e2
  refine db_cons (ds_set 1 ed_str ?_)
  refine db_cons (ds_while (fun m δ => ∃ (n g : Nat) (x : Str) (u : Option Sl), m = n ∧ n ≤ g ∧ wordGo g n x = wordBy n0 ∧ x.length + n ≤ 1000 ∧ δ = [some (dInt n), some (.dat (.str x)), u]) (m0 := n0) ⟨n0, n0, Str.empty, none, rfl, Nat.le_refl _, rfl, by show 0 + n0 ≤ 1000; omega, rfl⟩ (fun m δ ⟨n, g, x, u, hmn, hng, hx, hl, e⟩ => ?_))
  subst e hmn
  refine ⟨decide ((0 : Int) < (m : Int)), et_gt (ed_var 0) ed_int, fun h => ?_, fun h => ?_⟩
  case refine_2 =>
    have h0 : m = 0 := by
      have := of_decide_eq_false h
      omega
    subst h0
    rw [wordGo_zero] at hx
    rw [← hx]
    exact db_one (ds_ret (ed_var 1) rfl)
  have h0 : 0 < m := by
    have := of_decide_eq_true h
    omega
  obtain ⟨n, rfl⟩ : ∃ n, m = n + 1 := ⟨m - 1, by omega⟩
  obtain ⟨g', rfl⟩ : ∃ g', g = g' + 1 := ⟨g - 1, by omega⟩
  have l26 : (lettersS.length : Int) = 26 := by decide +kernel
  refine db_cons (ds_asg ((ed_divmod (j := 26) (ea_cons ((ed_sub (ed_var 0) ed_int).is (d2 := .int (n : Int)) (congrArg PyData.int (by omega))) (ea_cons ((ed_lenStr (ed_glob hL rL) (by decide +kernel) B.len).is (congrArg PyData.int l26)) ea_nil)) ⟨by decide, by decide⟩ B.divmod).is (d2 := .tuple [.int ((n / 26 : Nat) : Int), .int ((n % 26 : Nat) : Int)]) (by
    congr 1)) (gb_tup (gbs_cons 0 (gbs_cons 2 gbs_nil))) ?_)
  have l1 : atI lettersS.cps.toList ((n % 26 : Nat) : Int) = some (97 + n % 26) := atI_of (by omega) (by rw [Int.toNat_natCast]; exact letters_at _ (Nat.mod_lt _ (by decide)))
  refine db_one (ds_set 1 (ed_cat (ed_ixS (ed_glob hL rL) (ed_var 2) (by decide +kernel) l1) (ed_var 1) (by show 1 + _ ≤ _; omega)) ?_)
  refine ⟨n / 26, by have := Nat.div_le_self n 26; omega, n / 26, g', letterAt (n % 26) ++ x, some (dInt ((n % 26 : Nat) : Int)), rfl, ?_, hx, ?_, rfl⟩
  · have := Nat.div_le_self n 26
    omega
  · have h1 := Nat.div_le_self n 26
    rw [len_app]
    show 1 + x.length + n / 26 ≤ 1000
    omega
theorem df_law_event (B : Free mg) (Dd : Df P w K mg base "_law_drawn" 2 ["cell", "sizes"] rDrawn) (Dw : Df P w K mg base "_law_word" 1 ["number"] rWord) (F : Fun K "_law_event" "_law_event" s_law_event f fd) (hm : mg "_law_event" = some (.ref f)) (hb : Binds K fd ["cell", "patterns"] []) : Df P w K mg base "_law_event" 3 ["cell", "patterns"] rEvent := by
  refine df_mk F sc_law_event hm hb (fun as r ⟨_, _, _, e, _⟩ => by rw [e]; rfl) fun cdv A outer s H E M as r ⟨cell, L, hL, e1, e2⟩ => ?_
  subst e1 e2
  have b0 := dr_lt (cell := cell) (sz := szEvent) 0 rfl (by decide)
  have b1 := dr_lt (cell := cell) (sz := szEvent) 1 rfl (by decide)
  have b2 := dr_lt (cell := cell) (sz := szEvent) 2 rfl (by decide)
  obtain ⟨a0, a1, a2, hd⟩ : ∃ a0 a1 a2, drawn cell szEvent = [a0, a1, a2] := by
    have := drawn_len cell szEvent
    match drawn cell szEvent, this with
    | [x, y, z], _ => exact ⟨x, y, z, rfl⟩
  have e0 : dr cell szEvent 0 = a0 := by unfold dr; rw [hd]; rfl
  have e1 : dr cell szEvent 1 = a1 := by unfold dr; rw [hd]; rfl
  have e2 : dr cell szEvent 2 = a2 := by unfold dr; rw [hd]; rfl
  unfold evM
  rw [e0, e1, e2]
  rw [e0] at b0
  refine db_cons (ds_asg (el_drawn Dd (ea_cons (ed_var 0) (ea_cons (el_lst (ds := szEvent.map .int) (ea_cons ed_int (ea_cons ed_int (ea_cons ed_int ea_nil)))).dd ea_nil)) ⟨by decide, by decide⟩ hd).dd (gb_unl (gbs_cons 2 (gbs_cons 3 (gbs_cons 4 gbs_nil)))) ?_)
  have hsm : ∀ t ∈ L.filter isKW, PyData.canLay0 (encTk t) = true := fun t ht => hL.1 t (List.mem_filter.mp ht).1
  refine db_cons (ds_setLc 5 [("pattern", 6)] (xs := L) (enc := encTk) (c := isKW) (f := encTk) (is_list (ed_var 1)) (by have := hL.2; omega) (fun t ht => ⟨_, gb_name 6, ets_one (EW.t (ew_or (et_eqS (ed_ixT (ds := encTk t |> fun | .tuple l => l | _ => []) ((ed_var 6).is (by cases t <;> rfl)) ed_int (d := .str (tkName t)) (by cases t <;> rfl)) ed_str) (fun _ => ew_or1 (et_eqS (ed_ixT (ds := encTk t |> fun | .tuple l => l | _ => []) ((ed_var 6).is (by cases t <;> rfl)) ed_int (d := .str (tkName t)) (by cases t <;> rfl)) ed_str)))), fun _ => ed_var 6⟩) ?_)
  have hemp : (((L.filter isKW).map encTk).isEmpty = true) ↔ L.filter isKW = [] := by rw [isEmpty_map, List.isEmpty_iff]
  generalize L.filter isKW = sm at hsm hemp
  refine db_freeze 5 ?_
  refine db_cons (ds_if (EW.t (ew_and (et_lt (ed_var 2) ed_int) (fun _ => ew_and1 (et_neNil (ed_var 5).q (shaped_L hsm))))) (fun h => ?_) (fun h => db_nil ?_))
  · have h' : a0 < 4 ∧ sm ≠ [] := by
      rw [Bool.and_eq_true, decide_eq_true_eq, Bool.not_eq_true', ← Bool.not_eq_true, hemp] at h
      exact h
    rw [if_pos h']
    have hlt := mod_len a2 h'.2
    have hl0 : (0 : Int) < (sm.map encTk).length := by
      rw [List.length_map]
      have := List.length_pos_iff.mpr h'.2
      omega
    have hge := Int.emod_nonneg a2 (show ((sm.map encTk).length : Int) ≠ 0 by omega)
    have hat : atI (sm.map encTk) (a2 % (sm.map encTk).length) = some (encTk (sm.getD (a2 % sm.length).toNat .quiet)) := by
      rw [List.length_map] at hge ⊢
      exact atI_map hge (getD_some hlt)
    exact db_one (ds_ret (ed_ixL (ed_var 5).q (ed_mod (ed_var 4) (ed_lenL (ed_var 5).q B.len) hl0) hat) rfl)
  have h' : ¬ (a0 < 4 ∧ sm ≠ []) := fun q => by
    have : (decide (a0 < 4) && !(sm.map encTk).isEmpty) = true := by
      rw [Bool.and_eq_true, decide_eq_true_eq, Bool.not_eq_true', ← Bool.not_eq_true, hemp]
      exact q
    rw [this] at h
    cases h
  rw [if_neg h']
  refine db_cons (ds_if (et_lt (ed_var 2) ed_int) (fun h => ?_) (fun h => db_nil ?_))
  · rw [if_pos (of_decide_eq_true h)]
    exact db_one (ds_ret (ed_tup (ds := [.str "quiet"]) (ea_cons ed_str ea_nil)) rfl)
  have h6 := of_decide_eq_false h
  rw [if_neg h6]
  refine db_one (ds_ret (ed_ixL (ds := ([.key a1, .word (genWord a2)] : List Tk).map encTk) (el_lst (ea_cons (ed_tup (ds := [.str "key", .int a1]) (ea_cons ed_str (ea_cons (ed_var 3) ea_nil))) (ea_cons (ed_tup (ds := [.str "word", .str (genWord a2)]) (ea_cons ed_str (ea_cons (ed_call Dw (ea_cons (ed_var 4) ea_nil) ⟨a2, rfl, rfl⟩) ea_nil))) ea_nil))).q (ed_sub (ed_var 2) ed_int) (atI_map (v := if a0 = 6 then .key a1 else .word (genWord a2)) (by omega) ?_)) rfl)
  rcases (show a0 = 6 ∨ a0 = 7 by omega) with z | z
  · rw [z]; rfl
  · rw [z]; rfl
theorem df_law_others (B : Free mg) (Dd : Df P w K mg base "_law_drawn" 2 ["cell", "sizes"] rDrawn) (Dw : Df P w K mg base "_law_word" 1 ["number"] rWord) (F : Fun K "_law_others" "_law_others" s_law_others f fd) (hm : mg "_law_others" = some (.ref f)) (hb : Binds K fd ["cell", "patterns"] []) : Df P w K mg base "_law_others" 3 ["cell", "patterns"] rOthers := by
  refine df_mk F sc_law_others hm hb (fun as r ⟨_, _, _, _, e, _⟩ => by rw [e]; rfl) fun cdv A outer s H E M as r ⟨cell, L, hL, hW, e1, e2⟩ => ?_
  subst e1 e2
  obtain ⟨a0, a1, hd⟩ := len2 (drawn_len cell szOther)
  have e0 : dr cell szOther 0 = a0 := by unfold dr; rw [hd]; rfl
  have e1 : dr cell szOther 1 = a1 := by unfold dr; rw [hd]; rfl
  unfold othM
  rw [e0, e1]
  have hsL := shaped_L hL.1
  refine db_cons (ds_asg (el_drawn Dd (ea_cons (ed_var 0) (ea_cons (el_lst (ds := szOther.map .int) (ea_cons ed_int (ea_cons ed_int ea_nil))).dd ea_nil)) ⟨by decide, by decide⟩ hd).dd (gb_unl (gbs_cons 2 (gbs_cons 3 gbs_nil))) ?_)
  refine db_cons (ds_setLc 4 [("k", 7)] (xs := List.range 10) (enc := fun (k : Nat) => .int (k : Int)) (c := fun k => !decide (Tk.key (k : Int) ∈ L)) (f := fun (k : Nat) => .int (k : Int)) (is_range (n := 10) ed_int (by decide) B.range) (by decide) (fun k hk => ⟨_, gb_name 7, ets_one ((et_notIn (ed_tup (ds := [.str "key", .int (k : Int)]) (ea_cons ed_str (ea_cons (ed_var 7) ea_nil))) (ed_var 1).q (shaped_tk (t := .key k) (by simp only [encTk, PyData.canLay0, PyData.canLayAll0]; decide +kernel)) hsL).is (congrArg (fun b => !b) (any_mem L (.key k)))), fun _ => ed_var 7⟩) ?_)
  change DB _ (_ : DEnv) _ _
  refine db_freeze 4 ?_
  refine db_cons (ds_set 5 (ed_call Dw (ea_cons (ed_var 3) ea_nil) ⟨a1, rfl, rfl⟩) ?_)
  have hg1 := gw_len1 a1
  have hgl := (gw_ok (gw_word a1)).1.1
  have hfk : (List.filter (fun k : Nat => !decide (Tk.key (k : Int) ∈ L)) (List.range 10)) = freeK L := rfl
  rw [hfk]
  refine db_cons (ds_while (fun m δ => ∃ x : Str, qFix L m x = qFix L 10 (genWord a1) ∧ 11 ≤ x.length + m ∧ x.length ≤ 15 ∧ PyData.canLay0 (.str x) = true ∧ δ = [some (dInt cell), some (.dat (tksD L)), some (dInt a0), some (dInt a1), some (.dat (.list ((freeK L).map fun (k : Nat) => .int (k : Int)))), some (.dat (.str x)), none, none]) (m0 := 10) ⟨genWord a1, rfl, by omega, by omega, hgl, rfl⟩ (fun m δ ⟨x, hx, h1, h2, hlx, e⟩ => ?_))
  subst e
  refine ⟨decide (Tk.word x ∈ L), (et_in (ed_tup (ds := [.str "word", .str x]) (ea_cons ed_str (ea_cons (ed_var 5) ea_nil))) (ed_var 1).q (shaped_tk (t := .word x) (by
    simp only [encTk, PyData.canLay0, PyData.canLayAll0, Bool.and_true, Bool.and_eq_true] at hlx ⊢
    exact ⟨by decide +kernel, hlx⟩)) hsL).is (any_mem L (.word x)), fun h => ?_, fun h => ?_⟩
  · have hm := of_decide_eq_true h
    have h5 := hW x hm
    obtain ⟨m', rfl⟩ : ∃ m', m = m' + 1 := ⟨m - 1, by omega⟩
    refine db_one (ds_set 5 (ed_cat (ed_var 5) ed_str (by show _ + 1 ≤ _; omega)) ⟨m', by omega, x ++ "q", ?_, ?_, ?_, canLay_app hlx (by decide +kernel), rfl⟩)
    · rw [← hx]
      conv => rhs; unfold qFix
      rw [if_pos hm]
    · rw [len_app]
      show 11 ≤ x.length + 1 + m'
      omega
    · rw [len_app]
      show x.length + 1 ≤ 15
      omega
  have hn := of_decide_eq_false h
  have hq : qFix L m x = x := by
    cases m with
    | zero => rfl
    | succ m => unfold qFix; rw [if_neg hn]
  rw [hq] at hx
  rw [← hx]
  refine db_cons (ds_setL 6 (el_lst (ds := [encPair (.word x, .word "zebra")]) (ea_cons (el_lst (ds := [encTk (.word x), encTk (.word "zebra")]) (ea_cons (ed_tup (ds := [.str "word", .str x]) (ea_cons ed_str (ea_cons (ed_var 5) ea_nil))) (ea_cons (ed_tup (ds := [.str "word", .str "zebra"]) (ea_cons ed_str (ea_cons ed_str ea_nil))) ea_nil))).dd ea_nil)) ?_)
  have hemp : (((freeK L).map fun (k : Nat) => PyData.int (k : Int)).isEmpty = true) ↔ freeK L = [] := by rw [isEmpty_map, List.isEmpty_iff]
  have hshK : SeqAt.shaped (.list ((freeK L).map fun (k : Nat) => PyData.int (k : Int))) = true := by
    have := PySem.W.shaped_ints ((freeK L).map fun (k : Nat) => (k : Int))
    rw [List.map_map] at this
    exact this
  refine db_if (fun δ => ∃ u0 u1 u2 u3 u4 u5, δ = [u0, u1, u2, u3, u4, u5, some (.lst (((Tk.word x, Tk.word "zebra") :: if freeK L = [] then [] else [(.key (((freeK L).getD (a0 % (freeK L).length).toNat 0 : Nat) : Int), .key (((freeK L).getD 0 0 : Nat) : Int))]).map encPair)), none]) (et_neNil (ed_var 4).q hshK) (fun h => ?_) (fun h => ?_) (fun δ ⟨u0, u1, u2, u3, u4, u5, e⟩ => ?_)
  · have hne : freeK L ≠ [] := by
      rw [Bool.not_eq_true', ← Bool.not_eq_true, hemp] at h
      exact h
    rw [if_neg hne]
    have hlt := mod_len a0 hne
    have hl1 := List.length_pos_iff.mpr hne
    have hl0 : (0 : Int) < ((freeK L).map fun (k : Nat) => PyData.int (k : Int)).length := by
      rw [List.length_map]
      omega
    have hge := Int.emod_nonneg a0 (show (((freeK L).map fun (k : Nat) => PyData.int (k : Int)).length : Int) ≠ 0 by omega)
    have hat : atI ((freeK L).map fun (k : Nat) => PyData.int (k : Int)) (a0 % ((freeK L).map fun (k : Nat) => PyData.int (k : Int)).length) = some (.int (((freeK L).getD (a0 % (freeK L).length).toNat 0 : Nat) : Int)) := by
      rw [List.length_map] at hge ⊢
      exact atI_map (f := fun (k : Nat) => PyData.int (k : Int)) hge (getD_some hlt)
    have hat0 : atI ((freeK L).map fun (k : Nat) => PyData.int (k : Int)) 0 = some (.int (((freeK L).getD 0 0 : Nat) : Int)) := atI_map (f := fun (k : Nat) => PyData.int (k : Int)) (by decide) (getD_some hl1)
    refine db_one (ds_app 6 (el_lst (ds := [encTk (.key (((freeK L).getD (a0 % (freeK L).length).toNat 0 : Nat) : Int)), encTk (.key (((freeK L).getD 0 0 : Nat) : Int))]) (ea_cons (ed_tup (ds := [.str "key", .int (((freeK L).getD (a0 % (freeK L).length).toNat 0 : Nat) : Int)]) (ea_cons ed_str (ea_cons (ed_ixL (ed_var 4).q (ed_mod (ed_var 2) (ed_lenL (ed_var 4).q B.len) hl0) hat) ea_nil)))
      (ea_cons (ed_tup (ds := [.str "key", .int (((freeK L).getD 0 0 : Nat) : Int)]) (ea_cons ed_str (ea_cons (ed_ixL (ed_var 4).q ed_int hat0) ea_nil))) ea_nil))).dd (by show 1 < 16000000; decide) ⟨_, _, _, _, _, _, rfl⟩ (hl := rfl))
  · have he : freeK L = [] := by
      rw [Bool.not_eq_false', hemp] at h
      exact h
    rw [if_pos he]
    exact db_nil ⟨_, _, _, _, _, _, rfl⟩
  · subst e
    exact db_one (ds_retV 6 rfl)
end
end CM

namespace CM
open PySem L2 DL
def keysOf : List Tk → List Int
  | [] => []
  | .key k :: r => k :: keysOf r
  | _ :: r => keysOf r
def wordsOf : List Tk → List Str
  | [] => []
  | .word x :: r => x :: wordsOf r
  | _ :: r => wordsOf r
theorem keysOf_mem : ∀ (L : List Tk) (k : Int), k ∈ keysOf L ↔ Tk.key k ∈ L
  | [], k => by simp [keysOf]
  | t :: r, k => by cases t <;> simp [keysOf, keysOf_mem r]
theorem wordsOf_mem : ∀ (L : List Tk) (k : Str), k ∈ wordsOf L ↔ Tk.word k ∈ L
  | [], k => by simp [wordsOf]
  | t :: r, k => by cases t <;> simp [wordsOf, wordsOf_mem r]
theorem keysOf_len : ∀ L : List Tk, (keysOf L).length ≤ L.length
  | [] => Nat.le_refl _
  | t :: r => by
    have := keysOf_len r
    cases t <;> simp [keysOf] <;> omega
theorem wordsOf_len : ∀ L : List Tk, (wordsOf L).length ≤ L.length
  | [] => Nat.le_refl _
  | t :: r => by
    have := wordsOf_len r
    cases t <;> simp [wordsOf] <;> omega
def tkArg : Tk → PyData
  | .key k => .int k
  | .word x => .str x
  | _ => .none
theorem keys_comp : ∀ L : List Tk, (L.filter fun t => decide (tkName t = "key")).map tkArg = (keysOf L).map .int
  | [] => rfl
  | t :: r => by
    have ih := keys_comp r
    cases t with
    | key k =>
      rw [List.filter_cons_of_pos (by show decide (("key" : Str) = "key") = true; decide)]
      show PyData.int k :: _ = PyData.int k :: _
      rw [ih]
    | word x => rw [List.filter_cons_of_neg (by show ¬ decide (("word" : Str) = "key") = true; decide)]; exact ih
    | other => rw [List.filter_cons_of_neg (by decide)]; exact ih
    | none => rw [List.filter_cons_of_neg (by decide)]; exact ih
    | quiet => rw [List.filter_cons_of_neg (by decide)]; exact ih
theorem words_comp : ∀ L : List Tk, (L.filter fun t => decide (tkName t = "word")).map tkArg = (wordsOf L).map .str
  | [] => rfl
  | t :: r => by
    have ih := words_comp r
    cases t with
    | word x =>
      rw [List.filter_cons_of_pos (by show decide (("word" : Str) = "word") = true; decide)]
      show PyData.str x :: _ = PyData.str x :: _
      rw [ih]
    | key x => rw [List.filter_cons_of_neg (by show ¬ decide (("key" : Str) = "word") = true; decide)]; exact ih
    | other => rw [List.filter_cons_of_neg (by decide)]; exact ih
    | none => rw [List.filter_cons_of_neg (by decide)]; exact ih
    | quiet => rw [List.filter_cons_of_neg (by decide)]; exact ih
def othersOf (ks : List Int) : List Int := ((List.range 10).filter fun (k : Nat) => !decide ((k : Int) ∈ ks)).map fun (k : Nat) => (k : Int)
/-- the events told -/
def toldOf (ks : List Int) (ws : List Str) (x : Str) : List Tk := .quiet :: ((ks ++ (othersOf ks).take 1).map Tk.key ++ (ws ++ [x]).map Tk.word)
def rEvents : List Sl → (List PyData → Prop) → Prop := fun as Po => ∃ sc : Sc, (∀ t ∈ sc.talks, goodB t.2) ∧ zsB (sc.talks.map (·.2)) ≤ 1000000 ∧ (pats sc).length ≤ 270 ∧ sc.talks.length ≤ 100 ∧ (∀ x, Tk.word x ∈ pats sc → PyData.canLay0 (.str x) = true) ∧ as = [.dat (encSc false sc)] ∧
  Po = fun ds => ∃ (ks : List Int) (ws : List Str) (x : Str), ds = (toldOf ks ws x).map encTk ∧ (∀ k, k ∈ ks ↔ Tk.key k ∈ pats sc) ∧ (∀ y, y ∈ ws ↔ Tk.word y ∈ pats sc) ∧ x ∉ ws ∧ PyData.canLay0 (.str x) = true ∧ ks.length ≤ 270 ∧ ws.length ≤ 270
theorem nodup_le {α : Type} [DecidableEq α] : ∀ (l ws : List α), l.Nodup → (∀ x ∈ l, x ∈ ws) → l.length ≤ ws.length
  | [], _, _, _ => Nat.zero_le _
  | x :: r, ws, hn, hs => by
    obtain ⟨h1, h2⟩ := List.nodup_cons.mp hn
    have hx := hs x List.mem_cons_self
    have ih := nodup_le r (ws.erase x) h2 fun y hy => (List.mem_erase_of_ne (fun e => h1 (by rw [e] at hy; exact hy))).mpr (hs y (List.mem_cons_of_mem _ hy))
    have hl := List.length_erase_of_mem hx
    have := List.length_pos_of_mem hx
    simp only [List.length_cons]
    omega
theorem words_nd : ((List.range 290).map fun j => wordBy (j + 1)).Nodup := nodupB_ok (by decide +kernel)
theorem words_lay : ∀ n : Nat, n < 291 → PyData.canLay0 (.str (wordBy n)) = true := by decide +kernel
theorem words_few {n : Nat} {ws : List Str} (hn : n ≤ 290) (h : ∀ j, j < n → wordBy (j + 1) ∈ ws) : n ≤ ws.length := by
  have h1 : ((List.range n).map fun j => wordBy (j + 1)).Nodup := by
    have e : (List.range n).map (fun j => wordBy (j + 1)) = ((List.range 290).map fun j => wordBy (j + 1)).take n := by
      rw [← List.map_take, List.take_range, Nat.min_eq_left hn]
    rw [e]
    exact List.Sublist.nodup (List.take_sublist _ _) words_nd
  have := nodup_le _ ws h1 fun x hx => by
    obtain ⟨j, hj, rfl⟩ := List.mem_map.mp hx
    exact h j (List.mem_range.mp hj)
  simpa using this
theorem any_int (ks : List Int) (k : Int) : ((ks.map PyData.int).any fun z => PyData.eqv z (.int k)) = decide (k ∈ ks) := by
  rw [Bool.eq_iff_iff, List.any_eq_true, decide_eq_true_eq]
  constructor
  · rintro ⟨d, hd, e⟩
    obtain ⟨x, hx, rfl⟩ := List.mem_map.mp hd
    simp only [PyData.eqv, beq_iff_eq] at e
    rw [← e]
    exact hx
  · intro h
    exact ⟨.int k, List.mem_map.mpr ⟨k, h, rfl⟩, by simp [PyData.eqv]⟩
theorem any_str (ks : List Str) (k : Str) : ((ks.map PyData.str).any fun z => PyData.eqv z (.str k)) = decide (k ∈ ks) := by
  rw [Bool.eq_iff_iff, List.any_eq_true, decide_eq_true_eq]
  constructor
  · rintro ⟨d, hd, e⟩
    obtain ⟨x, hx, rfl⟩ := List.mem_map.mp hd
    simp only [PyData.eqv, beq_iff_eq] at e
    rw [← e]
    exact hx
  · intro h
    exact ⟨.str k, List.mem_map.mpr ⟨k, h, rfl⟩, by simp [PyData.eqv]⟩
theorem shaped_int (k : Int) : SeqAt.shaped (.int k) = true := by
  unfold SeqAt.shaped
  rw [Bool.and_eq_true]
  exact ⟨rfl, decide_eq_true (by simp [PyData.depth])⟩
end CM

namespace CM
open PySem L2 DL
section
variable {ι : Type} {X : ι → Cx} {δ : DEnv} {P : Program} {w : World} {K : PySem.W.Frag} {mg : Str → Option Value} {base : Heap} {k : Nat} [M : Fm X P w K mg base k] {e : Expr} {pos p : Pos} {x : Str} {J : DK}
include M
/-- name += e of ints -/
theorem ds_augI (i : Nat) {m n : Int} (he : ED X δ e (.int n)) (k : J.nx (δ.set i (some (.dat (.int (m + n)))))) (hl : δ[i]? = some (some (.dat (.int m))) := by rfl) (hi : ∀ j, (X j).N[i]? = some x := by intro _; rfl) (hx : ∀ j, Loc (X j).env.scope x := by intro _; first | exact Or.inl rfl | exact Or.inr rfl) (hf : ∀ j, (X j).fn x = true ∨ (X j).env.scope.names.lookup x = some .local := by intro _; first | exact .inl rfl | exact .inr rfl) : DS X δ (.AugAssign (.Name x p) .Add e pos) J := fun G0 H0 σ G H D r mm =>
  ⟨tAug i (uE X e) (ipI fun i j => i + j), fun j => ps_aug (M.nd j) (hi j) (hx j) (uE_ok j) ip_add (hf j), by
    obtain ⟨v, ev, hv⟩ := r.sl i _ hl
    refine ⟨v, ev, he G0 H0 σ G H r _ fun u G1 H1 f1 hu => ?_⟩
    have hv' : Dq G1 v (.int m) := Dq.mono f1.g _ _ hv
    cases hv'
    cases hu
    refine ⟨m, n, rfl, rfl, ?_⟩
    have r1 := r.go f1
    have hlt : i < δ.length := (List.getElem?_eq_some_iff.mp hl).1
    exact mm.nx _ _ G1 H1 (r1.set hlt (s := .dat (.int (m + n))) (v := .int (m + n)) (.int _) (fun _ => Sl.noConfusion)) k⟩
end
section
variable {P : Program} {w : World} {K : PySem.W.Frag} {mg : Str → Option Value} {base : Heap} {f : Addr} {fd : FuncData}
theorem dfn_events_of (B : Free mg) (Pf : Dfn P w K mg base "patterns_of" 2 ["script"] rPats) (Wb : Df P w K mg base "word_by" 1 ["number"] rWordBy) (F : Fun K "events_of" "events_of" s_events_of f fd) (hm : mg "events_of" = some (.ref f)) (hb : Binds K fd ["script"] []) : Dfn P w K mg base "events_of" 3 ["script"] rEvents := by
  refine dfn_mk F sc_events_of hm hb (fun as r ⟨_, _, _, _, _, _, e, _⟩ => by rw [e]; rfl) fun cdv A outer sh H E M as Po hR => ?_
  obtain ⟨sc, hg, hz, hp, ht, hlay, e1, e2⟩ := hR
  subst e1 e2
  refine db_cons (ds_setN 1 (en_call Pf (ea_cons (ed_var 0) ea_nil) ⟨sc, hg, hz, by omega, ht, rfl, rfl⟩) fun ds ⟨L, eL, hmL, hlL⟩ => ?_)
  subst eL
  refine db_freeze 1 ?_
  have hlen : L.length ≤ 270 := by omega
  have turn : ∀ (t : Tk) (nm : Str), ∃ rs, encTk t = .tuple (.str (tkName t) :: rs) := fun t _ => tk_head t
  have hkl := keysOf_len L
  have hwl := wordsOf_len L
  have hsb : scanBound = 4096 := rfl
  refine db_cons (ds_setN 2 (en_sortedI (ns := keysOf L) ((el_lc [("pattern", 7)] (xs := L) (enc := encTk) (c := fun t => decide (tkName t = "key")) (f := tkArg) (is_list (ed_var 1)) (by omega) (fun t ht => ⟨_, gb_name 7, ets_one (et_eqS (ed_ixT (ds := encTk t |> fun | .tuple l => l | _ => []) ((ed_var 7).is (by cases t <;> rfl)) ed_int (d := .str (tkName t)) (by cases t <;> rfl)) ed_str), fun h => by
      cases t with
      | key k => exact ed_ixT (ed_var 7) ed_int (d := .int k)
      | word x => exact absurd (of_decide_eq_true h) (by show ¬ ("word" : Str) = "key"; decide)
      | other => exact absurd (of_decide_eq_true h) (by decide)
      | none => exact absurd (of_decide_eq_true h) (by decide)
      | quiet => exact absurd (of_decide_eq_true h) (by decide)⟩)).q.is (keys_comp L)) (by omega) B.sorted B.set) fun ds ⟨ks, ek, hks, hksl⟩ => ?_)
  subst ek
  refine db_cons (ds_setN 3 (en_sortedS (ns := wordsOf L) ((el_lc [("pattern", 7)] (xs := L) (enc := encTk) (c := fun t => decide (tkName t = "word")) (f := tkArg) (is_list (ed_var 1)) (by omega) (fun t ht => ⟨_, gb_name 7, ets_one (et_eqS (ed_ixT (ds := encTk t |> fun | .tuple l => l | _ => []) ((ed_var 7).is (by cases t <;> rfl)) ed_int (d := .str (tkName t)) (by cases t <;> rfl)) ed_str), fun h => by
      cases t with
      | word k => exact ed_ixT (ed_var 7) ed_int (d := .str k)
      | key x => exact absurd (of_decide_eq_true h) (by show ¬ ("key" : Str) = "word"; decide)
      | other => exact absurd (of_decide_eq_true h) (by decide)
      | none => exact absurd (of_decide_eq_true h) (by decide)
      | quiet => exact absurd (of_decide_eq_true h) (by decide)⟩)).q.is (words_comp L)) (by omega) B.sorted B.set) fun ds ⟨ws, ew, hws, hwsl⟩ => ?_)
  subst ew
  have hkP : ∀ k, k ∈ ks ↔ Tk.key k ∈ pats sc := fun k => by rw [hks, keysOf_mem, hmL]
  have hwP : ∀ y, y ∈ ws ↔ Tk.word y ∈ pats sc := fun y => by rw [hws, wordsOf_mem, hmL]
  have hshw : SeqAt.shaped (dStrs ws) = true := shaped_strs fun y hy => hlay y ((hwP y).1 hy)
  refine db_freeze 2 ?_
  refine db_freeze 3 ?_
  refine db_cons (ds_setLc 4 [("key", 8)] (xs := List.range 10) (enc := fun (k : Nat) => .int (k : Int)) (c := fun k => !decide ((k : Int) ∈ ks)) (f := fun (k : Nat) => .int (k : Int)) (is_range (n := 10) ed_int (by decide) B.range) (by decide) (fun k hk => ⟨_, gb_name 8, ets_one ((et_notIn (ed_var 8) (ed_var 2).q (shaped_int _) (PySem.W.shaped_ints ks)).is (congrArg (fun b => !b) (any_int ks (k : Int)))), fun _ => ed_var 8⟩) ?_)
  have eo : ((List.range 10).filter fun (k : Nat) => !decide ((k : Int) ∈ ks)).map (fun (k : Nat) => PyData.int (k : Int)) = (othersOf ks).map .int := by
    unfold othersOf
    rw [List.map_map]
    rfl
  rw [eo]
  refine db_freeze 4 ?_
  refine db_cons (ds_set 5 ed_int ?_)
  refine db_cons (ds_while (fun m δ => ∃ n : Nat, m + n = 1000 ∧ 1 ≤ n ∧ n ≤ 271 ∧ (∀ j, j + 1 < n → wordBy (j + 1) ∈ ws) ∧ δ = [some (.dat (encSc false sc)), some (.dat (tksD L)), some (.dat (dInts ks)), some (.dat (dStrs ws)), some (.dat (dInts (othersOf ks))), some (dInt n), none, none, none, none]) (m0 := 999) ⟨1, rfl, by decide, by decide, fun j hj => by omega, rfl⟩ (fun m δ ⟨n, hmn, h1, h2, hj, e⟩ => ?_))
  subst e
  refine ⟨decide (wordBy n ∈ ws), (et_in (ed_call Wb (ea_cons (ed_var 5) ea_nil) ⟨n, by omega, rfl, rfl⟩) (ed_var 3).q (shaped_str (words_lay n (by omega))) hshw).is (any_str ws (wordBy n)), fun h => ?_, fun h => ?_⟩
  · have hin := of_decide_eq_true h
    have hall : ∀ j, j < n → wordBy (j + 1) ∈ ws := fun j hj' => by
      by_cases z : j + 1 < n
      · exact hj j z
      · have : j + 1 = n := by omega
        rw [this]
        exact hin
    have hle := words_few (by omega) hall
    refine db_one (ds_augI 5 (m := (n : Int)) ed_int ⟨m - 1, by omega, n + 1, by omega, by omega, by omega, fun j hj' => hall j (by omega), rfl⟩)
  have hnin := of_decide_eq_false h
  have hol : (othersOf ks).length ≤ 10 := by
    unfold othersOf
    rw [List.length_map]
    exact Nat.le_trans (List.length_filter_le _ _) (by simp)
  have ecut : cutD ((othersOf ks).map PyData.int) none (some 1) = ((othersOf ks).take 1).map .int := by
    unfold cutD
    rw [show HT.sIx ((othersOf ks).map PyData.int).length ((othersOf ks).map PyData.int).length (some 1) = min 1 ((othersOf ks).map PyData.int).length from rfl]
    show (((othersOf ks).map PyData.int).drop 0).take (min 1 _ - 0) = _
    rw [List.drop_zero, Nat.sub_zero, List.map_take]
    cases (othersOf ks).map PyData.int with
    | nil => rfl
    | cons x r => simp
  have elen : ((othersOf ks).take 1).length ≤ 1 := by rw [List.length_take]; omega
  refine db_cons (ds_setL 6 ((el_cat (el_lst (ds := [encTk .quiet]) (ea_cons (ed_tup (ds := [.str "quiet"]) (ea_cons ed_str ea_nil)) ea_nil)).q (el_lcAll [("key", 8)] (xs := ks ++ (othersOf ks).take 1) (enc := .int) (f := fun k => encTk (.key k)) (is_list ((el_cat (ed_var 2).q ((el_slice (ed_var 4).q eo_none (eo_some ed_int)).q.is ecut) (by rw [List.length_map, List.length_map]; omega)).dd.is (by rw [← List.map_append]))) (by rw [List.length_append]; omega) (fun k hk => ⟨_, gb_name 8, ets_nil, fun _ => ed_tup (ds := [.str "key", .int k]) (ea_cons ed_str (ea_cons (ed_var 8) ea_nil))⟩)).q ?_)) ?_)
  · rw [List.length_map, List.length_append]
    show 1 + _ ≤ _
    omega
  refine db_one (ds_retL (el_cat (eq_var 6) (el_lcAll [("word", 9)] (xs := ws ++ [wordBy n]) (enc := .str) (f := fun y => encTk (.word y)) (is_list ((el_cat (ed_var 3).q (el_lst (ds := [.str (wordBy n)]) (ea_cons (ed_call Wb (ea_cons (ed_var 5) ea_nil) ⟨n, by omega, rfl, rfl⟩) ea_nil)).q (by rw [List.length_map]; show _ + 1 ≤ _; omega)).dd.is (by rw [List.map_append]; rfl))) (by rw [List.length_append]; show _ + 1 ≤ _; omega) (fun y hy => ⟨_, gb_name 9, ets_nil, fun _ => ed_tup (ds := [.str "word", .str y]) (ea_cons ed_str (ea_cons (ed_var 9) ea_nil))⟩)).q ?_) ⟨_, rfl, ks, ws, wordBy n, ?_, hkP, hwP, hnin, words_lay n (by omega), by omega, by omega⟩)
  · rw [List.length_append, List.length_map, List.length_map, List.length_append, List.length_append]
    show 1 + _ + (_ + 1) ≤ _
    omega
  · simp [toldOf, Function.comp_def]
end
end CM

namespace CM
open PySem L2 DL
/-! ### patterns of a sound script -/
section
variable {Γ : Prm} {T : List Tk}
def Prm.within (Γ : Prm) (T : List Tk) : Prm := { Γ with Q := fun t => Γ.Q t ∧ t ∈ T }
mutual
theorem ok_inS {lp : Bool} : ∀ s : Sm, okS Γ lp s → (∀ t ∈ patS s, t ∈ T) → okS (Γ.within T) lp s
  | .say w, h, _ => h
  | .hand l w, h, _ => h
  | .put b e, h, _ => h
  | .test c a b, h, hp => ⟨h.1, ok_inB a h.2.1 fun t ht => hp t (List.mem_append_left _ ht), ok_inB b h.2.2 fun t ht => hp t (List.mem_append_right _ ht)⟩
  | .wait l bs, h, hp => ⟨h.1, ok_inR bs h.2 hp⟩
  | .loop b, h, hp => ⟨h.1, ok_inB b h.2 hp⟩
  | .again, h, _ => h
  | .leave, h, _ => h
  | .call t, h, _ => h
  | .back, h, _ => h
  | .stop, h, _ => h
theorem ok_inB {lp : Bool} : ∀ b : List Sm, okB Γ lp b → (∀ t ∈ patB b, t ∈ T) → okB (Γ.within T) lp b
  | [], _, _ => trivial
  | s :: r, h, hp => ⟨ok_inS s h.1 fun t ht => hp t (List.mem_append_left _ ht), ok_inB r h.2 fun t ht => hp t (List.mem_append_right _ ht)⟩
theorem ok_inR {lp : Bool} : ∀ b : List (Tk × List Sm), okR Γ lp b → (∀ t ∈ patR b, t ∈ T) → okR (Γ.within T) lp b
  | [], _, _ => trivial
  | (p, b) :: r, h, hp => ⟨⟨⟨h.1.1, hp p List.mem_cons_self⟩, ok_inB b h.1.2 fun t ht => hp t (List.mem_cons_of_mem _ (List.mem_append_left _ ht))⟩, ok_inR r h.2 fun t ht => hp t (List.mem_cons_of_mem _ (List.mem_append_right _ ht))⟩
end
mutual
theorem ok_QS {lp : Bool} : ∀ s : Sm, okS Γ lp s → ∀ t ∈ patS s, Γ.Q t
  | .say w, _, _, ht => by cases ht
  | .hand l w, _, _, ht => by cases ht
  | .put b e, _, _, ht => by cases ht
  | .test c a b, h, t, ht => by
    rcases List.mem_append.mp ht with z | z
    · exact ok_QB a h.2.1 t z
    · exact ok_QB b h.2.2 t z
  | .wait l bs, h, t, ht => ok_QR bs h.2 t ht
  | .loop b, h, t, ht => ok_QB b h.2 t ht
  | .again, _, _, ht => by cases ht
  | .leave, _, _, ht => by cases ht
  | .call t, _, _, ht => by cases ht
  | .back, _, _, ht => by cases ht
  | .stop, _, _, ht => by cases ht
theorem ok_QB {lp : Bool} : ∀ b : List Sm, okB Γ lp b → ∀ t ∈ patB b, Γ.Q t
  | [], _, _, ht => by cases ht
  | s :: r, h, t, ht => by
    rcases List.mem_append.mp ht with z | z
    · exact ok_QS s h.1 t z
    · exact ok_QB r h.2 t z
theorem ok_QR {lp : Bool} : ∀ b : List (Tk × List Sm), okR Γ lp b → ∀ t ∈ patR b, Γ.Q t
  | [], _, _, ht => by cases ht
  | (p, b) :: r, h, t, ht => by
    rcases List.mem_cons.mp ht with rfl | ht
    · exact h.1.1
    · rcases List.mem_append.mp ht with z | z
      · exact ok_QB b h.1.2 t z
      · exact ok_QR r h.2 t z
end
end
theorem pats_talk {sc : Sc} {t : Str × List Sm} (ht : t ∈ sc.talks) : ∀ p ∈ patB t.2, p ∈ pats sc := fun p hp => List.mem_flatMap.mpr ⟨t.2, List.mem_map.mpr ⟨t, ht, rfl⟩, hp⟩
theorem sc_within {sc : Sc} {Γ : Prm} {D : Nat} (ok : ScOk sc Γ D) : ScOk sc (Γ.within (pats sc)) D :=
  ⟨ok.boxes, ok.names, ok.nd, ok.ne, ok.few, ok.fewb, ok.sizes, ok.bnames, ok.tnames, fun t ht => let ⟨h1, h2, h3⟩ := ok.talks t ht; ⟨ok_inB t.2 h1 (pats_talk ht), h2, h3⟩, ok.held⟩
theorem pats_Q {sc : Sc} {Γ : Prm} {D : Nat} (ok : ScOk sc Γ D) : ∀ t ∈ pats sc, Γ.Q t := fun t ht => by
  obtain ⟨b, hb, ht⟩ := List.mem_flatMap.mp ht
  obtain ⟨k, hk, rfl⟩ := List.mem_map.mp hb
  exact ok_QB k.2 (ok.talks k hk).1 t ht
/-! ### two events that no wait has -/
def fresh (sc : Sc) (t : Tk) : Prop := t ∉ pats sc ∧ t ≠ .quiet
theorem br_same {bs : List (Tk × List Sm)} {T : List Tk} (hb : ∀ x ∈ bs, x.1 ∈ T) {s t : Tk} (hs : s ∉ T) (ht : t ∉ T) (qs : s ≠ .quiet) (qt : t ≠ .quiet) : brFor bs s = brFor bs t := by
  have no : ∀ u, u ∉ T → ¬ hasTk bs u = true := fun u hu h => by
    obtain ⟨x, hx, e⟩ := List.any_eq_true.mp h
    have := hb x hx
    rw [of_decide_eq_true e] at this
    exact hu this
  unfold brFor
  rw [if_neg (no s hs), if_neg (no t ht)]
  by_cases h : hasTk bs .other = true
  · rw [if_pos ⟨qs, h⟩, if_pos ⟨qt, h⟩]
  · rw [if_neg (fun z => h z.2), if_neg (fun z => h z.2)]
theorem step_same {sc : Sc} {Γ : Prm} {D : Nat} (ok : ScOk sc (Γ.within (pats sc)) D) {st : Option (List Fr × List Int × Int)} (h : StdOk sc (Γ.within (pats sc)) D st) {s t : Tk} (hs : fresh sc s) (ht : fresh sc t) : stepM sc D st s = stepM sc D st t := by
  cases st with
  | none => rfl
  | some q =>
    obtain ⟨S, vs, l⟩ := q
    have h' : StOk sc (Γ.within (pats sc)) D S vs l := h
    obtain ⟨hw, hv, hl, f, F, B, l', bs, rfl, hbd, hp, hB⟩ := id h'
    have hb : waitOf sc (f :: F) = some bs := by simp only [waitOf, hbd, hB]
    obtain ⟨⟨B', hF⟩, _⟩ := id hw
    have eB : B' = B := by
      have := hF.body
      rw [hbd] at this
      exact (Option.some.inj this).symm
    subst eB
    have h1 := okB_get hF.ok hB
    simp only [stepM, hb]
    rw [br_same (T := pats sc) (fun x hx => (okR_all.mp h1.2 x hx).1.2) hs.1 ht.1 hs.2 ht.2]
/-! ### what the law draws -/
theorem qFix_out {L : List Tk} (hW : ∀ x, Tk.word x ∈ L → x.length ≤ 5) : ∀ (n : Nat) (x : Str), 5 < x.length + n → Tk.word (qFix L n x) ∉ L
  | 0, x, h, hm => by
    have := hW x hm
    omega
  | n + 1, x, h, hm => by
    unfold qFix at hm
    split at hm
    · exact qFix_out hW n _ (by rw [len_app]; show 5 < x.length + 1 + n; omega) hm
    · rename_i hn
      exact hn hm
def lays (t : Tk) : Prop := PyData.canLay0 (encTk t) = true
theorem lay_word {x : Str} (h : PyData.canLay0 (.str x) = true) : lays (.word x) := by
  simp only [lays, encTk, PyData.canLay0, PyData.canLayAll0, Bool.and_true, Bool.and_eq_true] at h ⊢
  exact ⟨by decide +kernel, h⟩
theorem lay_key (k : Int) : lays (.key k) := by
  simp only [lays, encTk, PyData.canLay0, PyData.canLayAll0]
  decide +kernel
theorem told_keys (ks : List Int) (ws : List Str) (x : Str) : (toldOf ks ws x).filter (fun t => decide (tkName t = "key")) = (ks ++ (othersOf ks).take 1).map Tk.key := by
  unfold toldOf
  rw [List.filter_cons_of_neg (by decide), List.filter_append, List.filter_eq_self.mpr, List.filter_eq_nil_iff.mpr, List.append_nil]
  · intro t ht
    obtain ⟨y, _, rfl⟩ := List.mem_map.mp ht
    show ¬ decide (("word" : Str) = "key") = true
    decide
  · intro t ht
    obtain ⟨y, _, rfl⟩ := List.mem_map.mp ht
    show decide (("key" : Str) = "key") = true
    decide
theorem told_words (ks : List Int) (ws : List Str) (x : Str) : (toldOf ks ws x).filter (fun t => decide (tkName t = "word")) = (ws ++ [x]).map Tk.word := by
  unfold toldOf
  rw [List.filter_cons_of_neg (by decide), List.filter_append, List.filter_eq_nil_iff.mpr, List.filter_eq_self.mpr, List.nil_append]
  · intro t ht
    obtain ⟨y, _, rfl⟩ := List.mem_map.mp ht
    show decide (("word" : Str) = "word") = true
    decide
  · intro t ht
    obtain ⟨y, _, rfl⟩ := List.mem_map.mp ht
    show ¬ decide (("key" : Str) = "word") = true
    decide
/-- what is known of a drawn pair -/
theorem drawn_pair {sc : Sc} {L : List Tk} {ks : List Int} {ws : List Str} {x : Str} (hQ : ∀ t ∈ pats sc, QTk t) (hL : ∀ t, t ∈ L ↔ t ∈ pats sc) (hk : ∀ k, k ∈ ks ↔ Tk.key k ∈ pats sc) (hw : ∀ y, y ∈ ws ↔ Tk.word y ∈ pats sc) (hx : x ∉ ws) (hlx : PyData.canLay0 (.str x) = true) (cell : Int) :
    ∀ p ∈ othM cell L, (fresh sc p.1 ∧ lays p.1) ∧ (fresh sc p.2 ∧ lays p.2) ∧ ∃ pre l, (toldOf ks ws x).filter (fun t => decide (tkName t = tkName p.1)) = pre ++ [l] ∧ fresh sc l ∧ lays l := by
  have hW : ∀ y, Tk.word y ∈ L → y.length ≤ 5 := fun y hy => (gw_ok (hQ _ ((hL _).1 hy))).2.1
  intro p hp
  unfold othM at hp
  rcases List.mem_cons.mp hp with rfl | hp
  · have h1 := gw_len1 (dr cell szOther 1)
    have h2 := (gw_ok (gw_word (dr cell szOther 1))).1.1
    refine ⟨⟨⟨fun z => qFix_out hW 10 _ (by omega) ((hL _).2 z), fun z => nomatch z⟩, lay_word (qFix_lay L 10 _ h2)⟩, ⟨⟨fun z => ?_, fun z => nomatch z⟩, by show PyData.canLay0 (encTk (.word "zebra")) = true; decide +kernel⟩, ws.map Tk.word, .word x, ?_, ⟨fun z => hx ((hw x).2 z), fun z => nomatch z⟩, lay_word hlx⟩
    · exact (gw_ok (hQ _ z)).2.2 rfl
    · show (toldOf ks ws x).filter (fun t => decide (tkName t = "word")) = _
      rw [told_words, List.map_append]
      rfl
  · by_cases hf : freeK L = []
    · rw [if_pos hf] at hp
      cases hp
    · rw [if_neg hf, List.mem_singleton] at hp
      subst hp
      have free : ∀ k ∈ freeK L, fresh sc (.key (k : Int)) := fun k hk' => by
        have := (List.mem_filter.mp hk').2
        rw [Bool.not_eq_true', decide_eq_false_iff_not] at this
        exact ⟨fun z => this ((hL _).2 z), fun z => nomatch z⟩
      have hlt := mod_len (dr cell szOther 0) hf
      have hl1 := List.length_pos_iff.mpr hf
      have m1 := getD_mem (d := 0) hlt
      have m0 := getD_mem (d := 0) hl1
      refine ⟨⟨free _ m1, lay_key _⟩, ⟨free _ m0, lay_key _⟩, ?_⟩
      show ∃ pre l, (toldOf ks ws x).filter (fun t => decide (tkName t = "key")) = pre ++ [l] ∧ _
      rw [told_keys]
      have hne : othersOf ks ≠ [] := fun e => by
        obtain ⟨k0, hk0⟩ := List.exists_mem_of_ne_nil _ hf
        have hr := (List.mem_filter.mp hk0).1
        have hn := (free k0 hk0).1
        have : (k0 : Int) ∈ othersOf ks := by
          unfold othersOf
          refine List.mem_map.mpr ⟨k0, List.mem_filter.mpr ⟨hr, ?_⟩, rfl⟩
          rw [Bool.not_eq_true', decide_eq_false_iff_not, hk]
          exact hn
        rw [e] at this
        cases this
      cases ho : othersOf ks with
      | nil => exact absurd ho hne
      | cons o r =>
        refine ⟨ks.map Tk.key, .key o, by simp, ⟨fun z => ?_, fun z => nomatch z⟩, lay_key _⟩
        have hm : o ∈ othersOf ks := by rw [ho]; exact List.mem_cons_self
        obtain ⟨k1, hk1, rfl⟩ := List.mem_map.mp hm
        have := (List.mem_filter.mp hk1).2
        rw [Bool.not_eq_true', decide_eq_false_iff_not, hk] at this
        exact this z
/-! ### results as data -/
mutual
theorem eqv_me : ∀ d : PyData, d.canLay0 = true → PyData.eqv d d = true
  | .none, _ => by simp [PyData.eqv]
  | .bool b, _ => by simp [PyData.eqv]
  | .int i, _ => by simp [PyData.eqv]
  | .str x, _ => by simp [PyData.eqv]
  | .list ds, h => by
    simp only [PyData.eqv]
    exact eqv_all ds (by simpa only [PyData.canLay0] using h)
  | .tuple ds, h => by
    simp only [PyData.eqv]
    exact eqv_all ds (by simpa only [PyData.canLay0] using h)
  | .dict _, h => by simp [PyData.canLay0] at h
theorem eqv_all : ∀ ds : List PyData, PyData.canLayAll0 ds = true → PyData.eqvAll ds ds = true
  | [], _ => by simp [PyData.eqvAll]
  | d :: r, h => by
    simp only [PyData.canLayAll0, Bool.and_eq_true] at h
    simp only [PyData.eqvAll, eqv_me d h.1, eqv_all r h.2, Bool.and_self]
end
theorem shaped_rz {sc : Sc} {Γ : Prm} {D : Nat} {r : Rz} (h : RzOk sc Γ D r) : SeqAt.shaped (encRz r) = true := by
  obtain ⟨h1, h2⟩ := h
  have s1 := shaped_strs (l := r.1) fun x hx => (h1 x hx).1
  have c1 := SeqAt.canLay_of_shaped s1
  have d1 : (dStrs r.1).depth ≤ 1 := by
    have := depthAll_le (n := 0) (ds := r.1.map PyData.str) fun d hd => by
      obtain ⟨x, hx, rfl⟩ := List.mem_map.mp hd
      simp [PyData.depth]
    simp only [PyData.depth]
    omega
  have h3 : (encSt r.2).canLay0 = true ∧ (encSt r.2).depth ≤ 50 := by
    cases r.2 with
    | none => exact ⟨rfl, by simp [encSt, PyData.depth]⟩
    | some q =>
      obtain ⟨S, vs, l⟩ := q
      have s2 := shaped_stk S
      have c2 := SeqAt.canLay_of_shaped s2
      have c3 := SeqAt.canLay_of_shaped (PySem.W.shaped_ints vs)
      have d3 : PyData.depthAll (encStk S) ≤ 2 := depthAll_le fun d hd => by
        obtain ⟨f, _, rfl⟩ := List.mem_map.mp hd
        have := depthAll_le (n := 0) (ds := f.path.map fun (n : Nat) => PyData.int (n : Int)) fun d hd => by
          obtain ⟨n, _, rfl⟩ := List.mem_map.mp hd
          simp [PyData.depth]
        simp only [encFr, encPath, PyData.depth, PyData.depthAll]
        omega
      have d4 : PyData.depthAll (vs.map PyData.int) ≤ 0 := depthAll_le fun d hd => by
        obtain ⟨n, _, rfl⟩ := List.mem_map.mp hd
        simp [PyData.depth]
      refine ⟨?_, ?_⟩
      · simp only [PyData.canLay0] at c2 c3
        simp only [encSt, PyData.canLay0, PyData.canLayAll0, c2, c3, Bool.and_self]
      · simp only [encSt, PyData.depth, PyData.depthAll]
        omega
  unfold SeqAt.shaped
  rw [Bool.and_eq_true]
  refine ⟨?_, decide_eq_true ?_⟩
  · simp only [PyData.canLay0] at c1
    simp only [encRz, PyData.canLay0, PyData.canLayAll0, c1, h3.1, Bool.and_self]
  · simp only [encRz, PyData.depth, PyData.depthAll] at d1 ⊢
    have := h3.2
    omega
end CM

namespace CM
open PySem L2 DL
/-! ### facts of the drawn script -/
section
variable (ns : List Int)
abbrev scN : Sc := genScript ns
abbrev prN : Prm := (genPrm ns QTk).within (pats (scN ns))
theorem okN : ScOk (scN ns) (genPrm ns QTk) 2077 := (gen_ok ns QTk fun _ h => h).1
theorem okW' : ScOk (scN ns) (prN ns) 2077 := sc_within (okN ns)
theorem patsQ : ∀ t ∈ pats (scN ns), QTk t := pats_Q (okN ns)
theorem goodN : ∀ t ∈ (scN ns).talks, goodB t.2 := fun t ht => by
  have h1 := ((okN ns).talks t ht).1
  have h2 := (gen_ok ns QTk fun _ h => h).2 t ht
  have L := lay_gen ns QTk (fun t h => h) (fun t h => lay_tk h)
  have h3 := lay_all (lay_b L (f := false) t.2 h1)
  refine ⟨by simpa only [PyData.canLay0] using h3, ?_⟩
  have h4 : PyData.depthAll (encB false t.2) ≤ 30 := depthAll_le fun d hd => by
    rw [encB_map] at hd
    obtain ⟨s, hs, rfl⟩ := List.mem_map.mp hd
    exact h2 s hs
  simp only [PyData.depth]
  omega
theorem talks4 : (scN ns).talks.length ≤ 4 := by
  have h1 := (talks_perm ns).length_eq
  have h2 := (names_ok ns).2.2.2
  rw [h1]
  unfold talksOf
  simp
  omega
theorem sum_le {α : Type} (f : α → Nat) (m : Nat) : ∀ l : List α, (∀ x ∈ l, f x ≤ m) → (l.map f).sum ≤ l.length * m
  | [], _ => by simp
  | x :: r, h => by
    have h1 := h x List.mem_cons_self
    have h2 := sum_le f m r fun y hy => h y (List.mem_cons_of_mem _ hy)
    simp only [List.map_cons, List.sum_cons, List.length_cons, Nat.succ_mul]
    omega
theorem zN : zsB ((scN ns).talks.map (·.2)) ≤ 1000000 := by
  have h : ∀ b ∈ (scN ns).talks.map (·.2), zB b ≤ 2077 := fun b hb => by
    obtain ⟨t, ht, rfl⟩ := List.mem_map.mp hb
    exact Nat.le_trans (zB_le _ _) ((okN ns).talks t ht).2.2
  have h2 := sum_le zB 2077 _ h
  have h3 := talks4 ns
  rw [List.length_map] at h2
  unfold zsB
  have : (scN ns).talks.length * 2077 ≤ 4 * 2077 := Nat.mul_le_mul_right _ h3
  omega
/-- without the calls' weights each talk is light -/
theorem light : ∀ t ∈ (scN ns).talks, wB (fun _ => 0) t.2 ≤ 67 := fun t ht => by
  obtain ⟨n1, n2, n3, n4⟩ := names_ok ns
  rcases List.mem_append.mp ((talks_perm ns).mem_iff.mp ht) with h | h
  · obtain ⟨k, hk, rfl⟩ := List.mem_map.mp h
    rw [List.mem_range] at hk
    have hnm : ∀ n, n ∈ namesOf ns ∨ n = ("held" : Str) → n ∈ (genScript ns).talks.map (·.1) := fun n hn => by
      have hpn : ((genScript ns).talks.map (·.1)).Perm (namesOf ns ++ [("held" : Str)]) := by
        rw [← talks_names ns]
        exact (talks_perm ns).map _
      exact hpn.mem_iff.mpr (by simpa using hn)
    have r := talk_ok (Γ := ⟨boxesOf ns, (genScript ns).talks.map (·.1), fun _ => 0, QTk⟩) (boxes := boxesOf ns) (calls := (namesOf ns).drop (k + 1)) (most := mostOf ns) (C := 0) rfl
      (fun t ht => hnm t (.inl (List.mem_of_mem_drop ht))) (fun _ _ => Nat.le_refl _) (show (0 : Nat) ≤ 3 by decide) (most_ok ns) (hnm _ (.inr rfl)) (fun _ h => h) (cellsOf ns k)
      (by unfold cellsOf; rw [List.length_map, List.length_range]; exact count_tab k (by omega))
    exact r.2.1
  · rw [List.mem_singleton] at h
    subst h
    show wB (fun _ => 0) [Sm.wait (mostOf ns) []] ≤ 67
    simp [wB, wS, wR]
theorem patsN : (pats (scN ns)).length ≤ 270 := by
  have h2 : ∀ b ∈ (scN ns).talks.map (·.2), (patB b).length ≤ 66 := fun b hb => by
    obtain ⟨t, ht, rfl⟩ := List.mem_map.mp hb
    have := patB_len (fun _ => 0) t.2
    have := light ns t ht
    omega
  have h3 := talks4 ns
  have e : (pats (scN ns)).length = (((scN ns).talks.map (·.2)).map fun b => (patB b).length).sum := by
    unfold pats patsB
    rw [List.length_flatMap]
  have h4 := sum_le (fun b => (patB b).length) 66 _ h2
  rw [List.length_map] at h4
  have : (scN ns).talks.length * 66 ≤ 4 * 66 := Nat.mul_le_mul_right _ h3
  rw [e]
  omega
end
end CM

namespace CM
open PySem L2 DL
/-! ### the script can be frozen -/
theorem fr_ex : ∀ e : Ex, frOk (encEx e)
  | .num n => ⟨by simp, trivial, trivial, trivial⟩
  | .box x => ⟨by simp, trivial, trivial, trivial⟩
  | .plus a b => ⟨by simp, trivial, fr_ex a, fr_ex b, trivial⟩
  | .less a b => ⟨by simp, trivial, fr_ex a, fr_ex b, trivial⟩
theorem fr_co : ∀ c : Co, frOk (encCo c)
  | .same a b => ⟨by simp, trivial, fr_ex a, fr_ex b, trivial⟩
  | .under a b => ⟨by simp, trivial, fr_ex a, fr_ex b, trivial⟩
  | .no c => ⟨by simp, trivial, fr_co c, trivial⟩
  | .both c d => ⟨by simp, trivial, fr_co c, fr_co d, trivial⟩
theorem fr_tk (t : Tk) : frOk (encTk t) := by cases t <;> exact ⟨by simp, by simp [frAll, frOk]⟩
theorem wB_len (wt : Str → Nat) : ∀ b : List Sm, b.length ≤ wB wt b
  | [] => Nat.zero_le _
  | s :: r => by
    have := wB_len wt r
    have := wS_two (wt := wt) s
    simp only [wB, List.length_cons]
    omega
mutual
theorem fr_s (wt : Str → Nat) : ∀ s : Sm, wS wt s ≤ 16000000 → frOk (encS false s)
  | .say w, _ => ⟨by simp, trivial, trivial, trivial⟩
  | .hand l w, _ => ⟨by simp, trivial, trivial, trivial, trivial⟩
  | .put b e, _ => ⟨by simp, trivial, trivial, fr_ex e, trivial⟩
  | .test c a b, h => by
    simp only [wS] at h
    have h1 := wB_len wt a
    have h2 := wB_len wt b
    refine ⟨by simp, trivial, fr_co c, ⟨by rw [encB_map, List.length_map]; omega, fr_b wt a (by omega)⟩, ⟨by rw [encB_map, List.length_map]; omega, fr_b wt b (by omega)⟩, trivial⟩
  | .wait l bs, h => by
    simp only [wS] at h
    have h1 := wR_len (wt := wt) bs
    exact ⟨by simp, trivial, trivial, ⟨by rw [encBr_map, List.length_map]; omega, fr_r wt bs (by omega)⟩, trivial⟩
  | .loop b, h => by
    simp only [wS] at h
    have h1 := wB_len wt b
    exact ⟨by simp, trivial, ⟨by rw [encB_map, List.length_map]; omega, fr_b wt b (by omega)⟩, trivial⟩
  | .again, _ => ⟨by simp, trivial, trivial⟩
  | .leave, _ => ⟨by simp, trivial, trivial⟩
  | .call t, _ => ⟨by simp, trivial, trivial, trivial⟩
  | .back, _ => ⟨by simp, trivial, trivial⟩
  | .stop, _ => ⟨by simp, trivial, trivial⟩
theorem fr_b (wt : Str → Nat) : ∀ b : List Sm, wB wt b ≤ 16000000 → frAll (encB false b)
  | [], _ => trivial
  | s :: r, h => by
    simp only [wB] at h
    exact ⟨fr_s wt s (by omega), fr_b wt r (by omega)⟩
theorem fr_r (wt : Str → Nat) : ∀ b : List (Tk × List Sm), wR wt b ≤ 16000000 → frAll (encBr false b)
  | [], _ => trivial
  | (p, b) :: r, h => by
    simp only [wR] at h
    have h1 := wB_len wt b
    exact ⟨⟨by simp, fr_tk p, ⟨by rw [encB_map, List.length_map]; omega, fr_b wt b (by omega)⟩, trivial⟩, fr_r wt r (by omega)⟩
end
theorem frN (ns : List Int) : frOk (encSc false (scN ns)) := by
  have h4 := talks4 ns
  have hb := (okN ns).fewb
  refine ⟨by simp, ⟨by rw [List.length_map]; omega, frAll_of fun d hd => ?_⟩, ⟨by rw [List.length_map]; omega, frAll_of fun d hd => ?_⟩, trivial⟩
  · obtain ⟨x, _, rfl⟩ := List.mem_map.mp hd
    exact ⟨by simp, trivial, trivial, trivial⟩
  · obtain ⟨t, ht, rfl⟩ := List.mem_map.mp hd
    have h1 := ((okN ns).talks t ht).2.2
    have h2 := wB_len (genPrm ns QTk).wt t.2
    exact ⟨by simp, trivial, ⟨by rw [encB_map, List.length_map]; omega, fr_b (genPrm ns QTk).wt t.2 (by omega)⟩, trivial⟩
theorem dpN (ns : List Int) : (encSc false (scN ns)).depth ≤ 34 := by
  have h1 : PyData.depthAll ((scN ns).boxes.map encBox) ≤ 1 := depthAll_le fun d hd => by
    obtain ⟨x, _, rfl⟩ := List.mem_map.mp hd
    simp [encBox, PyData.depth, PyData.depthAll]
  have h2 : PyData.depthAll ((scN ns).talks.map (encTalk false)) ≤ 32 := depthAll_le fun d hd => by
    obtain ⟨t, ht, rfl⟩ := List.mem_map.mp hd
    have h3 := depthB (f := false) (n := 30) (b := t.2) fun s hs => (gen_ok ns QTk fun _ h => h).2 t ht s hs
    simp only [encTalk, PyData.depth, PyData.depthAll]
    omega
  simp only [encSc, sq, PyData.depth, PyData.depthAll, Bool.false_eq_true, if_false]
  omega
/-! ### rules of the law's own -/
section
variable {P : Program} {w : World} {K : PySem.W.Frag} {mg : Str → Option Value} {base : Heap} {f C : Addr} {fd : FuncData} {sc : Sc} {Γ : Prm} {D : Nat}
structure MakeOk (P : Program) (w : World) (K : PySem.W.Frag) (mg : Str → Option Value) (base : Heap) (C : Addr) (sc : Sc) : Prop where
  ex : ∃ (f : Addr) (fd : FuncData), FnOk P w K mg base CX0 36 f fd ["self", "script"] (SpInit C sc) ∧ Mk K C f ∧ mg "Teller" = some (.ref C) ∧ Binds K fd ["self", "script"] []
section
variable {ι : Type} {X : ι → Cx} {δ : DEnv} {k : Nat} [M : Fm X P w K mg base k] {e : Expr} {p p2 pos pos2 apos : Pos} {x : Str} {J : DK} {d : PyData}
include M
theorem ds_make (Mk : MakeOk P w K mg base C sc) (i : Nat) (he : ED X δ e (encSc false sc)) (kx : J.nx (δ.set i (some (.ph (PSelf C sc))))) (hk : 37 ≤ k := by decide) (hi : ∀ j, (X j).N[i]? = some x := by intro _; rfl) (hx : ∀ j, Loc (X j).env.scope x := by intro _; first | exact Or.inl rfl | exact Or.inr rfl) (hf : ∀ j, (X j).fn x = true ∨ (X j).env.scope.names.lookup x = some .local := by intro _; first | exact .inl rfl | exact .inr rfl)
    (hl : i < δ.length := by exact Nat.le_of_ble_eq_true rfl) (hg : ∀ j, Gl (X j) "Teller" := by intro _; rfl) (hst : ∀ j, starEach [e] (X j).env = [(false, eval e (X j).env)] := by intro _; rfl) (hs : ∀ j, swapsWithSole [.Name x p] (.Call (.Name "Teller" p2) [e] [] pos2) pos.line (X j).env = pure false := by intro _; rfl) (hw : ∀ j, swappedStores [.Name x p] (.Call (.Name "Teller" p2) [e] [] pos2) (X j).env = pure none := by intro _; rfl)
    (h1 : ∀ j, (assignEach [.Name x p] (X j).env).map (·.2) = [assign (.Name x p) (X j).env] := by intro _; rfl) : DS X δ (.Assign [.Name x p] (.Call (.Name "Teller" p2) [e] [] pos2) pos) J := fun G0 H0 σ G H Dn r m => by
  obtain ⟨f, fd, F, g1, g2, g3⟩ := Mk.ex
  refine ⟨tAsg (tMake C (SpInit C sc) [] E0 (tCons (uE X e) tNil)) (gName i), fun j => ps_asg (pe_make (by rw [M.frag j]; exact g1) (Fm.fn M F j) ((M.room j).mono hk) (hg j) (by rw [M.glob j]; exact g2) (by rw [M.frag j]; exact g3) .nil pass0 (pa_cons (uE_ok j) pa_nil (hst j)) (by decide) (hst j) rfl) (pg_name (M.nd j) (hi j) (hx j) (hf j)) (hs j) (hw j) (h1 j), ?_⟩
  refine he G0 H0 σ G H r _ fun v G1 H1 f1 hv => fun xa dx hx0 hd0 hne => ?_
  have f2 := Fx.lay f1.s hd0 (.own xa)
  have hx1 : (upd H1 dx (.own xa)) xa = none := by rw [upd_ne (Ne.symm hne)]; exact hx0
  have f3 := f2.trans (Fx.lay f2.s hx1 (.ins C dx []))
  refine ⟨G1, H1, G1, xa, dx, v, rfl, f3, upd_same, hx0, f1.s.free hx0, hv, fun G' H' f4 hp => ⟨rfl, ?_⟩⟩
  have r1 := r.go (f1.trans f4)
  exact m.nx _ _ G' H' (r1.set hl (s := .ph (PSelf C sc)) (v := .ref xa) (fun G2 s2 => hp.mono s2) (fun _ => Sl.noConfusion)) kx
theorem ed_dm0 {kk : Nat} {m : Str} {ps : List Str} {R : List Sl → Rs → Prop} (Dd : Dm P w K mg base C m kk ps R) (T : ClsT K C) (i : Nat) (hr : R [.ph (PSelf C sc)] (.dat d)) (hno : ∀ vb vt nd, (tFs vb vt nd).lookup m = none := by intro _ _ _; rfl) (hk : kk ≤ k := by decide)
    (hl : δ[i]? = some (some (.ph (PSelf C sc))) := by rfl) (hN : ∀ j, (X j).N[i]? = some x := by intro _; rfl) (hv : ∀ j, Vis (X j).env.scope x := by intro _; first | exact Or.inl rfl | exact Or.inr (Or.inl rfl) | exact Or.inr (Or.inr rfl)) {pl : ι → Sem Bool}
    (hd : (x == ("__debug__" : Str)) = false := by decide) (hcd : (x == ("__classdict__" : Str)) = false := by decide)
    (ht : ∀ j, eval (.Call (.Attribute (.Name x p) m apos) [] [] pos) (X j).env = (do
      let ov ← eval (.Name x p) (X j).env
      standAt apos.atName
      let (f, first) ← holding [ov] (getMethod ov m (pl j))
      callWith pos f first (backTo pos (starEach [] (X j).env)) (backToKw pos (keywordEach [] (X j).env))) := by intro _; rfl) : ED X δ (.Call (.Attribute (.Name x p) m apos) [] [] pos) d := fun G0 H0 σ G H rp Q q => by
  obtain ⟨f, fd, F, g1, g2⟩ := Dd.ex
  refine ⟨tMeth C m (SpR R) [] E0 (uE X (.Name x p)) tNil, fun j => pe_meth0 (pl := pl j) (uE_ok j) (by rw [M.frag j]; exact T.cls) (by rw [M.frag j]; exact g1) (Fm.fn M F j) ((M.room j).mono hk) (by rw [M.frag j]; exact g2) .nil pass0 (ht j), ?_⟩
  refine ev_ph (M := M) i hN hv hl hd hcd rp fun v h => ?_
  obtain ⟨a, dx, vb, vt, nd, kvs, rfl, q2, q3⟩ := h G (Same.refl G)
  refine ⟨a, dx, tFs vb vt nd, rfl, rp.fx.s _ _ q2, hno _ _ _, ?_⟩
  exact ⟨G, [.ph (PSelf C sc)], .dat d, rp.fx.s, .cons (fun G' s => h G' s) .nil, hr, fun v G2 H2 f2 hq => q v G2 H2 f2 hq⟩
end
end
end CM

namespace CM
open PySem L2 DL
def rLaw (K : PySem.W.Frag) : List Sl → Rs → Prop := fun as r => ∃ ns : List Int, as = [.ph (PScr K ns)] ∧ r = .dat (.bool true)
theorem lay_event {cell : Int} {L : List Tk} (h : ∀ t ∈ L, lays t) : lays (evM cell L) := by
  unfold evM
  split
  · rename_i h1
    exact h _ (List.mem_filter.mp (getD_mem (mod_len _ h1.2))).1
  · split
    · show PyData.canLay0 (encTk .quiet) = true
      decide +kernel
    · split
      · exact lay_key _
      · exact lay_word (gw_ok (gw_word _)).1.1
abbrev lE (ns : List Int) (K : PySem.W.Frag) (C : Addr) (L : List Tk) (td : List Tk) (st : Option (List Fr × List Int × Int)) (u5 u7 u8 u9 u10 u11 : Option Sl) : DEnv :=
  [some (.ph (PScr K ns)), none, some (.dat (tksD L)), some (.dat (tksD td)), some (.ph (PSelf C (scN ns))), u5, some (.dat (encSt st)), u7, u8, u9, u10, u11, none]
section
variable {P : Program} {w : World} {K : PySem.W.Frag} {mg : Str → Option Value} {base : Heap} {f C : Addr} {fd : FuncData}
structure LawHyps (P : Program) (w : World) (K : PySem.W.Frag) (mg : Str → Option Value) (base : Heap) (C : Addr) : Prop where
  free : Free mg
  cls : ClsT K C
  script : Df P w K mg base "_law_script" 6 ["script"] (rScript K)
  pats : Dfn P w K mg base "_law_patterns" 1 ["script"] rPats
  events : Dfn P w K mg base "events_of" 3 ["script"] rEvents
  event : Df P w K mg base "_law_event" 3 ["cell", "patterns"] rEvent
  others : Df P w K mg base "_law_others" 3 ["cell", "patterns"] rOthers
  make : ∀ ns : List Int, MakeOk P w K mg base C (scN ns)
  begin : ∀ ns : List Int, Dm P w K mg base C "begin" 10 ["self"] (rBegin C (scN ns) (prN ns) 2077)
  step : ∀ ns : List Int, Dm P w K mg base C "step" 10 ["self", "standing", "event"] (rStep C (scN ns) (prN ns) 2077)
theorem fn_law (Y : LawHyps P w K mg base C) (F : Fun K "law" "law" s_law f fd) : FnOk P w K mg base CX0 38 f fd ["script"] (SpR (rLaw K)) := by
  refine fn_data F sc_law (fun as r ⟨_, e, _⟩ => by rw [e]; rfl) fun cdv A outer s H E M as r ⟨ns, e1, e2⟩ => ?_
  subst e1 e2
  have B := Y.free
  have T := Y.cls
  have ok := okW' ns
  have hQ := patsQ ns
  have hlayP : ∀ t ∈ pats (scN ns), lays t := fun t ht => lay_tk (hQ t ht)
  have hlayW : ∀ x, Tk.word x ∈ pats (scN ns) → PyData.canLay0 (.str x) = true := fun x hx => (gw_ok (hQ _ hx)).1.1
  have hN := patsN ns
  have h4 := talks4 ns
  refine db_cons (ds_set 1 (ed_call Y.script (ea_ph 0 ea_nil) ⟨ns, rfl, rfl⟩) ?_)
  refine db_cons (ds_setN 2 (en_call Y.pats (ea_cons (ed_var 1) ea_nil) ⟨scN ns, goodN ns, zN ns, by omega, by omega, rfl, rfl⟩) fun ds ⟨L, eL, hL, hLl⟩ => ?_)
  subst eL
  refine db_freeze 2 ?_
  refine db_cons (ds_setN 3 (en_call Y.events (ea_cons (ed_var 1) ea_nil) ⟨scN ns, goodN ns, zN ns, hN, by omega, hlayW, rfl, rfl⟩) fun ds ⟨ks, ws, x, eT, hks, hws, hx, hlx, hkl, hwl⟩ => ?_)
  subst eT
  refine db_freeze 3 ?_
  obtain ⟨td, htd⟩ : ∃ td, td = toldOf ks ws x := ⟨_, rfl⟩
  rw [← htd]
  have htl : td.length ≤ 1000 := by
    rw [htd]
    unfold toldOf othersOf
    simp only [List.length_cons, List.length_append, List.length_map, List.length_take, List.length_nil]
    omega
  have hlayL : ∀ t ∈ L, lays t := fun t ht => hlayP t ((hL t).1 ht)
  have okLL : okL L := ⟨hlayL, by omega⟩
  refine db_cons (ds_make (Y.make ns) 4 (ed_var 1) ?_)
  obtain ⟨r0, hr0, hz0, _⟩ := runs ok (ws_start ok) (vs := zeros (scN ns)) (by unfold zeros; rw [List.length_map])
  refine db_cons (ds_asg (ed_dm0 (sc := scN ns) (Y.begin ns) T 4 ⟨r0, hr0, rfl, rfl⟩) (gb_tup (gbs_cons 5 (gbs_cons 6 gbs_nil))) ?_)
  refine db_sub (lE ns K C L td r0.2 none none none none none none) ?_
  have hst0 : StdOk (scN ns) (prN ns) 2077 r0.2 := by
    have := hz0.2
    cases h : r0.2 with
    | none => trivial
    | some q => rw [h] at this; exact this
  have stdOf : ∀ {r : Rz}, RzOk (scN ns) (prN ns) 2077 r → StdOk (scN ns) (prN ns) 2077 r.2 := fun {r} hr => by
    have := hr.2
    cases h : r.2 with
    | none => trivial
    | some q => rw [h] at this; exact this
  -- the first cells
  obtain ⟨m1, _, em1, _⟩ := cutV_map ns (some 19) (some 40)
  refine db_for (ds := m1.map .int) (is_list ((el_sliceScr (ns := ns) 0 rfl (eo_some ed_int) (eo_some ed_int)).dd.is (congrArg PyData.list em1))) (fun i δ => ∃ st u5 u7, StdOk (scN ns) (prN ns) 2077 st ∧ δ = lE ns K C L td st u5 u7 none none none none) ⟨r0.2, none, none, hst0, rfl⟩ (fun i d δ hd ⟨st, u5, u7, hst, e⟩ => ?_) (fun δ ⟨st, u5, u7, hst, e⟩ => ?_)
  · subst e
    obtain ⟨hi, rfl⟩ := ints_at hd
    refine ⟨_, _, gb_name 7, ?_⟩
    have hle : lays (evM m1[i] L) := lay_event hlayL
    obtain ⟨r, hr, hz, _⟩ := step_total ok hst (evM m1[i] L)
    refine db_one (ds_asg (ed_dm (sc := scN ns) (Y.step ns) T 4 (ea_cons (ed_var 6) (ea_cons (ed_call Y.event (ea_cons (ed_var 7) (ea_cons (ed_var 2) ea_nil)) ⟨m1[i], L, okLL, rfl, rfl⟩) ea_nil)) ⟨st, evM m1[i] L, r, hst, hle, hr, rfl, rfl⟩) (gb_tup (gbs_cons 5 (gbs_cons 6 gbs_nil))) ⟨r.2, _, _, stdOf hz, rfl⟩)
  subst e
  -- the others
  obtain ⟨m2, _, em2, em2'⟩ := cutV_map ns (some 40) (some 63)
  have hm2 : m2.length ≤ 63 := by
    rw [em2', List.length_take]
    have h1 : HT.sIx ns.length ns.length (some 63) = min 63 ns.length := HT.sIx_nat _ _ 63
    rw [h1]
    omega
  refine db_sub (lE ns K C L td st none none none none none none) ?_
  refine db_for (ds := (m2 ++ [(ns.length : Int)]).map .int) (is_list ((el_cat ((el_sliceScr (ns := ns) 0 rfl (eo_some ed_int) (eo_some ed_int)).q.is em2) (el_lst (ds := [.int (ns.length : Int)]) (ea_cons (ed_lenS 0 rfl B.len) ea_nil)).q (by rw [List.length_map]; show _ + 1 ≤ _; omega)).dd.is (by rw [List.map_append]; rfl)))
    (fun i δ => ∃ st u5 u7 u8 u9 u10 u11, StdOk (scN ns) (prN ns) 2077 st ∧ δ = lE ns K C L td st u5 u7 u8 u9 u10 u11) ⟨st, none, none, none, none, none, none, hst, rfl⟩ (fun i d δ hd ⟨st, u5, u7, u8, u9, u10, u11, hst, e⟩ => ?_) (fun δ ⟨st, u5, u7, u8, u9, u10, u11, hst, e⟩ => ?_)
  rotate_left
  · exact db_one (ds_ret ed_bl rfl)
  subst e
  obtain ⟨hi, rfl⟩ := ints_at hd
  generalize (m2 ++ [(ns.length : Int)])[i] = cell
  refine ⟨_, _, gb_name 7, ?_⟩
  have hpair := drawn_pair hQ hL hks hws hx hlx cell
  have hW : ∀ y, Tk.word y ∈ L → y.length ≤ 5 := fun y hy => (gw_ok (hQ _ ((hL _).1 hy))).2.1
  have hoth : (othM cell L).length ≤ 2 ∧ 0 < (othM cell L).length := by
    unfold othM
    split <;> simp
  refine db_sub (lE ns K C L td st none (some (dInt cell)) none none none none) ?_
  refine db_for (ds := (othM cell L).map encPair) (is_list (el_call Y.others (ea_cons (ed_var 7) (ea_cons (ed_var 2) ea_nil)) ⟨cell, L, okLL, hW, rfl, rfl⟩).dd) (fun j δ => ∃ u8 u9 u10 u11, (0 < j → ∃ r, u10 = some (.dat (encRz r)) ∧ StdOk (scN ns) (prN ns) 2077 r.2) ∧ δ = lE ns K C L td st none (some (dInt cell)) u8 u9 u10 u11) ⟨none, none, none, none, fun h => by omega, rfl⟩ (fun j d δ hd' ⟨u8, u9, u10, u11, _, e⟩ => ?_) (fun δ ⟨u8, u9, u10, u11, hu, e⟩ => ?_)
  rotate_left
  · rw [List.length_map] at hu
    obtain ⟨r, hu10, hstr⟩ := hu hoth.2
    subst hu10
    subst e
    exact db_one (ds_set 6 (ed_ixT (ed_var 10) ed_int (d := encSt r.2)) ⟨r.2, _, _, _, _, _, _, hstr, rfl⟩)
  subst e
  have hj : j < (othM cell L).length := by simpa using len1 hd'
  rw [List.getElem?_map, List.getElem?_eq_getElem hj] at hd'
  have e3 := Option.some.inj hd'
  subst e3
  obtain ⟨⟨f1, l1⟩, ⟨f2, l2⟩, pre, lst, hlast, f3, l3⟩ := hpair _ (List.getElem_mem hj)
  generalize (othM cell L)[j] = pr at f1 l1 f2 l2 hlast
  obtain ⟨one, other⟩ := pr
  simp only at f1 l1 f2 l2 hlast
  refine ⟨_, _, gb_unl (ds := [encTk one, encTk other]) (gbs_cons 8 (gbs_cons 9 gbs_nil)), ?_⟩
  obtain ⟨r, hr, hz, _⟩ := step_total ok hst one
  have hr2 : stepM (scN ns) 2077 st other = some r := (step_same ok hst f2 f1).trans hr
  have hr3 : stepM (scN ns) 2077 st lst = some r := (step_same ok hst f3 f1).trans hr
  refine db_cons (ds_set 10 (ed_dm (sc := scN ns) (Y.step ns) T 4 (ea_cons (ed_var 6) (ea_cons (ed_var 8) ea_nil)) ⟨st, one, r, hst, l1, hr, rfl, rfl⟩) ?_)
  have hname : ∀ (t : Tk), atI (encTk t |> fun | .tuple l => l | _ => []) 0 = some (.str (tkName t)) := fun t => by cases t <;> rfl
  have htup : ∀ t : Tk, encTk t = .tuple (encTk t |> fun | .tuple l => l | _ => []) := fun t => by cases t <;> rfl
  have eat : atI ((td.filter fun t => decide (tkName t = tkName one)).map encTk) (-1) = some (encTk lst) := by
    rw [htd, hlast, List.map_append]
    exact atI_last _ _
  refine db_cons (ds_set 11 (ed_ixL (el_lc [("event", 12)] (xs := td) (enc := encTk) (c := fun t => decide (tkName t = tkName one)) (f := encTk) (is_list (ed_var 3)) (by omega) (fun t ht => ⟨_, gb_name 12, ets_one (et_eqS (ed_ixT ((ed_var 12).is (htup t)) ed_int (hname t)) (ed_ixT ((ed_var 8).is (htup one)) ed_int (hname one))), fun _ => ed_var 12⟩)).q (ed_neg ed_int) eat) ?_)
  have hsr := shaped_rz hz
  have heq := eqv_me (encRz r) (SeqAt.canLay_of_shaped hsr)
  have hnl : decide (lst ∈ L) = false := decide_eq_false fun z => f3.1 ((hL _).1 z)
  refine db_one (ds_if (b := false) (EW.t (ew_or (k := false) (l := false) ((et_in (ed_var 11) (ed_var 2).q (shaped_tk l3) (shaped_L hlayL)).is (by rw [any_mem, hnl])) (fun _ => ew_or (k := false) (l := false) ((et_neD (ed_dm (sc := scN ns) (Y.step ns) T 4 (ea_cons (ed_var 6) (ea_cons (ed_var 9) ea_nil)) ⟨st, other, r, hst, l2, hr2, rfl, rfl⟩) (ed_var 10) hsr hsr).is (by rw [heq]; rfl))
    (fun _ => ew_or1 ((et_neD (ed_dm (sc := scN ns) (Y.step ns) T 4 (ea_cons (ed_var 6) (ea_cons (ed_var 11) ea_nil)) ⟨st, lst, r, hst, l3, hr3, rfl, rfl⟩) (ed_var 10) hsr hsr).is (by rw [heq]; rfl)))))) (fun h => by cases h) (fun _ => db_nil ⟨_, _, _, _, fun _ => ⟨r, rfl, stdOf hz⟩, rfl⟩))
end
end CM

namespace CM
open PySem L2 DL
/-! the head: facts by names, and the join -/
theorem fun_of {K : PySem.W.Frag} {x qual : Str} {st : Stmt} {f : Addr} {fd : FuncData} (F : FunD K x qual (defArgs st) (defBody st) (defScope st) [] [] f fd) : Fun K x qual st f fd := by
  obtain ⟨oc, od, dV, kV, doc, pm, an, cdv, ct, osl, e, lk, hcd, hd, _⟩ := F.ex
  have hn : dV = .none := by
    rcases hd with ⟨_, h⟩ | ⟨h, _⟩
    · exact h
    · exact absurd rfl h
  subst hn
  exact ⟨⟨oc, od, kV, doc, pm, an, cdv, ct, osl, e, lk, hcd⟩, F.kp⟩
def hdG (x : Str) (st : Stmt) : He.DefD := ⟨(x, none), x, x, defArgs st, defBody st, defScope st, [], []⟩
def hdM (m q : Str) (st : Stmt) : He.DefD := ⟨("Teller", some m), m, q, defArgs st, defBody st, defScope st, [], []⟩
def hfn : List He.DefD := [hdG "_law_cell" s_law_cell, hdG "_law_stir" s_law_stir, hdG "_law_drawn" s_law_drawn, hdG "_law_word" s_law_word, hdG "_law_expression" s_law_expression, hdG "_law_condition" s_law_condition, hdG "_law_simple" s_law_simple, hdG "_law_test" s_law_test, hdG "_law_wait" s_law_wait, hdG "_law_loop" s_law_loop, hdG "_law_entry" s_law_entry, hdG "_law_talk" s_law_talk, hdG "_law_script" s_law_script, hdG "_law_patterns" s_law_patterns, hdG "_law_event" s_law_event, hdG "_law_others" s_law_others, hdG "law" s_law, hdG "hand_text" s_hand_text, hdG "worth" s_worth, hdG "holds" s_holds, hdG "parts_of" s_parts_of, hdG "patterns_of" s_patterns_of, hdG "word_by" s_word_by, hdG "events_of" s_events_of, hdG "frozen" s_frozen, hdG "part_of" s_part_of, hdG "branch_for" s_branch_for, hdG "branch_for_none" s_branch_for_none, hdG "cut_to" s_cut_to, hdM "__init__" "Teller.__init__" s_Tinit, hdM "body_at" "Teller.body_at" s_Tbody_at, hdM "behind" "Teller.behind" s_Tbehind, hdM "put_in" "Teller.put_in" s_Tput_in, hdM "go" "Teller.go" s_Tgo, hdM "begin" "Teller.begin" s_Tbegin, hdM "step" "Teller.step" s_Tstep]
def hfa : List He.Fa := [.glo "_law_cell", .glo "_law_stir", .glo "_law_drawn", .glo "_law_word", .glo "_law_expression", .glo "_law_condition", .glo "_law_simple", .glo "_law_test", .glo "_law_wait", .glo "_law_loop", .glo "_law_entry", .glo "_law_talk", .glo "_law_script", .glo "_law_patterns", .glo "_law_event", .glo "_law_others", .glo "law", .glo "hand_text", .glo "worth", .glo "holds", .glo "parts_of", .glo "patterns_of", .glo "word_by", .glo "events_of", .glo "frozen", .glo "part_of", .glo "branch_for", .glo "branch_for_none", .glo "cut_to", .free "len", .free "range", .free "min", .free "max", .free "enumerate", .free "sum", .free "list", .free "tuple", .free "isinstance", .free "int", .free "str", .free "divmod", .free "set", .free "sorted", .glo "Teller", .cls "Teller", .noat "Teller" "boxes", .noat "Teller" "talks", .noat "Teller" "numbers", .mkr "Teller", .meth "Teller" "body_at", .meth "Teller" "behind", .meth "Teller" "put_in", .meth "Teller" "go", .meth "Teller" "begin", .meth "Teller" "step", .str "LETTERS" lettersS]
section
variable {P : Program} {w : World} {K : PySem.W.Frag} {h : Heap} {mg : Str → Option Value} {base : Heap}
theorem free_of (X : K.In h) (G : h.Ns mainGlobals mg) (c : He.SaysD hfa hfn K) : Free mg :=
  ⟨He.free_ok X G (c.fact 29 (f := .free "len") rfl), He.free_ok X G (c.fact 30 (f := .free "range") rfl), He.free_ok X G (c.fact 31 (f := .free "min") rfl), He.free_ok X G (c.fact 32 (f := .free "max") rfl), He.free_ok X G (c.fact 33 (f := .free "enumerate") rfl), He.free_ok X G (c.fact 34 (f := .free "sum") rfl), He.free_ok X G (c.fact 35 (f := .free "list") rfl), He.free_ok X G (c.fact 36 (f := .free "tuple") rfl), He.free_ok X G (c.fact 37 (f := .free "isinstance") rfl), He.free_ok X G (c.fact 38 (f := .free "int") rfl), He.free_ok X G (c.fact 39 (f := .free "str") rfl), He.free_ok X G (c.fact 40 (f := .free "divmod") rfl), He.free_ok X G (c.fact 41 (f := .free "set") rfl), He.free_ok X G (c.fact 42 (f := .free "sorted") rfl)⟩
theorem cls_of (c : He.SaysD hfa hfn K) : ClsT K (He.ga K "Teller") :=
  ⟨He.cls_ok (c.fact 44 (f := .cls "Teller") rfl), He.noat_ok (c.fact 45 (f := .noat "Teller" "boxes") rfl), He.noat_ok (c.fact 46 (f := .noat "Teller" "talks") rfl), He.noat_ok (c.fact 47 (f := .noat "Teller" "numbers") rfl)⟩
theorem g_law_cell (X : K.In h) (G : h.Ns mainGlobals mg) (c : He.SaysD hfa hfn K) : ∃ fd, Fun K "_law_cell" "_law_cell" s_law_cell (He.ga K "_law_cell") fd ∧ mg "_law_cell" = some (.ref (He.ga K "_law_cell")) ∧ Binds K fd ["script", "k"] [] := by
  obtain ⟨fd, F⟩ := c.def_ 0 (d := hdG "_law_cell" s_law_cell) rfl
  have F' := fun_of (st := s_law_cell) F
  exact ⟨fd, F', He.glo_ok X G (c.fact 0 (f := .glo "_law_cell") rfl), F'.binds fun _ _ _ _ _ _ us hl => match us, hl with | [_, _], _ => rfl⟩
theorem g_law_stir (X : K.In h) (G : h.Ns mainGlobals mg) (c : He.SaysD hfa hfn K) : ∃ fd, Fun K "_law_stir" "_law_stir" s_law_stir (He.ga K "_law_stir") fd ∧ mg "_law_stir" = some (.ref (He.ga K "_law_stir")) ∧ Binds K fd ["cell", "k"] [] := by
  obtain ⟨fd, F⟩ := c.def_ 1 (d := hdG "_law_stir" s_law_stir) rfl
  have F' := fun_of (st := s_law_stir) F
  exact ⟨fd, F', He.glo_ok X G (c.fact 1 (f := .glo "_law_stir") rfl), F'.binds fun _ _ _ _ _ _ us hl => match us, hl with | [_, _], _ => rfl⟩
theorem g_law_drawn (X : K.In h) (G : h.Ns mainGlobals mg) (c : He.SaysD hfa hfn K) : ∃ fd, Fun K "_law_drawn" "_law_drawn" s_law_drawn (He.ga K "_law_drawn") fd ∧ mg "_law_drawn" = some (.ref (He.ga K "_law_drawn")) ∧ Binds K fd ["cell", "sizes"] [] := by
  obtain ⟨fd, F⟩ := c.def_ 2 (d := hdG "_law_drawn" s_law_drawn) rfl
  have F' := fun_of (st := s_law_drawn) F
  exact ⟨fd, F', He.glo_ok X G (c.fact 2 (f := .glo "_law_drawn") rfl), F'.binds fun _ _ _ _ _ _ us hl => match us, hl with | [_, _], _ => rfl⟩
theorem g_law_word (X : K.In h) (G : h.Ns mainGlobals mg) (c : He.SaysD hfa hfn K) : ∃ fd, Fun K "_law_word" "_law_word" s_law_word (He.ga K "_law_word") fd ∧ mg "_law_word" = some (.ref (He.ga K "_law_word")) ∧ Binds K fd ["number"] [] := by
  obtain ⟨fd, F⟩ := c.def_ 3 (d := hdG "_law_word" s_law_word) rfl
  have F' := fun_of (st := s_law_word) F
  exact ⟨fd, F', He.glo_ok X G (c.fact 3 (f := .glo "_law_word") rfl), F'.binds fun _ _ _ _ _ _ us hl => match us, hl with | [_], _ => rfl⟩
theorem g_law_expression (X : K.In h) (G : h.Ns mainGlobals mg) (c : He.SaysD hfa hfn K) : ∃ fd, Fun K "_law_expression" "_law_expression" s_law_expression (He.ga K "_law_expression") fd ∧ mg "_law_expression" = some (.ref (He.ga K "_law_expression")) ∧ Binds K fd ["d", "boxes"] [] := by
  obtain ⟨fd, F⟩ := c.def_ 4 (d := hdG "_law_expression" s_law_expression) rfl
  have F' := fun_of (st := s_law_expression) F
  exact ⟨fd, F', He.glo_ok X G (c.fact 4 (f := .glo "_law_expression") rfl), F'.binds fun _ _ _ _ _ _ us hl => match us, hl with | [_, _], _ => rfl⟩
theorem g_law_condition (X : K.In h) (G : h.Ns mainGlobals mg) (c : He.SaysD hfa hfn K) : ∃ fd, Fun K "_law_condition" "_law_condition" s_law_condition (He.ga K "_law_condition") fd ∧ mg "_law_condition" = some (.ref (He.ga K "_law_condition")) ∧ Binds K fd ["d", "boxes"] [] := by
  obtain ⟨fd, F⟩ := c.def_ 5 (d := hdG "_law_condition" s_law_condition) rfl
  have F' := fun_of (st := s_law_condition) F
  exact ⟨fd, F', He.glo_ok X G (c.fact 5 (f := .glo "_law_condition") rfl), F'.binds fun _ _ _ _ _ _ us hl => match us, hl with | [_, _], _ => rfl⟩
theorem g_law_simple (X : K.In h) (G : h.Ns mainGlobals mg) (c : He.SaysD hfa hfn K) : ∃ fd, Fun K "_law_simple" "_law_simple" s_law_simple (He.ga K "_law_simple") fd ∧ mg "_law_simple" = some (.ref (He.ga K "_law_simple")) ∧ Binds K fd ["cell", "boxes", "calls", "most"] [] := by
  obtain ⟨fd, F⟩ := c.def_ 6 (d := hdG "_law_simple" s_law_simple) rfl
  have F' := fun_of (st := s_law_simple) F
  exact ⟨fd, F', He.glo_ok X G (c.fact 6 (f := .glo "_law_simple") rfl), F'.binds fun _ _ _ _ _ _ us hl => match us, hl with | [_, _, _, _], _ => rfl⟩
theorem g_law_test (X : K.In h) (G : h.Ns mainGlobals mg) (c : He.SaysD hfa hfn K) : ∃ fd, Fun K "_law_test" "_law_test" s_law_test (He.ga K "_law_test") fd ∧ mg "_law_test" = some (.ref (He.ga K "_law_test")) ∧ Binds K fd ["some", "cell", "boxes"] [] := by
  obtain ⟨fd, F⟩ := c.def_ 7 (d := hdG "_law_test" s_law_test) rfl
  have F' := fun_of (st := s_law_test) F
  exact ⟨fd, F', He.glo_ok X G (c.fact 7 (f := .glo "_law_test") rfl), F'.binds fun _ _ _ _ _ _ us hl => match us, hl with | [_, _, _], _ => rfl⟩
theorem g_law_wait (X : K.In h) (G : h.Ns mainGlobals mg) (c : He.SaysD hfa hfn K) : ∃ fd, Fun K "_law_wait" "_law_wait" s_law_wait (He.ga K "_law_wait") fd ∧ mg "_law_wait" = some (.ref (He.ga K "_law_wait")) ∧ Binds K fd ["some", "cell", "most"] [] := by
  obtain ⟨fd, F⟩ := c.def_ 8 (d := hdG "_law_wait" s_law_wait) rfl
  have F' := fun_of (st := s_law_wait) F
  exact ⟨fd, F', He.glo_ok X G (c.fact 8 (f := .glo "_law_wait") rfl), F'.binds fun _ _ _ _ _ _ us hl => match us, hl with | [_, _, _], _ => rfl⟩
theorem g_law_loop (X : K.In h) (G : h.Ns mainGlobals mg) (c : He.SaysD hfa hfn K) : ∃ fd, Fun K "_law_loop" "_law_loop" s_law_loop (He.ga K "_law_loop") fd ∧ mg "_law_loop" = some (.ref (He.ga K "_law_loop")) ∧ Binds K fd ["some", "cell", "most"] [] := by
  obtain ⟨fd, F⟩ := c.def_ 9 (d := hdG "_law_loop" s_law_loop) rfl
  have F' := fun_of (st := s_law_loop) F
  exact ⟨fd, F', He.glo_ok X G (c.fact 9 (f := .glo "_law_loop") rfl), F'.binds fun _ _ _ _ _ _ us hl => match us, hl with | [_, _, _], _ => rfl⟩
theorem g_law_entry (X : K.In h) (G : h.Ns mainGlobals mg) (c : He.SaysD hfa hfn K) : ∃ fd, Fun K "_law_entry" "_law_entry" s_law_entry (He.ga K "_law_entry") fd ∧ mg "_law_entry" = some (.ref (He.ga K "_law_entry")) ∧ Binds K fd ["cell", "some", "boxes", "most", "way"] [] := by
  obtain ⟨fd, F⟩ := c.def_ 10 (d := hdG "_law_entry" s_law_entry) rfl
  have F' := fun_of (st := s_law_entry) F
  exact ⟨fd, F', He.glo_ok X G (c.fact 10 (f := .glo "_law_entry") rfl), F'.binds fun _ _ _ _ _ _ us hl => match us, hl with | [_, _, _, _, _], _ => rfl⟩
theorem g_law_talk (X : K.In h) (G : h.Ns mainGlobals mg) (c : He.SaysD hfa hfn K) : ∃ fd, Fun K "_law_talk" "_law_talk" s_law_talk (He.ga K "_law_talk") fd ∧ mg "_law_talk" = some (.ref (He.ga K "_law_talk")) ∧ Binds K fd ["cells", "boxes", "calls", "most"] [] := by
  obtain ⟨fd, F⟩ := c.def_ 11 (d := hdG "_law_talk" s_law_talk) rfl
  have F' := fun_of (st := s_law_talk) F
  exact ⟨fd, F', He.glo_ok X G (c.fact 11 (f := .glo "_law_talk") rfl), F'.binds fun _ _ _ _ _ _ us hl => match us, hl with | [_, _, _, _], _ => rfl⟩
theorem g_law_script (X : K.In h) (G : h.Ns mainGlobals mg) (c : He.SaysD hfa hfn K) : ∃ fd, Fun K "_law_script" "_law_script" s_law_script (He.ga K "_law_script") fd ∧ mg "_law_script" = some (.ref (He.ga K "_law_script")) ∧ Binds K fd ["script"] [] := by
  obtain ⟨fd, F⟩ := c.def_ 12 (d := hdG "_law_script" s_law_script) rfl
  have F' := fun_of (st := s_law_script) F
  exact ⟨fd, F', He.glo_ok X G (c.fact 12 (f := .glo "_law_script") rfl), F'.binds fun _ _ _ _ _ _ us hl => match us, hl with | [_], _ => rfl⟩
theorem g_law_patterns (X : K.In h) (G : h.Ns mainGlobals mg) (c : He.SaysD hfa hfn K) : ∃ fd, Fun K "_law_patterns" "_law_patterns" s_law_patterns (He.ga K "_law_patterns") fd ∧ mg "_law_patterns" = some (.ref (He.ga K "_law_patterns")) ∧ Binds K fd ["script"] [] := by
  obtain ⟨fd, F⟩ := c.def_ 13 (d := hdG "_law_patterns" s_law_patterns) rfl
  have F' := fun_of (st := s_law_patterns) F
  exact ⟨fd, F', He.glo_ok X G (c.fact 13 (f := .glo "_law_patterns") rfl), F'.binds fun _ _ _ _ _ _ us hl => match us, hl with | [_], _ => rfl⟩
theorem g_law_event (X : K.In h) (G : h.Ns mainGlobals mg) (c : He.SaysD hfa hfn K) : ∃ fd, Fun K "_law_event" "_law_event" s_law_event (He.ga K "_law_event") fd ∧ mg "_law_event" = some (.ref (He.ga K "_law_event")) ∧ Binds K fd ["cell", "patterns"] [] := by
  obtain ⟨fd, F⟩ := c.def_ 14 (d := hdG "_law_event" s_law_event) rfl
  have F' := fun_of (st := s_law_event) F
  exact ⟨fd, F', He.glo_ok X G (c.fact 14 (f := .glo "_law_event") rfl), F'.binds fun _ _ _ _ _ _ us hl => match us, hl with | [_, _], _ => rfl⟩
theorem g_law_others (X : K.In h) (G : h.Ns mainGlobals mg) (c : He.SaysD hfa hfn K) : ∃ fd, Fun K "_law_others" "_law_others" s_law_others (He.ga K "_law_others") fd ∧ mg "_law_others" = some (.ref (He.ga K "_law_others")) ∧ Binds K fd ["cell", "patterns"] [] := by
  obtain ⟨fd, F⟩ := c.def_ 15 (d := hdG "_law_others" s_law_others) rfl
  have F' := fun_of (st := s_law_others) F
  exact ⟨fd, F', He.glo_ok X G (c.fact 15 (f := .glo "_law_others") rfl), F'.binds fun _ _ _ _ _ _ us hl => match us, hl with | [_, _], _ => rfl⟩
theorem g_law (X : K.In h) (G : h.Ns mainGlobals mg) (c : He.SaysD hfa hfn K) : ∃ fd, Fun K "law" "law" s_law (He.ga K "law") fd ∧ mg "law" = some (.ref (He.ga K "law")) ∧ Binds K fd ["script"] [] := by
  obtain ⟨fd, F⟩ := c.def_ 16 (d := hdG "law" s_law) rfl
  have F' := fun_of (st := s_law) F
  exact ⟨fd, F', He.glo_ok X G (c.fact 16 (f := .glo "law") rfl), F'.binds fun _ _ _ _ _ _ us hl => match us, hl with | [_], _ => rfl⟩
theorem g_hand_text (X : K.In h) (G : h.Ns mainGlobals mg) (c : He.SaysD hfa hfn K) : ∃ fd, Fun K "hand_text" "hand_text" s_hand_text (He.ga K "hand_text") fd ∧ mg "hand_text" = some (.ref (He.ga K "hand_text")) ∧ Binds K fd ["line", "word"] [] := by
  obtain ⟨fd, F⟩ := c.def_ 17 (d := hdG "hand_text" s_hand_text) rfl
  have F' := fun_of (st := s_hand_text) F
  exact ⟨fd, F', He.glo_ok X G (c.fact 17 (f := .glo "hand_text") rfl), F'.binds fun _ _ _ _ _ _ us hl => match us, hl with | [_, _], _ => rfl⟩
theorem g_worth (X : K.In h) (G : h.Ns mainGlobals mg) (c : He.SaysD hfa hfn K) : ∃ fd, Fun K "worth" "worth" s_worth (He.ga K "worth") fd ∧ mg "worth" = some (.ref (He.ga K "worth")) ∧ Binds K fd ["expression", "boxes", "values"] [] := by
  obtain ⟨fd, F⟩ := c.def_ 18 (d := hdG "worth" s_worth) rfl
  have F' := fun_of (st := s_worth) F
  exact ⟨fd, F', He.glo_ok X G (c.fact 18 (f := .glo "worth") rfl), F'.binds fun _ _ _ _ _ _ us hl => match us, hl with | [_, _, _], _ => rfl⟩
theorem g_holds (X : K.In h) (G : h.Ns mainGlobals mg) (c : He.SaysD hfa hfn K) : ∃ fd, Fun K "holds" "holds" s_holds (He.ga K "holds") fd ∧ mg "holds" = some (.ref (He.ga K "holds")) ∧ Binds K fd ["condition", "boxes", "values"] [] := by
  obtain ⟨fd, F⟩ := c.def_ 19 (d := hdG "holds" s_holds) rfl
  have F' := fun_of (st := s_holds) F
  exact ⟨fd, F', He.glo_ok X G (c.fact 19 (f := .glo "holds") rfl), F'.binds fun _ _ _ _ _ _ us hl => match us, hl with | [_, _, _], _ => rfl⟩
theorem g_parts_of (X : K.In h) (G : h.Ns mainGlobals mg) (c : He.SaysD hfa hfn K) : ∃ fd, Fun K "parts_of" "parts_of" s_parts_of (He.ga K "parts_of") fd ∧ mg "parts_of" = some (.ref (He.ga K "parts_of")) ∧ Binds K fd ["statement"] [] := by
  obtain ⟨fd, F⟩ := c.def_ 20 (d := hdG "parts_of" s_parts_of) rfl
  have F' := fun_of (st := s_parts_of) F
  exact ⟨fd, F', He.glo_ok X G (c.fact 20 (f := .glo "parts_of") rfl), F'.binds fun _ _ _ _ _ _ us hl => match us, hl with | [_], _ => rfl⟩
theorem g_patterns_of (X : K.In h) (G : h.Ns mainGlobals mg) (c : He.SaysD hfa hfn K) : ∃ fd, Fun K "patterns_of" "patterns_of" s_patterns_of (He.ga K "patterns_of") fd ∧ mg "patterns_of" = some (.ref (He.ga K "patterns_of")) ∧ Binds K fd ["script"] [] := by
  obtain ⟨fd, F⟩ := c.def_ 21 (d := hdG "patterns_of" s_patterns_of) rfl
  have F' := fun_of (st := s_patterns_of) F
  exact ⟨fd, F', He.glo_ok X G (c.fact 21 (f := .glo "patterns_of") rfl), F'.binds fun _ _ _ _ _ _ us hl => match us, hl with | [_], _ => rfl⟩
theorem g_word_by (X : K.In h) (G : h.Ns mainGlobals mg) (c : He.SaysD hfa hfn K) : ∃ fd, Fun K "word_by" "word_by" s_word_by (He.ga K "word_by") fd ∧ mg "word_by" = some (.ref (He.ga K "word_by")) ∧ Binds K fd ["number"] [] := by
  obtain ⟨fd, F⟩ := c.def_ 22 (d := hdG "word_by" s_word_by) rfl
  have F' := fun_of (st := s_word_by) F
  exact ⟨fd, F', He.glo_ok X G (c.fact 22 (f := .glo "word_by") rfl), F'.binds fun _ _ _ _ _ _ us hl => match us, hl with | [_], _ => rfl⟩
theorem g_events_of (X : K.In h) (G : h.Ns mainGlobals mg) (c : He.SaysD hfa hfn K) : ∃ fd, Fun K "events_of" "events_of" s_events_of (He.ga K "events_of") fd ∧ mg "events_of" = some (.ref (He.ga K "events_of")) ∧ Binds K fd ["script"] [] := by
  obtain ⟨fd, F⟩ := c.def_ 23 (d := hdG "events_of" s_events_of) rfl
  have F' := fun_of (st := s_events_of) F
  exact ⟨fd, F', He.glo_ok X G (c.fact 23 (f := .glo "events_of") rfl), F'.binds fun _ _ _ _ _ _ us hl => match us, hl with | [_], _ => rfl⟩
theorem g_frozen (X : K.In h) (G : h.Ns mainGlobals mg) (c : He.SaysD hfa hfn K) : ∃ fd, Fun K "frozen" "frozen" s_frozen (He.ga K "frozen") fd ∧ mg "frozen" = some (.ref (He.ga K "frozen")) ∧ Binds K fd ["thing"] [] := by
  obtain ⟨fd, F⟩ := c.def_ 24 (d := hdG "frozen" s_frozen) rfl
  have F' := fun_of (st := s_frozen) F
  exact ⟨fd, F', He.glo_ok X G (c.fact 24 (f := .glo "frozen") rfl), F'.binds fun _ _ _ _ _ _ us hl => match us, hl with | [_], _ => rfl⟩
theorem g_part_of (X : K.In h) (G : h.Ns mainGlobals mg) (c : He.SaysD hfa hfn K) : ∃ fd, Fun K "part_of" "part_of" s_part_of (He.ga K "part_of") fd ∧ mg "part_of" = some (.ref (He.ga K "part_of")) ∧ Binds K fd ["statement", "number"] [] := by
  obtain ⟨fd, F⟩ := c.def_ 25 (d := hdG "part_of" s_part_of) rfl
  have F' := fun_of (st := s_part_of) F
  exact ⟨fd, F', He.glo_ok X G (c.fact 25 (f := .glo "part_of") rfl), F'.binds fun _ _ _ _ _ _ us hl => match us, hl with | [_, _], _ => rfl⟩
theorem g_branch_for (X : K.In h) (G : h.Ns mainGlobals mg) (c : He.SaysD hfa hfn K) : ∃ fd, Fun K "branch_for" "branch_for" s_branch_for (He.ga K "branch_for") fd ∧ mg "branch_for" = some (.ref (He.ga K "branch_for")) ∧ Binds K fd ["wait", "event"] [] := by
  obtain ⟨fd, F⟩ := c.def_ 26 (d := hdG "branch_for" s_branch_for) rfl
  have F' := fun_of (st := s_branch_for) F
  exact ⟨fd, F', He.glo_ok X G (c.fact 26 (f := .glo "branch_for") rfl), F'.binds fun _ _ _ _ _ _ us hl => match us, hl with | [_, _], _ => rfl⟩
theorem g_branch_for_none (X : K.In h) (G : h.Ns mainGlobals mg) (c : He.SaysD hfa hfn K) : ∃ fd, Fun K "branch_for_none" "branch_for_none" s_branch_for_none (He.ga K "branch_for_none") fd ∧ mg "branch_for_none" = some (.ref (He.ga K "branch_for_none")) ∧ Binds K fd ["wait"] [] := by
  obtain ⟨fd, F⟩ := c.def_ 27 (d := hdG "branch_for_none" s_branch_for_none) rfl
  have F' := fun_of (st := s_branch_for_none) F
  exact ⟨fd, F', He.glo_ok X G (c.fact 27 (f := .glo "branch_for_none") rfl), F'.binds fun _ _ _ _ _ _ us hl => match us, hl with | [_], _ => rfl⟩
theorem g_cut_to (X : K.In h) (G : h.Ns mainGlobals mg) (c : He.SaysD hfa hfn K) : ∃ fd, Fun K "cut_to" "cut_to" s_cut_to (He.ga K "cut_to") fd ∧ mg "cut_to" = some (.ref (He.ga K "cut_to")) ∧ Binds K fd ["frames", "kind"] [] := by
  obtain ⟨fd, F⟩ := c.def_ 28 (d := hdG "cut_to" s_cut_to) rfl
  have F' := fun_of (st := s_cut_to) F
  exact ⟨fd, F', He.glo_ok X G (c.fact 28 (f := .glo "cut_to") rfl), F'.binds fun _ _ _ _ _ _ us hl => match us, hl with | [_, _], _ => rfl⟩
theorem m_init (c : He.SaysD hfa hfn K) : ∃ fd, Fun K "__init__" "Teller.__init__" s_Tinit (He.ma K (He.ga K "Teller") "__init__") fd ∧ Mk K (He.ga K "Teller") (He.ma K (He.ga K "Teller") "__init__") ∧ Binds K fd ["self", "script"] [] := by
  obtain ⟨fd, F⟩ := c.def_ 29 (d := hdM "__init__" "Teller.__init__" s_Tinit) rfl
  have F' := fun_of (st := s_Tinit) F
  exact ⟨fd, F', He.mkr_ok (c.fact 48 (f := .mkr "Teller") rfl), F'.binds fun _ _ _ _ _ _ us hl => match us, hl with | [_, _], _ => rfl⟩
theorem m_body_at (c : He.SaysD hfa hfn K) : ∃ fd, Fun K "body_at" "Teller.body_at" s_Tbody_at (He.ma K (He.ga K "Teller") "body_at") fd ∧ Meth K (He.ga K "Teller") "body_at" (He.ma K (He.ga K "Teller") "body_at") ∧ Binds K fd ["self", "path"] [] := by
  obtain ⟨fd, F⟩ := c.def_ 30 (d := hdM "body_at" "Teller.body_at" s_Tbody_at) rfl
  have F' := fun_of (st := s_Tbody_at) F
  exact ⟨fd, F', He.meth_ok (c.fact 49 (f := .meth "Teller" "body_at") rfl), F'.binds fun _ _ _ _ _ _ us hl => match us, hl with | [_, _], _ => rfl⟩
theorem m_behind (c : He.SaysD hfa hfn K) : ∃ fd, Fun K "behind" "Teller.behind" s_Tbehind (He.ma K (He.ga K "Teller") "behind") fd ∧ Meth K (He.ga K "Teller") "behind" (He.ma K (He.ga K "Teller") "behind") ∧ Binds K fd ["self", "statement", "path", "at", "frames"] [] := by
  obtain ⟨fd, F⟩ := c.def_ 31 (d := hdM "behind" "Teller.behind" s_Tbehind) rfl
  have F' := fun_of (st := s_Tbehind) F
  exact ⟨fd, F', He.meth_ok (c.fact 50 (f := .meth "Teller" "behind") rfl), F'.binds fun _ _ _ _ _ _ us hl => match us, hl with | [_, _, _, _, _], _ => rfl⟩
theorem m_put_in (c : He.SaysD hfa hfn K) : ∃ fd, Fun K "put_in" "Teller.put_in" s_Tput_in (He.ma K (He.ga K "Teller") "put_in") fd ∧ Meth K (He.ga K "Teller") "put_in" (He.ma K (He.ga K "Teller") "put_in") ∧ Binds K fd ["self", "values", "name", "expression"] [] := by
  obtain ⟨fd, F⟩ := c.def_ 32 (d := hdM "put_in" "Teller.put_in" s_Tput_in) rfl
  have F' := fun_of (st := s_Tput_in) F
  exact ⟨fd, F', He.meth_ok (c.fact 51 (f := .meth "Teller" "put_in") rfl), F'.binds fun _ _ _ _ _ _ us hl => match us, hl with | [_, _, _, _], _ => rfl⟩
theorem m_go (c : He.SaysD hfa hfn K) : ∃ fd, Fun K "go" "Teller.go" s_Tgo (He.ma K (He.ga K "Teller") "go") fd ∧ Meth K (He.ga K "Teller") "go" (He.ma K (He.ga K "Teller") "go") ∧ Binds K fd ["self", "frames", "values"] [] := by
  obtain ⟨fd, F⟩ := c.def_ 33 (d := hdM "go" "Teller.go" s_Tgo) rfl
  have F' := fun_of (st := s_Tgo) F
  exact ⟨fd, F', He.meth_ok (c.fact 52 (f := .meth "Teller" "go") rfl), F'.binds fun _ _ _ _ _ _ us hl => match us, hl with | [_, _, _], _ => rfl⟩
theorem m_begin (c : He.SaysD hfa hfn K) : ∃ fd, Fun K "begin" "Teller.begin" s_Tbegin (He.ma K (He.ga K "Teller") "begin") fd ∧ Meth K (He.ga K "Teller") "begin" (He.ma K (He.ga K "Teller") "begin") ∧ Binds K fd ["self"] [] := by
  obtain ⟨fd, F⟩ := c.def_ 34 (d := hdM "begin" "Teller.begin" s_Tbegin) rfl
  have F' := fun_of (st := s_Tbegin) F
  exact ⟨fd, F', He.meth_ok (c.fact 53 (f := .meth "Teller" "begin") rfl), F'.binds fun _ _ _ _ _ _ us hl => match us, hl with | [_], _ => rfl⟩
theorem m_step (c : He.SaysD hfa hfn K) : ∃ fd, Fun K "step" "Teller.step" s_Tstep (He.ma K (He.ga K "Teller") "step") fd ∧ Meth K (He.ga K "Teller") "step" (He.ma K (He.ga K "Teller") "step") ∧ Binds K fd ["self", "standing", "event"] [] := by
  obtain ⟨fd, F⟩ := c.def_ 35 (d := hdM "step" "Teller.step" s_Tstep) rfl
  have F' := fun_of (st := s_Tstep) F
  exact ⟨fd, F', He.meth_ok (c.fact 54 (f := .meth "Teller" "step") rfl), F'.binds fun _ _ _ _ _ _ us hl => match us, hl with | [_, _, _], _ => rfl⟩
theorem law_hyps (X : K.In h) (G : h.Ns mainGlobals mg) (c : He.SaysD hfa hfn K) : LawHyps P w K mg base (He.ga K "Teller") := by
  have B := free_of X G c
  have T := cls_of c
  obtain ⟨fd_law_cell, F_law_cell, h_law_cell, b_law_cell⟩ := g_law_cell X G c
  obtain ⟨fd_law_stir, F_law_stir, h_law_stir, b_law_stir⟩ := g_law_stir X G c
  obtain ⟨fd_law_drawn, F_law_drawn, h_law_drawn, b_law_drawn⟩ := g_law_drawn X G c
  obtain ⟨fd_law_word, F_law_word, h_law_word, b_law_word⟩ := g_law_word X G c
  obtain ⟨fd_law_expression, F_law_expression, h_law_expression, b_law_expression⟩ := g_law_expression X G c
  obtain ⟨fd_law_condition, F_law_condition, h_law_condition, b_law_condition⟩ := g_law_condition X G c
  obtain ⟨fd_law_simple, F_law_simple, h_law_simple, b_law_simple⟩ := g_law_simple X G c
  obtain ⟨fd_law_test, F_law_test, h_law_test, b_law_test⟩ := g_law_test X G c
  obtain ⟨fd_law_wait, F_law_wait, h_law_wait, b_law_wait⟩ := g_law_wait X G c
  obtain ⟨fd_law_loop, F_law_loop, h_law_loop, b_law_loop⟩ := g_law_loop X G c
  obtain ⟨fd_law_entry, F_law_entry, h_law_entry, b_law_entry⟩ := g_law_entry X G c
  obtain ⟨fd_law_talk, F_law_talk, h_law_talk, b_law_talk⟩ := g_law_talk X G c
  obtain ⟨fd_law_script, F_law_script, h_law_script, b_law_script⟩ := g_law_script X G c
  obtain ⟨fd_law_patterns, F_law_patterns, h_law_patterns, b_law_patterns⟩ := g_law_patterns X G c
  obtain ⟨fd_law_event, F_law_event, h_law_event, b_law_event⟩ := g_law_event X G c
  obtain ⟨fd_law_others, F_law_others, h_law_others, b_law_others⟩ := g_law_others X G c
  obtain ⟨fd_hand_text, F_hand_text, h_hand_text, b_hand_text⟩ := g_hand_text X G c
  obtain ⟨fd_worth, F_worth, h_worth, b_worth⟩ := g_worth X G c
  obtain ⟨fd_holds, F_holds, h_holds, b_holds⟩ := g_holds X G c
  obtain ⟨fd_parts_of, F_parts_of, h_parts_of, b_parts_of⟩ := g_parts_of X G c
  obtain ⟨fd_patterns_of, F_patterns_of, h_patterns_of, b_patterns_of⟩ := g_patterns_of X G c
  obtain ⟨fd_word_by, F_word_by, h_word_by, b_word_by⟩ := g_word_by X G c
  obtain ⟨fd_events_of, F_events_of, h_events_of, b_events_of⟩ := g_events_of X G c
  obtain ⟨fd_frozen, F_frozen, h_frozen, b_frozen⟩ := g_frozen X G c
  obtain ⟨fd_part_of, F_part_of, h_part_of, b_part_of⟩ := g_part_of X G c
  obtain ⟨fd_branch_for, F_branch_for, h_branch_for, b_branch_for⟩ := g_branch_for X G c
  obtain ⟨fd_branch_for_none, F_branch_for_none, h_branch_for_none, b_branch_for_none⟩ := g_branch_for_none X G c
  obtain ⟨fd_cut_to, F_cut_to, h_cut_to, b_cut_to⟩ := g_cut_to X G c
  obtain ⟨fdm_init, Fm_init, hm_init, bm_init⟩ := m_init c
  obtain ⟨fdm_body_at, Fm_body_at, hm_body_at, bm_body_at⟩ := m_body_at c
  obtain ⟨fdm_behind, Fm_behind, hm_behind, bm_behind⟩ := m_behind c
  obtain ⟨fdm_put_in, Fm_put_in, hm_put_in, bm_put_in⟩ := m_put_in c
  obtain ⟨fdm_go, Fm_go, hm_go, bm_go⟩ := m_go c
  obtain ⟨fdm_begin, Fm_begin, hm_begin, bm_begin⟩ := m_begin c
  obtain ⟨fdm_step, Fm_step, hm_step, bm_step⟩ := m_step c
  obtain ⟨tL, hLt⟩ := He.str_ok X G (c.fact 55 (f := .str "LETTERS" lettersS) rfl)
  have Dce := df_law_cell (P := P) (w := w) (base := base) B F_law_cell h_law_cell b_law_cell
  have Dst := df_law_stir (P := P) (w := w) (base := base) B F_law_stir h_law_stir b_law_stir
  have Dd := df_law_drawn (k := 1) (P := P) (w := w) (base := base) B Dst F_law_drawn h_law_drawn b_law_drawn
  have Dw := df_law_word (P := P) (w := w) (base := base) F_law_word h_law_word b_law_word
  have Dx := df_law_expression (P := P) (w := w) (base := base) B F_law_expression h_law_expression b_law_expression
  have Dc := df_law_condition (P := P) (w := w) (base := base) B Dx F_law_condition h_law_condition b_law_condition
  have Ds := df_law_simple (P := P) (w := w) (base := base) B Dd Dw Dx F_law_simple h_law_simple b_law_simple
  have Dt := df_law_test (P := P) (w := w) (base := base) B Dd Dc F_law_test h_law_test b_law_test
  have Dwt := df_law_wait (P := P) (w := w) (base := base) B Dd Dw F_law_wait h_law_wait b_law_wait
  have Dl := df_law_loop (P := P) (w := w) (base := base) B Dd Dw F_law_loop h_law_loop b_law_loop
  have De := df_law_entry (P := P) (w := w) (base := base) B Dl Dwt Dt F_law_entry h_law_entry b_law_entry
  have Dk := df_law_talk (P := P) (w := w) (base := base) B Dd Ds De Dl F_law_talk h_law_talk b_law_talk
  have Dsc := df_law_script (P := P) (w := w) (base := base) B Dce Dd Dk F_law_script h_law_script b_law_script
  have Dpt := dfn_law_patterns (P := P) (w := w) (base := base) F_law_patterns h_law_patterns b_law_patterns
  have Dev := df_law_event (P := P) (w := w) (base := base) B Dd Dw F_law_event h_law_event b_law_event
  have Dot := df_law_others (P := P) (w := w) (base := base) B Dd Dw F_law_others h_law_others b_law_others
  have Dha := df_hand_text (P := P) (w := w) (base := base) B F_hand_text h_hand_text b_hand_text
  have Dwo := df_worth (P := P) (w := w) (base := base) B F_worth h_worth b_worth 3
  have Dho := df_holds (P := P) (w := w) (base := base) B Dwo F_holds h_holds b_holds 3
  have Dpa := df_parts_of (P := P) (w := w) (base := base) F_parts_of h_parts_of b_parts_of
  have Dpf := dfn_patterns_of (P := P) (w := w) (base := base) Dpa F_patterns_of h_patterns_of b_patterns_of
  have Dwb := df_word_by (P := P) (w := w) (base := base) B hLt ⟨tL, rfl⟩ F_word_by h_word_by b_word_by
  have Deo := dfn_events_of (P := P) (w := w) (base := base) B Dpf Dwb F_events_of h_events_of b_events_of
  have Dfz := df_frozen (P := P) (w := w) (base := base) B F_frozen h_frozen b_frozen 34
  have Dpo := df_part_of (P := P) (w := w) (base := base) F_part_of h_part_of b_part_of
  have Dbr := df_branch_for (P := P) (w := w) (base := base) F_branch_for h_branch_for b_branch_for
  have Dbn := df_branch_for_none (P := P) (w := w) (base := base) F_branch_for_none h_branch_for_none b_branch_for_none
  have Dcu := df_cut_to (P := P) (w := w) (base := base) B F_cut_to h_cut_to b_cut_to
  have Mb : ∀ sc : Sc, _ := fun sc => dm_body_at (P := P) (w := w) (base := base) (sc := sc) B T Dpo Fm_body_at hm_body_at bm_body_at
  have Mh : ∀ sc : Sc, _ := fun sc => dm_behind (P := P) (w := w) (base := base) (sc := sc) B T Dcu Fm_behind hm_behind bm_behind
  have Mp : ∀ sc : Sc, _ := fun sc => dm_put_in (P := P) (w := w) (base := base) (sc := sc) B T Dwo Fm_put_in hm_put_in bm_put_in
  have Go : ∀ ns : List Int, GoOk P w K mg base (He.ga K "Teller") (scN ns) (prN ns) 2077 := fun ns => ⟨_, _, fn_go (P := P) (w := w) (base := base) Fm_go B T (okW' ns) (by decide) Dha Dho (Mb _) (Mh _) (Mp _), hm_go, bm_go⟩
  refine ⟨B, T, Dsc, Dpt, Deo, Dev, Dot, fun ns => ⟨_, _, fn_init (P := P) (w := w) (base := base) Fm_init B T Dfz (dpN ns) (frN ns) ?_ ?_, hm_init, He.glo_ok X G (c.fact 43 (f := .glo "Teller") rfl), bm_init⟩, fun ns => dm_begin (P := P) (w := w) (base := base) Fm_begin B T (okW' ns) (Go ns) hm_begin bm_begin,
    fun ns => dm_step (P := P) (w := w) (base := base) Fm_step B T (okW' ns) (by decide) (fun t h => lay_tk h.1) (Go ns) (Mb _) Dbr Dbn hm_step bm_step⟩
  · have e := (okW' ns).names
    rw [← e]
    exact (okW' ns).nd
  · exact (okW' ns).few
/-- the law's def, behind the head: its promise -/
theorem facts {mg : Str → Option Value} {f : Addr} (X : K.In h) (G : h.Ns mainGlobals mg) (hmg : mg ("law" : Str) = some (.ref f)) (c : He.SaysD hfa hfn K) :
    ∃ fd : FuncData, (∀ (s : Shared) (v : Value), BindsTo s fd ⟨[v], []⟩ [("script", v)]) ∧ ∀ base : Heap, K.In base → base.Ns mainGlobals mg → FnOk P w K mg base CX0 38 f fd ["script"] (SpR (rLaw K)) := by
  obtain ⟨fd, F, hm, hb⟩ := g_law X G c
  have e := hmg.symm.trans hm
  cases e
  refine ⟨fd, fun s v => ?_, fun base _ _ => ?_⟩
  · obtain ⟨oc, od, kV, doc, pm, an, cdv, ct, osl, rfl, lk, hcd⟩ := F.ex
    exact .of_eq rfl
  · exact fn_law (law_hyps (P := P) (w := w) (base := base) X G c) F
theorem law_end {H : Hp} {a : Addr} {ns : List Int} (hS : SqL K H a (ns.map V.int)) : SpR (rLaw K) [.ref a] H (fun v _ => v = .bl true) fun _ _ _ => False :=
  ⟨H, [.ph (PScr K ns)], .dat (.bool true), Same.refl H, .cons (fun G' s => ⟨a, rfl, s.seq hS⟩) .nil, ⟨ns, rfl, rfl⟩, fun v G' H' _ h => by cases h; rfl⟩
end
end CM

namespace CM
open PySem L2 DL
theorem walk {l : PySem.W.OpenLaw} {q : Program} {loose : List Str} {XP : (Str → Option Value) → Heap → Prop} {YP : World → Heap → Prop} {d : DefRec} {K : Params → PySem.W.Frag} (hn : l.most = some 63) (hdf : d.params.defaults = [])
    (hY : ∀ (w : World) (h : Heap), YP w h → (K w.params).In h) (hnm : d.name = ("law" : Str)) (hc : ∀ w : World, He.SaysD hfa hfn (K w.params)) :
    PySem.W.WalkO q loose XP YP l.row.toRowW d [] (fun f vs => PySem.call f vs) :=
  L2.walk_of (n := 63) (k := 38) (x := "script") (CX := fun _ => CX0) (sp := fun w => SpR (rLaw (K w.params))) hn (by decide) hdf ⟨rfl, by decide, by decide⟩ hY
    (fun w mg fa h KX G hmg => facts (P := l.prog) (w := w) KX G (by rw [← hnm]; exact hmg) (hc w)) (fun _ _ a ns _ _ hS => law_end hS) fun _ _ _ _ _ z => z
end CM
open PySem PySem.W PyProof.Rows in
set_option maxRecDepth 100000 in
set_option maxHeartbeats 0 in
theorem PySem.Challenge.cw_callmill_k23_other_keys_and_words_holds : PySem.Challenge.rw_callmill_k23_other_keys_and_words.Holds := by
  w_on; o_law; k_head; (case hw => w_witness2)
  k_fill
  refine CM.walk (l := PySem.Challenge.rw_callmill_k23_other_keys_and_words) rfl rfl (fun w h Y => PySem.W.kIn_of Y) rfl ?c
  case c =>
    intro w
    show He.obsD CM.hfa CM.hfn _ = He.valD CM.hfn
    kernel_rfl
