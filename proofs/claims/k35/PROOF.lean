import PyProof.Rows.All
import Wide.All
import OpenK.AllK
import Wide.FinOn
import HandS.ForMost
import HandS.Walk
import HandS.Zip
import HandS.WideBits
import HandS.IsInst
import HandS.SortKw
import HandS.TupMul
import HandS.TupAny
import HandS.Flow
import HandS.CallLocal
import HandS.Codes
import KE.DataEq
import KE.DataMinMax
import KE.SortData
import KE.DataIsa
import PyProof.ReprReads
import HandS.Style
import KE.GoesEnum
import HandS.Strs
import PySem.Challenge.RW_howmanymet_k35_whole_more_even_lists_sta
set_option Elab.async false
set_option linter.all false
set_option maxRecDepth 100000
section
/-! HM core 1: data, slots, the state relation, judgements over data -/
namespace HM
open PySem PySem.Spec PyProof.Rows L2

theorem sameT {K : PySem.W.Frag} {H H' : Hp} {a : Addr} {xs : List V} (e : Same H H') (h : SqT K H a xs) : SqT K H' a xs := by
  rcases h with (h | ⟨o, h⟩) | h
  · exact .inl (.inl (e _ _ h))
  · exact .inl (.inr ⟨o, e _ _ h⟩)
  · exact .inr h
mutual
theorem dpMono {K : PySem.W.Frag} {H H' : Hp} (e : Same H H') : ∀ {v : V} {d : PyData}, Dp K H v d → Dp K H' v d
  | _, _, .non => .non
  | _, _, .bl b => .bl b
  | _, _, .int i => .int i
  | _, _, .str x => .str x
  | _, _, .lst h a => .lst (e.seq h) (dpAllMono e a)
  | _, _, .tup h a => .tup (sameT e h) (dpAllMono e a)
theorem dpAllMono {K : PySem.W.Frag} {H H' : Hp} (e : Same H H') : ∀ {vs : List V} {ds : List PyData}, DpAll K H vs ds → DpAll K H' vs ds
  | _, _, .nil => .nil
  | _, _, .cons a b => .cons (dpMono e a) (dpAllMono e b)
end
theorem dpAll_len {K : PySem.W.Frag} {H : Hp} : ∀ {vs : List V} {ds : List PyData}, DpAll K H vs ds → vs.length = ds.length
  | _, _, .nil => rfl
  | _, _, .cons _ b => by simp [dpAll_len b]
theorem dpAll_get {K : PySem.W.Frag} {H : Hp} : ∀ {vs : List V} {ds : List PyData} {i : Nat} {d : PyData}, DpAll K H vs ds → ds[i]? = some d → ∃ v, vs[i]? = some v ∧ Dp K H v d
  | _, _, _, _, .nil, h => by simp at h
  | _, _, 0, _, .cons a _, h => by simp at h; subst h; exact ⟨_, rfl, a⟩
  | _, _, i + 1, _, .cons _ b, h => by
    obtain ⟨v, e, r⟩ := dpAll_get (i := i) b (by simpa using h)
    exact ⟨v, by simpa using e, r⟩
theorem dpAll_get' {K : PySem.W.Frag} {H : Hp} : ∀ {vs : List V} {ds : List PyData} {i : Nat} {v : V}, DpAll K H vs ds → vs[i]? = some v → ∃ d, ds[i]? = some d ∧ Dp K H v d
  | _, _, _, _, .nil, h => by simp at h
  | _, _, 0, _, .cons a _, h => by simp at h; subst h; exact ⟨_, rfl, a⟩
  | _, _, i + 1, _, .cons _ b, h => by
    obtain ⟨v, e, r⟩ := dpAll_get' (i := i) b (by simpa using h)
    exact ⟨v, by simpa using e, r⟩
theorem dpAll_set {K : PySem.W.Frag} {H : Hp} {v : V} {d : PyData} (r : Dp K H v d) : ∀ {vs : List V} {ds : List PyData} (i : Nat), DpAll K H vs ds → DpAll K H (vs.set i v) (ds.set i d)
  | _, _, _, .nil => .nil
  | _, _, 0, .cons _ b => .cons r b
  | _, _, i + 1, .cons a b => .cons a (dpAll_set r i b)
theorem dpAll_app {K : PySem.W.Frag} {H : Hp} : ∀ {vs ws : List V} {ds es : List PyData}, DpAll K H vs ds → DpAll K H ws es → DpAll K H (vs ++ ws) (ds ++ es)
  | _, _, _, _, .nil, h => h
  | _, _, _, _, .cons a b, h => .cons a (dpAll_app b h)
theorem dpAll_drop {K : PySem.W.Frag} {H : Hp} : ∀ {vs : List V} {ds : List PyData} (n : Nat), DpAll K H vs ds → DpAll K H (vs.drop n) (ds.drop n)
  | _, _, 0, h => h
  | _, _, _ + 1, .nil => .nil
  | _, _, n + 1, .cons _ b => dpAll_drop n b
theorem dpAll_take {K : PySem.W.Frag} {H : Hp} : ∀ {vs : List V} {ds : List PyData} (n : Nat), DpAll K H vs ds → DpAll K H (vs.take n) (ds.take n)
  | _, _, 0, _ => .nil
  | _, _, _ + 1, .nil => .nil
  | _, _, n + 1, .cons a b => .cons a (dpAll_take n b)
theorem dpAll_rev {K : PySem.W.Frag} {H : Hp} : ∀ {vs : List V} {ds : List PyData}, DpAll K H vs ds → DpAll K H vs.reverse ds.reverse
  | _, _, .nil => .nil
  | _, _, .cons a b => by
    rw [List.reverse_cons, List.reverse_cons]
    exact dpAll_app (dpAll_rev b) (.cons a .nil)
theorem dpAll_ints {K : PySem.W.Frag} {H : Hp} : ∀ {vs : List V} {ns : List Int}, DpAll K H vs (ns.map .int) → vs = ns.map V.int
  | _, [], .nil => rfl
  | _, n :: ns, .cons a b => by
    cases a
    rw [List.map_cons, dpAll_ints b]
theorem dpAll_of_ints {K : PySem.W.Frag} {H : Hp} : ∀ ns : List Int, DpAll K H (ns.map V.int) (ns.map .int)
  | [] => .nil
  | n :: ns => .cons (.int n) (dpAll_of_ints ns)
theorem dpAll_bls {K : PySem.W.Frag} {H : Hp} : ∀ {vs : List V} {ns : List Bool}, DpAll K H vs (ns.map .bool) → vs = ns.map V.bl
  | _, [], .nil => rfl
  | _, n :: ns, .cons a b => by
    cases a
    rw [List.map_cons, dpAll_bls b]

/-! ### the pot: a list of two ints -/
/-- a list of two ints: the first from 0 on (of at most 2^20 bits), the second from 0 on, small -/
def PotOk (a b : Int) : Prop := 0 ≤ a ∧ 0 ≤ b ∧ b < 4294967296
def PotF (p : Addr) : Heap → Prop := fun h => ∃ (a b : Int) (t u : Tok) (n : Nat), PotOk a b ∧ h.get? p = some { cls := .type "list", data := .seq [Value.int a t, Value.int b u].toArray n }

/-! ### values over data -/
/-- d: data; t: data that is read now (an open list of a slot, a parameter of a caller's); pot; any value as it is (a def, a class) -/
inductive Dv where
  | d (x : PyData) | t (x : PyData) | pot | raw (v : V) | row (vs : List V) | z (ds : List PyData)
def DV (K : PySem.W.Frag) (B H : Hp) : Dv → V → Prop
  | .d x, v => Dp K B v x
  | .t x, v => Dp K H v x
  | .pot, v => ∃ a, v = .ref a ∧ B a = some (.ext (PotF a))
  | .raw w, v => v = w
  | .row ws, v => ∃ a, v = .ref a ∧ B a = some (.tup ws)
  | .z ds, v => ∃ a o vs, v = .ref a ∧ B a = some (.frz o (.tup vs)) ∧ o.dict = none ∧ DpAll K B vs ds
theorem DV.mono {K : PySem.W.Frag} {B H B' H' : Hp} (e : Same B B') (f : Same H H') : ∀ {x : Dv} {v : V}, DV K B H x v → DV K B' H' x v
  | .d _, _, h => dpMono e h
  | .t _, _, h => dpMono f h
  | .pot, _, ⟨a, e1, e2⟩ => ⟨a, e1, e _ _ e2⟩
  | .raw _, _, h => h
  | .row _, _, ⟨a, e1, e2⟩ => ⟨a, e1, e _ _ e2⟩
  | .z _, _, ⟨a, o, vs, e1, e2, e3, e4⟩ => ⟨a, o, vs, e1, e _ _ e2, e3, dpAllMono e e4⟩
abbrev DVs (K : PySem.W.Frag) (B H : Hp) : List Dv → List V → Prop := Paired (DV K B H)
theorem DVs.mono {K : PySem.W.Frag} {B H B' H' : Hp} (e : Same B B') (f : Same H H') : ∀ {xs : List Dv} {vs : List V}, DVs K B H xs vs → DVs K B' H' xs vs
  | _, _, .nil => .nil
  | _, _, .cons a b => .cons (a.mono e f) (DVs.mono e f b)

/-- a step: B is the part of H that stays for good -/
structure Stp (B H B' H' : Hp) : Prop where
  bb : Same B B'
  hh : Same H H'
  bh : Same B' H'
  fr : ∀ p, B p = none → H p ≠ none → B' p = none
theorem Stp.refl {B H : Hp} (e : Same B H) : Stp B H B H := ⟨Same.refl _, Same.refl _, e, fun _ h _ => h⟩
theorem Stp.trans {B H B1 H1 B2 H2 : Hp} (a : Stp B H B1 H1) (b : Stp B1 H1 B2 H2) : Stp B H B2 H2 :=
  ⟨a.bb.trans b.bb, a.hh.trans b.hh, b.bh, fun p h1 h2 => b.fr p (a.fr p h1 h2) (fun z => h2 (a.hh.free z))⟩
theorem same_upd {H : Hp} {p : Addr} {o : HO} (h : H p = none) : Same H (upd H p o) := fun b x e => by
  rw [upd_ne (ne_of_none e h)]
  exact e
/-- a new object, in both -/
theorem Stp.new {B H : Hp} {p : Addr} {o : HO} (e : Same B H) (h : H p = none) : Stp B H (upd B p o) (upd H p o) := by
  have hb : B p = none := e.free h
  refine ⟨same_upd hb, same_upd h, fun b x q => ?_, fun q h1 h2 => ?_⟩
  · by_cases z : b = p
    · subst z; rw [upd_same] at q ⊢; exact q
    · rw [upd_ne z] at q ⊢; exact e _ _ q
  · rw [upd_ne (fun z => h2 (by rw [z]; exact h))]; exact h1
/-- a new object, in the heap alone -/
theorem Stp.open {B H : Hp} {p : Addr} {o : HO} (e : Same B H) (h : H p = none) : Stp B H B (upd H p o) :=
  ⟨Same.refl _, same_upd h, e.trans (same_upd h), fun _ h1 _ => h1⟩
/-- an open list is shut -/
theorem Stp.shut {B H B1 H1 : Hp} {p : Addr} {o : HO} (e : Stp B H B1 H1) (h0 : H p = none) (h1 : B1 p = none) (h2 : H1 p = some o) : Stp B H (upd B1 p o) H1 := by
  refine ⟨e.bb.trans (same_upd h1), e.hh, fun b x q => ?_, fun q a1 a2 => ?_⟩
  · by_cases z : b = p
    · subst z; rw [upd_same] at q; rw [← q]; exact h2
    · rw [upd_ne z] at q; exact e.bh _ _ q
  · rw [upd_ne (fun z => a2 (by rw [z]; exact h0))]; exact e.fr q a1 a2

/-! ### slots -/
/-- no: not yet, or forgotten; im: a value; mu: a list of the def's own that is still written -/
inductive Sl where
  | no | im (x : Dv) | mu (xs : List PyData)
def SlV (K : PySem.W.Frag) (H0 B H : Hp) : Sl → Option V → Prop
  | .no, _ => True
  | .im x, ov => ∃ v, ov = some v ∧ DV K B H0 x v
  | .mu xs, ov => ∃ p vs, ov = some (.ref p) ∧ B p = none ∧ H0 p = none ∧ H p = some (.lst vs) ∧ DpAll K B vs xs
structure Ok (K : PySem.W.Frag) (B0 H0 B : Hp) (es : List Sl) (σ : L2.St) (H : Hp) : Prop where
  st : Stp B0 H0 B H
  len : es.length = σ.length
  sl : ∀ (i : Nat) s, es[i]? = some s → ∃ ov, σ[i]? = some ov ∧ SlV K H0 B H s ov
  ne : ∀ (i j : Nat) (xs ys : List PyData) p q, i ≠ j → es[i]? = some (.mu xs) → es[j]? = some (.mu ys) → σ[i]? = some (some (.ref p)) → σ[j]? = some (some (.ref q)) → p ≠ q
section
variable {K : PySem.W.Frag} {B0 H0 B H B' H' : Hp} {es : List Sl} {σ : L2.St}
theorem SlV.mono (f : Stp B H B' H') : ∀ {s : Sl} {ov : Option V}, SlV K H0 B H s ov → SlV K H0 B' H' s ov
  | .no, _, _ => trivial
  | .im _, _, ⟨v, e, h⟩ => ⟨v, e, h.mono f.bb (Same.refl _)⟩
  | .mu _, _, ⟨p, vs, e, hb, h0, hp, ha⟩ => ⟨p, vs, e, f.fr p hb (by rw [hp]; exact fun z => nomatch z), h0, f.hh _ _ hp, dpAllMono f.bb ha⟩
theorem Ok.mono (o : Ok K B0 H0 B es σ H) (f : Stp B H B' H') : Ok K B0 H0 B' es σ H' :=
  ⟨o.st.trans f, o.len, fun i s e => let ⟨ov, e1, h⟩ := o.sl i s e; ⟨ov, e1, h.mono f⟩, o.ne⟩
theorem Ok.bh (o : Ok K B0 H0 B es σ H) : Same B H := o.st.bh
theorem Ok.at (o : Ok K B0 H0 B es σ H) {i : Nat} {x : Dv} (e : es[i]? = some (.im x)) : ∃ v, σ[i]? = some (some v) ∧ DV K B H x v := by
  obtain ⟨ov, e1, v, rfl, h⟩ := o.sl i _ e
  exact ⟨v, e1, h.mono (Same.refl _) o.st.hh⟩
theorem Ok.mu (o : Ok K B0 H0 B es σ H) {i : Nat} {xs : List PyData} (e : es[i]? = some (.mu xs)) : ∃ p vs, σ[i]? = some (some (.ref p)) ∧ B p = none ∧ H0 p = none ∧ H p = some (.lst vs) ∧ DpAll K B vs xs := by
  obtain ⟨ov, e1, p, vs, rfl, h⟩ := o.sl i _ e
  exact ⟨p, vs, e1, h⟩
theorem set_get {α : Type} {l : List α} {i j : Nat} {a b : α} (h : (l.set i a)[j]? = some b) : (j = i ∧ b = a ∧ i < l.length) ∨ (j ≠ i ∧ l[j]? = some b) := by
  by_cases z : j = i
  · subst z
    have hl : j < l.length := by
      have := (List.getElem?_eq_some_iff.mp h).1
      simpa using this
    rw [List.getElem?_set_self hl] at h
    exact .inl ⟨rfl, (Option.some.inj h).symm, hl⟩
  · rw [List.getElem?_set_ne (Ne.symm z)] at h
    exact .inr ⟨z, h⟩
/-- a slot takes a value -/
theorem Ok.set (o : Ok K B0 H0 B es σ H) (i : Nat) {x : Dv} {v : V} (h : DV K B H0 x v) : Ok K B0 H0 B (es.set i (.im x)) (σ.set i (some v)) H := by
  refine ⟨o.st, by rw [List.length_set, List.length_set, o.len], fun j s e => ?_, fun j k xs ys p q hjk e1 e2 e3 e4 => ?_⟩
  · rcases set_get e with ⟨rfl, rfl, hl⟩ | ⟨hne, e⟩
    · exact ⟨some v, List.getElem?_set_self (by rw [← o.len]; exact hl), v, rfl, h⟩
    · obtain ⟨ov, e1, h1⟩ := o.sl j s e
      exact ⟨ov, by rw [List.getElem?_set_ne (Ne.symm hne)]; exact e1, h1⟩
  · rcases set_get e1 with ⟨rfl, z, _⟩ | ⟨n1, e1⟩
    · cases z
    · rcases set_get e2 with ⟨rfl, z, _⟩ | ⟨n2, e2⟩
      · cases z
      · rw [List.getElem?_set_ne (Ne.symm n1)] at e3
        rw [List.getElem?_set_ne (Ne.symm n2)] at e4
        exact o.ne j k xs ys p q hjk e1 e2 e3 e4
/-- a slot is forgotten -/
theorem Ok.wipe (o : Ok K B0 H0 B es σ H) (i : Nat) (ov : Option V) : Ok K B0 H0 B (es.set i .no) (σ.set i ov) H := by
  refine ⟨o.st, by rw [List.length_set, List.length_set, o.len], fun j s e => ?_, fun j k xs ys p q hjk e1 e2 e3 e4 => ?_⟩
  · rcases set_get e with ⟨rfl, rfl, hl⟩ | ⟨hne, e⟩
    · exact ⟨ov, List.getElem?_set_self (by rw [← o.len]; exact hl), trivial⟩
    · obtain ⟨ov, e1, h1⟩ := o.sl j s e
      exact ⟨ov, by rw [List.getElem?_set_ne (Ne.symm hne)]; exact e1, h1⟩
  · rcases set_get e1 with ⟨rfl, z, _⟩ | ⟨n1, e1⟩
    · cases z
    · rcases set_get e2 with ⟨rfl, z, _⟩ | ⟨n2, e2⟩
      · cases z
      · rw [List.getElem?_set_ne (Ne.symm n1)] at e3
        rw [List.getElem?_set_ne (Ne.symm n2)] at e4
        exact o.ne j k xs ys p q hjk e1 e2 e3 e4
/-- a slot takes an open list that is new -/
theorem Ok.setMu (o : Ok K B0 H0 B es σ H) (i : Nat) {p : Addr} {vs : List V} {xs : List PyData} (hn : ∀ (j : Nat) ys, es[j]? = some (.mu ys) → σ[j]? ≠ some (some (.ref p))) (hb : B p = none) (h0 : H0 p = none) (hp : H p = some (.lst vs)) (ha : DpAll K B vs xs) :
    Ok K B0 H0 B (es.set i (.mu xs)) (σ.set i (some (.ref p))) H := by
  refine ⟨o.st, by rw [List.length_set, List.length_set, o.len], fun j s e => ?_, fun j k xs' ys p' q hjk e1 e2 e3 e4 => ?_⟩
  · rcases set_get e with ⟨rfl, rfl, hl⟩ | ⟨hne, e⟩
    · exact ⟨_, List.getElem?_set_self (by rw [← o.len]; exact hl), p, vs, rfl, hb, h0, hp, ha⟩
    · obtain ⟨ov, e1, h1⟩ := o.sl j s e
      exact ⟨ov, by rw [List.getElem?_set_ne (Ne.symm hne)]; exact e1, h1⟩
  · rcases set_get e1 with ⟨r1, z, hl⟩ | ⟨n1, f1⟩
    · rcases set_get e2 with ⟨r2, _, _⟩ | ⟨n2, f2⟩
      · exact absurd (r1.trans r2.symm) hjk
      · rw [r1, List.getElem?_set_self (by rw [← o.len]; exact hl)] at e3
        rw [List.getElem?_set_ne (Ne.symm n2)] at e4
        intro w
        subst w
        cases e3
        exact hn k ys f2 e4
    · rcases set_get e2 with ⟨r2, _, hl⟩ | ⟨n2, f2⟩
      · rw [r2, List.getElem?_set_self (by rw [← o.len]; exact hl)] at e4
        rw [List.getElem?_set_ne (Ne.symm n1)] at e3
        intro w
        subst w
        cases e4
        exact hn j xs' f1 e3
      · rw [List.getElem?_set_ne (Ne.symm n1)] at e3
        rw [List.getElem?_set_ne (Ne.symm n2)] at e4
        exact o.ne j k xs' ys p' q hjk f1 f2 e3 e4
/-- an open list is written -/
theorem Ok.write (o : Ok K B0 H0 B es σ H) {i : Nat} {p : Addr} {xs xs' : List PyData} {vs' : List V} (e : es[i]? = some (.mu xs)) (es' : σ[i]? = some (some (.ref p))) (ha : DpAll K B vs' xs') :
    Ok K B0 H0 B (es.set i (.mu xs')) σ (upd H p (.lst vs')) := by
  obtain ⟨p', vs, e1, hb, h0, hp, _⟩ := o.mu e
  rw [es'] at e1
  cases e1
  have hl : i < es.length := (List.getElem?_eq_some_iff.mp e).1
  refine ⟨⟨o.st.bb, fun b x q => ?_, fun b x q => ?_, o.st.fr⟩, by rw [List.length_set, o.len], fun j s ej => ?_, fun j k xs1 ys p' q hjk e1 e2 e3 e4 => ?_⟩
  · rw [upd_ne (ne_of_none q h0)]; exact o.st.hh _ _ q
  · rw [upd_ne (ne_of_none q hb)]; exact o.st.bh _ _ q
  · rcases set_get ej with ⟨rfl, rfl, _⟩ | ⟨hne, ej⟩
    · exact ⟨_, es', p, vs', rfl, hb, h0, upd_same, ha⟩
    · obtain ⟨ov, e1, h1⟩ := o.sl j s ej
      refine ⟨ov, e1, ?_⟩
      cases s with
      | no => trivial
      | im x => exact h1
      | mu ys =>
        obtain ⟨q, ws, rfl, b1, b2, b3, b4⟩ := h1
        refine ⟨q, ws, rfl, b1, b2, ?_, b4⟩
        rw [upd_ne (Ne.symm (o.ne i j xs ys p q (Ne.symm hne) e ej es' e1))]
        exact b3
  · have get1 : ∀ {j : Nat} {zs : List PyData}, (es.set i (.mu xs'))[j]? = some (.mu zs) → ∃ zs', es[j]? = some (.mu zs') := fun {j zs} h => by
      rcases set_get h with ⟨rfl, _, _⟩ | ⟨_, h⟩
      · exact ⟨_, e⟩
      · exact ⟨_, h⟩
    obtain ⟨_, f1⟩ := get1 e1
    obtain ⟨_, f2⟩ := get1 e2
    exact o.ne j k _ _ p' q hjk f1 f2 e3 e4
/-- an open list is shut: data from now on -/
theorem Ok.shut (o : Ok K B0 H0 B es σ H) {i : Nat} {xs : List PyData} (e : es[i]? = some (.mu xs)) : ∃ B', Same B B' ∧ Ok K B0 H0 B' (es.set i (.im (.d (.list xs)))) σ H := by
  obtain ⟨p, vs, e1, hb, h0, hp, ha⟩ := o.mu e
  refine ⟨upd B p (.lst vs), same_upd hb, o.st.shut h0 hb hp, by rw [List.length_set, o.len], fun j s ej => ?_, fun j k xs1 ys p' q hjk e1 e2 e3 e4 => ?_⟩
  · have sb : Same B (upd B p (.lst vs)) := same_upd hb
    rcases set_get ej with ⟨rfl, rfl, _⟩ | ⟨hne, ej⟩
    · exact ⟨_, e1, _, rfl, Dp.lst (SqL.of upd_same) (dpAllMono sb ha)⟩
    · obtain ⟨ov, f1, h1⟩ := o.sl j s ej
      refine ⟨ov, f1, ?_⟩
      cases s with
      | no => trivial
      | im x =>
        obtain ⟨v, rfl, h1⟩ := h1
        exact ⟨v, rfl, h1.mono sb (Same.refl _)⟩
      | mu ys =>
        obtain ⟨q, ws, rfl, b1, b2, b3, b4⟩ := h1
        refine ⟨q, ws, rfl, ?_, b2, b3, dpAllMono sb b4⟩
        rw [upd_ne (Ne.symm (o.ne i j xs ys p q (Ne.symm hne) e ej e1 f1))]
        exact b1
  · have get1 : ∀ {j : Nat} {zs : List PyData}, (es.set i (.im (.d (.list xs))))[j]? = some (.mu zs) → es[j]? = some (.mu zs) := fun {j zs} h => by
      rcases set_get h with ⟨_, z, _⟩ | ⟨_, h⟩
      · cases z
      · exact h
    exact o.ne j k _ _ p' q hjk (get1 e1) (get1 e2) e3 e4
end
end HM
end
section
/-! HM core 2: judgements over data, expressions -/
namespace HM
open PySem PySem.Spec PyProof.Rows L2

section
variable (K : PySem.W.Frag)
/-- an expression's reading comes to a value of P -/
def Ev (te : TE) (es : List Sl) (P : Dv → Prop) : Prop := ∀ (B0 H0 B : Hp) (σ : L2.St) (H : Hp), Ok K B0 H0 B es σ H → ∀ Q : VK,
  (∀ x v B2 H2, P x → Stp B H B2 H2 → DV K B2 H2 x v → Q v H2) → te σ H Q
/-- .. to a new list -/
def EvL (te : TE) (es : List Sl) (P : List PyData → Prop) : Prop := ∀ (B0 H0 B : Hp) (σ : L2.St) (H : Hp), Ok K B0 H0 B es σ H → ∀ Q : VK,
  (∀ xs p vs B2 H2, P xs → Stp B H B2 H2 → H p = none → B2 p = none → H2 p = some (.lst vs) → DpAll K B2 vs xs → Q (.ref p) H2) → te σ H Q
def EvA (ta : TA) (es : List Sl) (P : List Dv → Prop) : Prop := ∀ (B0 H0 B : Hp) (σ : L2.St) (H : Hp), Ok K B0 H0 B es σ H → ∀ Q : List V → Hp → Prop,
  (∀ xs vs B2 H2, P xs → Stp B H B2 H2 → DVs K B2 H2 xs vs → Q vs H2) → ta σ H Q
def EvT (tt : TT) (es : List Sl) (P : Bool → Prop) : Prop := ∀ (B0 H0 B : Hp) (σ : L2.St) (H : Hp), Ok K B0 H0 B es σ H → ∀ Q : Bool → Hp → Prop,
  (∀ b B2 H2, P b → Stp B H B2 H2 → Q b H2) → tt σ H Q
def EvO (to : TO) (es : List Sl) (P : Option Int → Prop) : Prop := ∀ (B0 H0 B : Hp) (σ : L2.St) (H : Hp), Ok K B0 H0 B es σ H → ∀ Q : Option Int → Hp → Prop,
  (∀ o B2 H2, P o → Stp B H B2 H2 → Q o H2) → to σ H Q
/-- an operation, by values -/
def Rv (r : R2) (x y : Dv) (P : Dv → Prop) : Prop := ∀ (B H : Hp) (v w : V), Same B H → DV K B H x v → DV K B H y w → ∀ Q : VK,
  (∀ z u B2 H2, P z → Stp B H B2 H2 → DV K B2 H2 z u → Q u H2) → r v w H Q
def RvL (r : R2) (x y : Dv) (P : List PyData → Prop) : Prop := ∀ (B H : Hp) (v w : V), Same B H → DV K B H x v → DV K B H y w → ∀ Q : VK,
  (∀ xs p vs B2 H2, P xs → Stp B H B2 H2 → H p = none → B2 p = none → H2 p = some (.lst vs) → DpAll K B2 vs xs → Q (.ref p) H2) → r v w H Q
/-- a call, by values -/
def Rc (r : List V → Hp → VK → Prop) (xs : List Dv) (P : Dv → Prop) : Prop := ∀ (B H : Hp) (vs : List V), Same B H → DVs K B H xs vs → ∀ Q : VK,
  (∀ z u B2 H2, P z → Stp B H B2 H2 → DV K B2 H2 z u → Q u H2) → r vs H Q
def RcL (r : List V → Hp → VK → Prop) (xs : List Dv) (P : List PyData → Prop) : Prop := ∀ (B H : Hp) (vs : List V), Same B H → DVs K B H xs vs → ∀ Q : VK,
  (∀ ys p ws B2 H2, P ys → Stp B H B2 H2 → H p = none → B2 p = none → H2 p = some (.lst ws) → DpAll K B2 ws ys → Q (.ref p) H2) → r vs H Q
/-- promises: from arguments of Pre to a value of Post; to a new list of Post -/
def spG (Pre : List Dv → Prop) (Post : List Dv → Dv → Prop) : Sp := fun vs H Q _ => ∃ B xs, Same B H ∧ DVs K B H xs vs ∧ Pre xs ∧ ∀ z u B2 H2, Post xs z → Stp B H B2 H2 → DV K B2 H2 z u → Q u H2
def spL (Pre : List Dv → Prop) (Post : List Dv → List PyData → Prop) : Sp := fun vs H Q _ => ∃ B xs, Same B H ∧ DVs K B H xs vs ∧ Pre xs ∧
  ∀ ys p ws B2 H2, Post xs ys → Stp B H B2 H2 → H p = none → B2 p = none → H2 p = some (.lst ws) → DpAll K B2 ws ys → Q (.ref p) H2
end

section
variable {K : PySem.W.Frag} {es : List Sl} {te ta tb tc : TE} {P P' Pa Pb : Dv → Prop} {x y z : Dv}
theorem Ev.imp (h : Ev K te es P) (k : ∀ x, P x → P' x) : Ev K te es P' := fun B0 H0 B σ H o Q q => h B0 H0 B σ H o Q fun x v B2 H2 p => q x v B2 H2 (k x p)
theorem EvL.imp {P P' : List PyData → Prop} (h : EvL K te es P) (k : ∀ x, P x → P' x) : EvL K te es P' := fun B0 H0 B σ H o Q q => h B0 H0 B σ H o Q fun x p vs B2 H2 hp => q x p vs B2 H2 (k x hp)
theorem EvT.imp {tt : TT} {P P' : Bool → Prop} (h : EvT K tt es P) (k : ∀ x, P x → P' x) : EvT K tt es P' := fun B0 H0 B σ H o Q q => h B0 H0 B σ H o Q fun x B2 H2 hp => q x B2 H2 (k x hp)
/-- a new list as data -/
theorem EvL.ev {P : List PyData → Prop} (h : EvL K te es P) : Ev K te es (fun x => ∃ xs, x = .d (.list xs) ∧ P xs) := fun B0 H0 B σ H o Q q =>
  h B0 H0 B σ H o Q fun xs p vs B2 H2 hP st h0 hb hp ha => q (.d (.list xs)) (.ref p) (upd B2 p (.lst vs)) H2 ⟨xs, rfl, hP⟩ (st.shut h0 hb hp) (Dp.lst (SqL.of upd_same) (dpAllMono (same_upd hb) ha))
theorem EvL.evd {xs : List PyData} (h : EvL K te es (· = xs)) : Ev K te es (· = .d (.list xs)) := h.ev.imp fun _ ⟨_, e, e'⟩ => by rw [e, e']
theorem ev_var {i : Nat} (e : es[i]? = some (.im x)) : Ev K (tVar i) es (· = x) := fun B0 H0 B σ H o Q q => by
  obtain ⟨v, e1, h⟩ := o.at e
  exact ⟨v, e1, q x v B H rfl (Stp.refl o.bh) h⟩
/-- an open list of a slot, as it stands -/
theorem ev_mu {i : Nat} {xs : List PyData} (e : es[i]? = some (.mu xs)) : Ev K (tVar i) es (· = .t (.list xs)) := fun B0 H0 B σ H o Q q => by
  obtain ⟨p, vs, e1, hb, h0, hp, ha⟩ := o.mu e
  exact ⟨_, e1, q (.t (.list xs)) _ B H rfl (Stp.refl o.bh) (Dp.lst (SqL.of hp) (dpAllMono o.bh ha))⟩
theorem ev_int {n : Int} : Ev K (tC (.int n)) es (· = .d (.int n)) := fun B0 H0 B σ H o Q q => q _ _ B H rfl (Stp.refl o.bh) (.int n)
theorem ev_bl {b : Bool} : Ev K (tC (.bl b)) es (· = .d (.bool b)) := fun B0 H0 B σ H o Q q => q _ _ B H rfl (Stp.refl o.bh) (.bl b)
theorem ev_non : Ev K (tC .non) es (· = .d .none) := fun B0 H0 B σ H o Q q => q _ _ B H rfl (Stp.refl o.bh) .non
theorem ev_str {w : Str} : Ev K (tC (.str w)) es (· = .d (.str w)) := fun B0 H0 B σ H o Q q => q _ _ B H rfl (Stp.refl o.bh) (.str w)
theorem ev_raw {v : V} : Ev K (tC v) es (· = .raw v) := fun B0 H0 B σ H o Q q => q _ _ B H rfl (Stp.refl o.bh) rfl
theorem ev_op {r : R2} (ha : Ev K ta es Pa) (hb : Ev K tb es Pb) (hr : ∀ x y, Pa x → Pb y → Rv K r x y P) : Ev K (tOp r ta tb) es P := fun B0 H0 B σ H o Q q =>
  ha B0 H0 B σ H o _ fun x v B1 H1 px s1 d1 => hb B0 H0 B1 σ H1 (o.mono s1) _ fun y w B2 H2 py s2 d2 =>
    hr x y px py B2 H2 v w s2.bh (d1.mono s2.bb s2.hh) d2 Q fun z u B3 H3 pz s3 d3 => q z u B3 H3 pz (s1.trans (s2.trans s3)) d3
theorem ev_opd {r : R2} (ha : Ev K ta es (· = x)) (hb : Ev K tb es (· = y)) (hr : Rv K r x y P) : Ev K (tOp r ta tb) es P := ev_op ha hb fun _ _ e1 e2 => by rw [e1, e2]; exact hr
theorem ev_opL {r : R2} {P : List PyData → Prop} (ha : Ev K ta es Pa) (hb : Ev K tb es Pb) (hr : ∀ x y, Pa x → Pb y → RvL K r x y P) : EvL K (tOp r ta tb) es P := fun B0 H0 B σ H o Q q =>
  ha B0 H0 B σ H o _ fun x v B1 H1 px s1 d1 => hb B0 H0 B1 σ H1 (o.mono s1) _ fun y w B2 H2 py s2 d2 =>
    hr x y px py B2 H2 v w s2.bh (d1.mono s2.bb s2.hh) d2 Q fun z p u B3 H3 pz s3 h0 => q z p u B3 H3 pz (s1.trans (s2.trans s3)) (s1.hh.free (s2.hh.free h0))
theorem ev_opLd {r : R2} {P : List PyData → Prop} (ha : Ev K ta es (· = x)) (hb : Ev K tb es (· = y)) (hr : RvL K r x y P) : EvL K (tOp r ta tb) es P := ev_opL ha hb fun _ _ e1 e2 => by rw [e1, e2]; exact hr
theorem ea_nil : EvA K tNil es (· = []) := fun B0 H0 B σ H o Q q => q [] [] B H rfl (Stp.refl o.bh) .nil
theorem ea_cons {t : TA} {Pt : List Dv → Prop} (h : Ev K te es P) (ht : EvA K t es Pt) : EvA K (tCons te t) es (fun l => ∃ x xs, l = x :: xs ∧ P x ∧ Pt xs) := fun B0 H0 B σ H o Q q =>
  h B0 H0 B σ H o _ fun x v B1 H1 px s1 d1 => ht B0 H0 B1 σ H1 (o.mono s1) _ fun xs vs B2 H2 pxs s2 d2 => q (x :: xs) (v :: vs) B2 H2 ⟨x, xs, rfl, px, pxs⟩ (s1.trans s2) (.cons (d1.mono s2.bb s2.hh) d2)
theorem ea_consd {t : TA} {xs : List Dv} (h : Ev K te es (· = x)) (ht : EvA K t es (· = xs)) : EvA K (tCons te t) es (· = x :: xs) := fun B0 H0 B σ H o Q q =>
  ea_cons h ht B0 H0 B σ H o Q fun l vs B2 H2 ⟨y, ys, e, e1, e2⟩ => q l vs B2 H2 (by rw [e, e1, e2])
theorem EvA.imp {t : TA} {P P' : List Dv → Prop} (h : EvA K t es P) (k : ∀ x, P x → P' x) : EvA K t es P' := fun B0 H0 B σ H o Q q => h B0 H0 B σ H o Q fun x vs B2 H2 hp => q x vs B2 H2 (k x hp)
theorem ev_cb {r : List V → Hp → VK → Prop} {t : TA} {Pt : List Dv → Prop} (ht : EvA K t es Pt) (hr : ∀ xs, Pt xs → Rc K r xs P) : Ev K (tCB r t) es P := fun B0 H0 B σ H o Q q =>
  ht B0 H0 B σ H o _ fun xs vs B1 H1 px s1 d1 => hr xs px B1 H1 vs s1.bh d1 Q fun z u B2 H2 pz s2 d2 => q z u B2 H2 pz (s1.trans s2) d2
theorem ev_cbd {r : List V → Hp → VK → Prop} {t : TA} {xs : List Dv} (ht : EvA K t es (· = xs)) (hr : Rc K r xs P) : Ev K (tCB r t) es P := ev_cb ht fun _ e => by rw [e]; exact hr
theorem ev_cbL {r : List V → Hp → VK → Prop} {t : TA} {Pt : List Dv → Prop} {P : List PyData → Prop} (ht : EvA K t es Pt) (hr : ∀ xs, Pt xs → RcL K r xs P) : EvL K (tCB r t) es P := fun B0 H0 B σ H o Q q =>
  ht B0 H0 B σ H o _ fun xs vs B1 H1 px s1 d1 => hr xs px B1 H1 vs s1.bh d1 Q fun z p u B2 H2 pz s2 h0 => q z p u B2 H2 pz (s1.trans s2) (s1.hh.free h0)
theorem ev_cbLd {r : List V → Hp → VK → Prop} {t : TA} {xs : List Dv} {P : List PyData → Prop} (ht : EvA K t es (· = xs)) (hr : RcL K r xs P) : EvL K (tCB r t) es P := ev_cbL ht fun _ e => by rw [e]; exact hr
/-! calls of defs -/
theorem ev_call {Pre : List Dv → Prop} {Post : List Dv → Dv → Prop} {t : TA} {Pt : List Dv → Prop} {E : XK} (ht : EvA K t es Pt) (hp : ∀ xs, Pt xs → Pre xs ∧ ∀ z, Post xs z → P z) : Ev K (tCall (spG K Pre Post) [] E t) es P := fun B0 H0 B σ H o Q q =>
  ht B0 H0 B σ H o _ fun xs vs B1 H1 px s1 d1 => by
    show spG K Pre Post (vs ++ []) H1 Q E
    rw [List.append_nil]
    exact ⟨B1, xs, s1.bh, d1, (hp xs px).1, fun z u B2 H2 pz s2 d2 => q z u B2 H2 ((hp xs px).2 z pz) (s1.trans s2) d2⟩
theorem ev_calld {Pre : List Dv → Prop} {Post : List Dv → Dv → Prop} {t : TA} {xs : List Dv} {E : XK} (ht : EvA K t es (· = xs)) (hp : Pre xs) (hq : ∀ z, Post xs z → P z) : Ev K (tCall (spG K Pre Post) [] E t) es P := ev_call ht fun _ e => by rw [e]; exact ⟨hp, hq⟩
theorem ev_callL {Pre : List Dv → Prop} {Post : List Dv → List PyData → Prop} {t : TA} {Pt : List Dv → Prop} {P : List PyData → Prop} {E : XK} (ht : EvA K t es Pt) (hp : ∀ xs, Pt xs → Pre xs ∧ ∀ z, Post xs z → P z) : EvL K (tCall (spL K Pre Post) [] E t) es P := fun B0 H0 B σ H o Q q =>
  ht B0 H0 B σ H o _ fun xs vs B1 H1 px s1 d1 => by
    show spL K Pre Post (vs ++ []) H1 Q E
    rw [List.append_nil]
    exact ⟨B1, xs, s1.bh, d1, (hp xs px).1, fun z p u B2 H2 pz s2 h0 => q z p u B2 H2 ((hp xs px).2 z pz) (s1.trans s2) (s1.hh.free h0)⟩
theorem ev_callLd {Pre : List Dv → Prop} {Post : List Dv → List PyData → Prop} {t : TA} {xs : List Dv} {P : List PyData → Prop} {E : XK} (ht : EvA K t es (· = xs)) (hp : Pre xs) (hq : ∀ z, Post xs z → P z) : EvL K (tCall (spL K Pre Post) [] E t) es P := ev_callL ht fun _ e => by rw [e]; exact ⟨hp, hq⟩
/-! displays -/
/-- data, one for one -/
inductive AllD : List Dv → List PyData → Prop
  | nil : AllD [] []
  | cons {d : PyData} {xs : List Dv} {ds : List PyData} : AllD xs ds → AllD (.d d :: xs) (d :: ds)
theorem AllD.vals {B H : Hp} : ∀ {xs : List Dv} {ds : List PyData} {vs : List V}, AllD xs ds → DVs K B H xs vs → DpAll K B vs ds
  | _, _, _, .nil, .nil => .nil
  | _, _, _, .cons a, .cons h t => .cons h (AllD.vals a t)
theorem allD_len : ∀ {xs : List Dv} {ds : List PyData}, AllD xs ds → xs.length = ds.length
  | _, _, .nil => rfl
  | _, _, .cons a => by simp [allD_len a]
theorem dvs_len {B H : Hp} {xs : List Dv} {vs : List V} (h : DVs K B H xs vs) : xs.length = vs.length := Paired.length h
theorem line_le {n : Nat} (h : n ≤ 16777216) : n ≤ sizeLine := by rw [sizeLine_eq]; exact h
theorem line_lt {n : Nat} (h : n < 16777216) : n < sizeLine := by rw [sizeLine_eq]; exact h
theorem ev_tup {t : TA} {Pt : List Dv → Prop} (ht : EvA K t es Pt) (hp : ∀ xs, Pt xs → ∃ ds, AllD xs ds ∧ ds.length ≤ 1000000 ∧ P (.d (.tuple ds))) : Ev K (tTup t) es P := fun B0 H0 B σ H o Q q =>
  ht B0 H0 B σ H o _ fun xs vs B1 H1 px s1 d1 => by
    obtain ⟨ds, ad, hl, hP⟩ := hp xs px
    have ha := ad.vals d1
    refine ⟨line_le (by rw [dpAll_len ha]; omega), fun p np => ?_⟩
    exact q _ _ (upd B1 p (.tup vs)) _ hP (s1.trans (Stp.new s1.bh np)) (Dp.tup (SqT.of upd_same) (dpAllMono (same_upd (s1.bh.free np)) ha))
theorem ev_tupd {t : TA} {xs : List Dv} {ds : List PyData} (ht : EvA K t es (· = xs)) (ad : AllD xs ds) (hl : ds.length ≤ 1000000) : Ev K (tTup t) es (· = .d (.tuple ds)) := ev_tup ht fun _ e => ⟨ds, by rw [e]; exact ad, hl, rfl⟩
theorem ev_lst {t : TA} {Pt : List Dv → Prop} {P : List PyData → Prop} (ht : EvA K t es Pt) (hp : ∀ xs, Pt xs → ∃ ds, AllD xs ds ∧ ds.length ≤ 1000000 ∧ P ds) : EvL K (tLst t) es P := fun B0 H0 B σ H o Q q =>
  ht B0 H0 B σ H o _ fun xs vs B1 H1 px s1 d1 => by
    obtain ⟨ds, ad, hl, hP⟩ := hp xs px
    have ha := ad.vals d1
    refine ⟨line_le (by rw [dpAll_len ha]; omega), fun p np => ?_⟩
    exact q ds p vs B1 _ hP (s1.trans (Stp.open s1.bh np)) (s1.hh.free np) (s1.bh.free np) upd_same ha
theorem ev_lstd {t : TA} {xs : List Dv} {ds : List PyData} (ht : EvA K t es (· = xs)) (ad : AllD xs ds) (hl : ds.length ≤ 1000000) : EvL K (tLst t) es (· = ds) := ev_lst ht fun _ e => ⟨ds, by rw [e]; exact ad, hl, rfl⟩
/-! tests -/
theorem et_test {Pb : Bool → Prop} (h : Ev K te es (fun x => ∃ b, x = .d (.bool b) ∧ Pb b)) : EvT K (tTest te) es Pb := fun B0 H0 B σ H o Q q =>
  h B0 H0 B σ H o _ fun x v B1 H1 ⟨b, e, pb⟩ s1 d1 => by
    subst e
    cases d1
    exact ⟨b, rfl, q b B1 H1 pb s1⟩
theorem et_testd {b : Bool} (h : Ev K te es (· = .d (.bool b))) : EvT K (tTest te) es (· = b) := et_test (h.imp fun _ e => ⟨b, e, rfl⟩)
theorem et_B {Pb : Bool → Prop} (h : Ev K te es (fun x => ∃ b, x = .d (.bool b) ∧ Pb b)) : EvT K (tB te) es Pb := fun B0 H0 B σ H o Q q =>
  h B0 H0 B σ H o _ fun x v B1 H1 ⟨b, e, pb⟩ s1 d1 => by
    subst e
    cases d1
    exact ⟨b, rfl, q b B1 H1 pb s1⟩
theorem et_Bd {b : Bool} (h : Ev K te es (· = .d (.bool b))) : EvT K (tB te) es (· = b) := et_B (h.imp fun _ e => ⟨b, e, rfl⟩)
theorem et_not {t : TT} {Pb : Bool → Prop} (h : EvT K t es (fun b => Pb (!b))) : EvT K (tNot t) es Pb := fun B0 H0 B σ H o Q q => h B0 H0 B σ H o _ fun b B1 H1 pb s1 => q (!b) B1 H1 pb s1
theorem et_notd {t : TT} {b : Bool} (h : EvT K t es (· = b)) : EvT K (tNot t) es (· = !b) := et_not (h.imp fun _ e => by rw [e])
theorem et_and {t u : TT} {Pt Pb : Bool → Prop} (h : EvT K t es Pt) (h0 : Pt false → Pb false) (h1 : Pt true → EvT K u es Pb) : EvT K (tAnd t u) es Pb := fun B0 H0 B σ H o Q q =>
  h B0 H0 B σ H o _ fun b B1 H1 pb s1 => by
    cases b with
    | false => rw [if_neg Bool.false_ne_true]; exact q false B1 H1 (h0 pb) s1
    | true => rw [if_pos rfl]; exact h1 pb B0 H0 B1 σ H1 (o.mono s1) Q fun c B2 H2 pc s2 => q c B2 H2 pc (s1.trans s2)
theorem et_or {t u : TT} {Pt Pb : Bool → Prop} (h : EvT K t es Pt) (h0 : Pt true → Pb true) (h1 : Pt false → EvT K u es Pb) : EvT K (tOr t u) es Pb := fun B0 H0 B σ H o Q q =>
  h B0 H0 B σ H o _ fun b B1 H1 pb s1 => by
    cases b with
    | true => rw [if_pos rfl]; exact q true B1 H1 (h0 pb) s1
    | false => rw [if_neg Bool.false_ne_true]; exact h1 pb B0 H0 B1 σ H1 (o.mono s1) Q fun c B2 H2 pc s2 => q c B2 H2 pc (s1.trans s2)
theorem et_andd {t u : TT} {a b : Bool} (h : EvT K t es (· = a)) (h1 : a = true → EvT K u es (· = b)) : EvT K (tAnd t u) es (· = (a && b)) :=
  et_and h (fun e => by rw [← e]; rfl) fun e => (h1 e.symm).imp fun _ e' => by rw [e', ← e]; rfl
theorem et_ord {t u : TT} {a b : Bool} (h : EvT K t es (· = a)) (h1 : a = false → EvT K u es (· = b)) : EvT K (tOr t u) es (· = (a || b)) :=
  et_or h (fun e => by rw [← e]; rfl) fun e => (h1 e.symm).imp fun _ e' => by rw [e', ← e]; rfl
theorem ev_andV {Pb : Bool → Prop} (h : Ev K ta es (fun x => ∃ b, x = .d (.bool b) ∧ Pb b)) (h0 : Pb false → P (.d (.bool false))) (h1 : Pb true → Ev K tb es P) : Ev K (tAndV ta tb) es P := fun B0 H0 B σ H o Q q =>
  h B0 H0 B σ H o _ fun x v B1 H1 ⟨b, e, pb⟩ s1 d1 => by
    subst e
    cases d1
    refine ⟨b, rfl, ?_⟩
    cases b with
    | false => rw [if_neg Bool.false_ne_true]; exact q _ _ B1 H1 (h0 pb) s1 (.bl false)
    | true => rw [if_pos rfl]; exact h1 pb B0 H0 B1 σ H1 (o.mono s1) Q fun c u B2 H2 pc s2 => q c u B2 H2 pc (s1.trans s2)
theorem ev_andd {a b : Bool} (h : Ev K ta es (· = .d (.bool a))) (h1 : a = true → Ev K tb es (· = .d (.bool b))) : Ev K (tAndV ta tb) es (· = .d (.bool (a && b))) :=
  ev_andV (Pb := (· = a)) (h.imp fun _ e => ⟨a, e, rfl⟩) (fun e => by rw [← e]; rfl) fun e => (h1 e.symm).imp fun _ e' => by rw [e', ← e]; rfl
theorem ev_orV {Pb : Bool → Prop} (h : Ev K ta es (fun x => ∃ b, x = .d (.bool b) ∧ Pb b)) (h0 : Pb true → P (.d (.bool true))) (h1 : Pb false → Ev K tb es P) : Ev K (tOrV ta tb) es P := fun B0 H0 B σ H o Q q =>
  h B0 H0 B σ H o _ fun x v B1 H1 ⟨b, e, pb⟩ s1 d1 => by
    subst e
    cases d1
    refine ⟨b, rfl, ?_⟩
    cases b with
    | true => rw [if_pos rfl]; exact q _ _ B1 H1 (h0 pb) s1 (.bl true)
    | false => rw [if_neg Bool.false_ne_true]; exact h1 pb B0 H0 B1 σ H1 (o.mono s1) Q fun c u B2 H2 pc s2 => q c u B2 H2 pc (s1.trans s2)
theorem ev_ord {a b : Bool} (h : Ev K ta es (· = .d (.bool a))) (h1 : a = false → Ev K tb es (· = .d (.bool b))) : Ev K (tOrV ta tb) es (· = .d (.bool (a || b))) :=
  ev_orV (Pb := (· = a)) (h.imp fun _ e => ⟨a, e, rfl⟩) (fun e => by rw [← e]; rfl) fun e => (h1 e.symm).imp fun _ e' => by rw [e', ← e]; rfl
theorem ev_notV {Pb : Bool → Prop} (h : Ev K ta es (fun x => ∃ b, x = .d (.bool b) ∧ P (.d (.bool (!b))))) : Ev K (tNotV ta) es P := fun B0 H0 B σ H o Q q =>
  h B0 H0 B σ H o _ fun x v B1 H1 ⟨b, e, pb⟩ s1 d1 => by
    subst e
    cases d1
    exact ⟨b, rfl, q _ _ B1 H1 pb s1 (.bl _)⟩
theorem ev_notd {a : Bool} (h : Ev K ta es (· = .d (.bool a))) : Ev K (tNotV ta) es (· = .d (.bool (!a))) := ev_notV (Pb := fun _ => True) (h.imp fun _ e => ⟨a, e, rfl⟩)
theorem ev_if {t : TT} {Pb : Bool → Prop} (h : EvT K t es Pb) (h1 : Pb true → Ev K ta es P) (h0 : Pb false → Ev K tb es P) : Ev K (tIf t ta tb) es P := fun B0 H0 B σ H o Q q =>
  h B0 H0 B σ H o _ fun b B1 H1 pb s1 => by
    cases b with
    | true => rw [if_pos rfl]; exact h1 pb B0 H0 B1 σ H1 (o.mono s1) Q fun c u B2 H2 pc s2 => q c u B2 H2 pc (s1.trans s2)
    | false => rw [if_neg Bool.false_ne_true]; exact h0 pb B0 H0 B1 σ H1 (o.mono s1) Q fun c u B2 H2 pc s2 => q c u B2 H2 pc (s1.trans s2)
/-- a < b < c -/
theorem ev_chain {r r' : R2} {x y z : Dv} {a b : Bool} (ha : Ev K ta es (· = x)) (hb : Ev K tb es (· = y)) (hr : Rv K r x y (· = .d (.bool a))) (hc : a = true → Ev K tc es (· = z)) (hr' : a = true → Rv K r' y z (· = .d (.bool b))) :
    Ev K (tChain r r' ta tb tc) es (· = .d (.bool (a && b))) := fun B0 H0 B σ H o Q q =>
  ha B0 H0 B σ H o _ fun x' v B1 H1 px s1 d1 => hb B0 H0 B1 σ H1 (o.mono s1) _ fun y' w B2 H2 py s2 d2 => by
    subst px; subst py
    refine hr B2 H2 v w s2.bh (d1.mono s2.bb s2.hh) d2 _ fun z' u B3 H3 pz s3 d3 => ?_
    subst pz
    cases d3
    refine ⟨a, rfl, ?_⟩
    cases a with
    | false => rw [if_neg Bool.false_ne_true]; exact q _ _ B3 H3 rfl (s1.trans (s2.trans s3)) (.bl false)
    | true =>
      rw [if_pos rfl]
      refine hc rfl B0 H0 B3 σ H3 (o.mono (s1.trans (s2.trans s3))) _ fun z2 u2 B4 H4 pz2 s4 d4 => ?_
      subst pz2
      exact hr' rfl B4 H4 w u2 s4.bh (d2.mono (s3.bb.trans s4.bb) (s3.hh.trans s4.hh)) d4 Q fun z5 u5 B5 H5 pz5 s5 d5 => q z5 u5 B5 H5 pz5 (s1.trans (s2.trans (s3.trans (s4.trans s5)))) d5
/-! parts of a slice -/
theorem eo_none : EvO K tNoPart es (· = none) := fun B0 H0 B σ H o Q q => q none B H rfl (Stp.refl o.bh)
theorem eo_some {Pn : Int → Prop} (h : Ev K te es (fun x => ∃ n, x = .d (.int n) ∧ Pn n)) : EvO K (tPart te) es (fun o => ∃ n, o = some n ∧ Pn n) := fun B0 H0 B σ H o Q q =>
  h B0 H0 B σ H o _ fun x v B1 H1 ⟨n, e, pn⟩ s1 d1 => by
    subst e
    cases d1
    exact ⟨n, rfl, q (some n) B1 H1 ⟨n, rfl, pn⟩ s1⟩
theorem eo_somed {n : Int} (h : Ev K te es (· = .d (.int n))) : EvO K (tPart te) es (· = some n) := fun B0 H0 B σ H o Q q => eo_some (Pn := (· = n)) (h.imp fun _ e => ⟨n, e, rfl⟩) B0 H0 B σ H o Q fun ov B1 H1 ⟨m, e, e'⟩ => q ov B1 H1 (by rw [e, e'])
end
end HM
end
section
/-! HM core 3: statements, loops, comprehensions, defs -/
namespace HM
open PySem PySem.Spec PyProof.Rows L2

/-- what is wanted behind a statement: of the slots; of what is returned (a value, a new list) -/
structure Pst where
  nx : List Sl → Prop
  rt : Dv → Prop := fun _ => False
  rl : List PyData → Prop := fun _ => False
  rx : List Sl → Dv → Prop := fun _ _ => False
  bk : List Sl → Prop := fun _ => False
  ct : List Sl → Prop := fun _ => False
structure Goes (K : PySem.W.Frag) (B0 H0 B : Hp) (p : Pst) (D : Ends) : Prop where
  nx : ∀ es B1 σ H, p.nx es → Same B B1 → Ok K B0 H0 B1 es σ H → D.nx σ H
  rt : ∀ z v B1 H, p.rt z → Stp B0 H0 B1 H → DV K B1 H z v → D.rt v H
  rl : ∀ xs q vs B1 H, p.rl xs → Stp B0 H0 B1 H → H0 q = none → B1 q = none → H q = some (.lst vs) → DpAll K B1 vs xs → D.rt (.ref q) H
  rx : ∀ es z v B1 σ H, p.rx es z → Ok K B0 H0 B1 es σ H → DV K B1 H z v → D.rt v H
  bk : ∀ es B1 σ H, p.bk es → Same B B1 → Ok K B0 H0 B1 es σ H → D.bk σ H
  ct : ∀ es B1 σ H, p.ct es → Same B B1 → Ok K B0 H0 B1 es σ H → D.ct σ H
theorem Goes.mono {K : PySem.W.Frag} {B0 H0 B B' : Hp} {p : Pst} {D : Ends} (g : Goes K B0 H0 B p D) (e : Same B B') : Goes K B0 H0 B' p D :=
  ⟨fun es B1 σ H m q => g.nx es B1 σ H m (e.trans q), g.rt, g.rl, g.rx, fun es B1 σ H m q => g.bk es B1 σ H m (e.trans q), fun es B1 σ H m q => g.ct es B1 σ H m (e.trans q)⟩
def Sx (K : PySem.W.Frag) (ts : TS) (es : List Sl) (p : Pst) : Prop := ∀ (B0 H0 B : Hp) (σ : L2.St) (H : Hp) (D : Ends), Ok K B0 H0 B es σ H → Goes K B0 H0 B p D → ts D σ H
/-- a value that may be kept in a slot -/
def Stay : Dv → Prop
  | .t _ => False
  | _ => True
theorem DV.stay {K : PySem.W.Frag} {B H H0 : Hp} : ∀ {x : Dv} {v : V}, Stay x → DV K B H x v → DV K B H0 x v
  | .d _, _, _, h => h
  | .pot, _, _, h => h
  | .raw _, _, _, h => h
  | .row _, _, _, h => h
  | .z _, _, _, h => h
section
variable {K : PySem.W.Frag} {es es' : List Sl} {te ta tb : TE} {t u : TS} {p : Pst} {P : Dv → Prop}
theorem sx_next (h : p.nx es) : Sx K tNext es p := fun B0 H0 B σ H D o g => g.nx es B σ H h (Same.refl _) o
theorem sx_break (h : p.bk es) : Sx K tBreak es p := fun B0 H0 B σ H D o g => g.bk es B σ H h (Same.refl _) o
theorem sx_cont (h : p.ct es) : Sx K tCont es p := fun B0 H0 B σ H D o g => g.ct es B σ H h (Same.refl _) o
theorem sx_seq {M : List Sl → Prop} (h : Sx K t es { p with nx := M }) (k : ∀ es', M es' → Sx K u es' p) : Sx K (tSeq t u) es p := fun B0 H0 B σ H D o g =>
  h B0 H0 B σ H _ o ⟨fun es' B' σ' H' m e o' => k es' m B0 H0 B' σ' H' D o' (g.mono e), g.rt, g.rl, g.rx, g.bk, g.ct⟩
theorem sx_seqd (h : Sx K t es { p with nx := (· = es') }) (k : Sx K u es' p) : Sx K (tSeq t u) es p := sx_seq h fun _ e => by rw [e]; exact k
theorem Sx.imp {p' : Pst} (h : Sx K t es p) (a : ∀ es, p.nx es → p'.nx es) (b : ∀ z, p.rt z → p'.rt z) (c : ∀ z, p.rl z → p'.rl z) (c' : ∀ e z, p.rx e z → p'.rx e z) (d : ∀ es, p.bk es → p'.bk es) (e : ∀ es, p.ct es → p'.ct es) : Sx K t es p' := fun B0 H0 B σ H D o g =>
  h B0 H0 B σ H D o ⟨fun es B σ H m => g.nx es B σ H (a es m), fun z v B H m => g.rt z v B H (b z m), fun z q v B H m => g.rl z q v B H (c z m), fun e z v B σ H m => g.rx e z v B σ H (c' e z m), fun es B σ H m => g.bk es B σ H (d es m), fun es B σ H m => g.ct es B σ H (e es m)⟩
theorem sx_set {i : Nat} (h : Ev K te es P) (k : ∀ x, P x → Stay x ∧ p.nx (es.set i (.im x))) : Sx K (tAsg te (gName i)) es p := fun B0 H0 B σ H D o g =>
  h B0 H0 B σ H o _ fun x v B1 H1 px s1 d1 => g.nx _ B1 _ H1 (k x px).2 s1.bb ((o.mono s1).set i (d1.stay (k x px).1))
theorem sx_setd {i : Nat} {x : Dv} (h : Ev K te es (· = x)) (s : Stay x) (k : p.nx (es.set i (.im x))) : Sx K (tAsg te (gName i)) es p := sx_set h fun _ e => by rw [e]; exact ⟨s, k⟩
theorem sx_setL {i : Nat} {P : List PyData → Prop} (h : EvL K te es P) (k : ∀ xs, P xs → p.nx (es.set i (.mu xs))) : Sx K (tAsg te (gName i)) es p := fun B0 H0 B σ H D o g =>
  h B0 H0 B σ H o _ fun xs q vs B1 H1 px s1 h0 hb hp ha => g.nx _ B1 _ H1 (k xs px) s1.bb ((o.mono s1).setMu i (fun j ys e e2 => by
    obtain ⟨q', ws, e3, _, _, e4, _⟩ := o.mu e
    rw [e2] at e3
    cases e3
    rw [h0] at e4
    cases e4) hb (o.st.hh.free h0) hp ha)
theorem sx_setLd {i : Nat} {xs : List PyData} (h : EvL K te es (· = xs)) (k : p.nx (es.set i (.mu xs))) : Sx K (tAsg te (gName i)) es p := sx_setL h fun _ e => by rw [e]; exact k
/-- an open list is shut -/
theorem sx_shut (i : Nat) {xs : List PyData} (e : es[i]? = some (.mu xs)) (h : Sx K t (es.set i (.im (.d (.list xs)))) p) : Sx K t es p := fun B0 H0 B σ H D o g => by
  obtain ⟨B', sb, o'⟩ := o.shut e
  exact h B0 H0 B' σ H D o' (g.mono sb)
theorem sx_ret (h : Ev K te es P) (k : ∀ x, P x → p.rt x) : Sx K (tRet te) es p := fun B0 H0 B σ H D o g =>
  h B0 H0 B σ H o _ fun x v B1 H1 px s1 d1 => g.rt x v B1 H1 (k x px) (o.st.trans s1) d1
theorem sx_retd {x : Dv} (h : Ev K te es (· = x)) (k : p.rt x) : Sx K (tRet te) es p := sx_ret h fun _ e => by rw [e]; exact k
theorem sx_retL {P : List PyData → Prop} (h : EvL K te es P) (k : ∀ xs, P xs → p.rl xs) : Sx K (tRet te) es p := fun B0 H0 B σ H D o g =>
  h B0 H0 B σ H o _ fun xs q vs B1 H1 px s1 h0 hb hp ha => g.rl xs q vs B1 H1 (k xs px) (o.st.trans s1) (o.st.hh.free h0) hb hp ha
theorem sx_retX (h : Ev K te es P) (k : ∀ x, P x → p.rx es x) : Sx K (tRet te) es p := fun B0 H0 B σ H D o g =>
  h B0 H0 B σ H o _ fun x v B1 H1 px s1 d1 => g.rx es x v B1 σ H1 (k x px) (o.mono s1) d1
/-- an open list is returned -/
theorem sx_retMu {i : Nat} {xs : List PyData} (e : es[i]? = some (.mu xs)) (k : p.rl xs) : Sx K (tRet (tVar i)) es p := fun B0 H0 B σ H D o g => by
  obtain ⟨q, vs, e1, hb, h0, hp, ha⟩ := o.mu e
  exact ⟨_, e1, g.rl xs q vs B H k o.st h0 hb hp ha⟩
theorem sx_if {c : TT} {Pb : Bool → Prop} (h : EvT K c es Pb) (h1 : Pb true → Sx K t es p) (h0 : Pb false → Sx K u es p) : Sx K (tIfS c t u) es p := fun B0 H0 B σ H D o g =>
  h B0 H0 B σ H o _ fun b B1 H1 pb s1 => by
    cases b with
    | true => rw [if_pos rfl]; exact h1 pb B0 H0 B1 σ H1 D (o.mono s1) (g.mono s1.bb)
    | false => rw [if_neg Bool.false_ne_true]; exact h0 pb B0 H0 B1 σ H1 D (o.mono s1) (g.mono s1.bb)
theorem sx_drop (h : Ev K te es P) (k : p.nx es) : Sx K (tDrop te) es p := fun B0 H0 B σ H D o g => h B0 H0 B σ H o _ fun x v B1 H1 px s1 d1 => g.nx es B1 σ H1 k s1.bb (o.mono s1)
theorem sx_app {i : Nat} {xs : List PyData} (e : es[i]? = some (.mu xs)) (h : Ev K te es P) (hl : xs.length < 8000000) (k : ∀ x, P x → ∃ d, x = .d d ∧ p.nx (es.set i (.mu (xs ++ [d])))) :
    Sx K (tDrop (tBM K "list" rAppend (tVar i) (tCons te tNil))) es p := fun B0 H0 B σ H D o g => by
  obtain ⟨q, vs, e1, hb, h0, hp, ha⟩ := o.mu e
  refine ⟨_, e1, .inl ⟨rfl, _, SqL.of hp⟩, h B0 H0 B σ H o _ fun x v B1 H1 px s1 d1 => ?_⟩
  obtain ⟨d, rfl, kx⟩ := k x px
  have o1 := o.mono s1
  obtain ⟨q', vs', e1', _, _, hp', ha'⟩ := o1.mu e
  rw [e1] at e1'
  cases e1'
  refine ⟨q, vs', v, rfl, rfl, hp', line_lt (by rw [dpAll_len ha']; omega), ?_⟩
  exact g.nx _ B1 σ _ kx s1.bb (o1.write e e1 (dpAll_app ha' (.cons d1 .nil)))
theorem sx_ext {i : Nat} {xs : List PyData} {P : List PyData → Prop} (e : es[i]? = some (.mu xs)) (h : EvL K te es P) (hl : xs.length < 8000000) (k : ∀ ys, P ys → ys.length < 8000000 ∧ p.nx (es.set i (.mu (xs ++ ys)))) :
    Sx K (tDrop (tBM K "list" rExtend (tVar i) (tCons te tNil))) es p := fun B0 H0 B σ H D o g => by
  obtain ⟨q, vs, e1, hb, h0, hp, ha⟩ := o.mu e
  refine ⟨_, e1, .inl ⟨rfl, _, SqL.of hp⟩, h B0 H0 B σ H o _ fun ys r ws B1 H1 px s1 r0 rb rp ra => ?_⟩
  obtain ⟨hl2, kx⟩ := k ys px
  have o1 := o.mono s1
  obtain ⟨q', vs', e1', _, _, hp', ha'⟩ := o1.mu e
  rw [e1] at e1'
  cases e1'
  refine ⟨q, r, vs', ws, rfl, rfl, hp', rp, line_le (by rw [dpAll_len ha', dpAll_len ra]; omega), ?_⟩
  exact g.nx _ B1 σ _ kx s1.bb (o1.write e e1 (dpAll_app ha' ra))
theorem sx_setItem {i : Nat} {j : Nat} {xs : List PyData} (e : es[i]? = some (.mu xs)) (h : Ev K te es P) (hi : Ev K ta es (· = .d (.int (j : Int)))) (hj : j < xs.length) (k : ∀ x, P x → ∃ d, x = .d d ∧ p.nx (es.set i (.mu (xs.set j d)))) :
    Sx K (tAsg te (gSub (tVar i) ta rSetL)) es p := fun B0 H0 B σ H D o g =>
  h B0 H0 B σ H o _ fun x v B1 H1 px s1 d1 => by
    obtain ⟨d, rfl, kx⟩ := k x px
    have o1 := o.mono s1
    obtain ⟨q, vs, e1, hb, h0, hp, ha⟩ := o1.mu e
    refine ⟨_, e1, hi B0 H0 B1 σ H1 o1 _ fun y w B2 H2 py s2 d2 => ?_⟩
    subst py
    cases d2
    have o2 := o1.mono s2
    obtain ⟨q', vs', e1', _, _, hp', ha'⟩ := o2.mu e
    rw [e1] at e1'
    cases e1'
    refine ⟨q, vs', (j : Int), j, rfl, rfl, hp', ?_, ?_⟩
    · have hl : j < vs'.length := by rw [dpAll_len ha']; exact hj
      unfold ixN
      rw [if_pos (Int.natCast_nonneg j), if_pos (Int.ofNat_lt.mpr hl)]
      rfl
    · exact g.nx _ B2 σ _ kx (s1.bb.trans s2.bb) (o2.write e e1 (dpAll_set (dpMono s2.bb d1) j ha'))
theorem sx_par {i j : Nat} {ta : TA} {Pa : List Dv → Prop} (h : EvA K ta es Pa) (k : ∀ l, Pa l → ∃ x y, l = [x, y] ∧ Stay x ∧ Stay y ∧ p.nx ((es.set i (.im x)).set j (.im y))) : Sx K (tPar i j ta) es p := fun B0 H0 B σ H D o g =>
  h B0 H0 B σ H o _ fun l vs B1 H1 px s1 d1 => by
    obtain ⟨x, y, rfl, s1', s2', kx⟩ := k l px
    cases d1 with
    | cons a1 a2 =>
      cases a2 with
      | cons b1 b2 =>
        cases b2
        exact ⟨_, _, rfl, g.nx _ B1 _ H1 kx s1.bb (((o.mono s1).set i (a1.stay s1')).set j (b1.stay s2'))⟩
/-- found, total = [], 0: a new list and a value -/
theorem sx_parL {i j : Nat} {P : List PyData → Prop} (h : EvL K te es P) (h2 : Ev K ta es (fun x => ∃ d, x = .d d ∧ Stay x ∧ ∀ xs, P xs → p.nx ((es.set i (.mu xs)).set j (.im x)))) : Sx K (tPar i j (tCons te (tCons ta tNil))) es p := fun B0 H0 B σ H D o g =>
  h B0 H0 B σ H o _ fun xs q vs B1 H1 px s1 h0 hb hp ha => h2 B0 H0 B1 σ H1 (o.mono s1) _ fun x v B2 H2 ⟨d, e, sx, kx⟩ s2 d2 => by
    refine ⟨_, _, rfl, g.nx _ B2 _ H2 (kx xs px) (s1.bb.trans s2.bb) (((((o.mono s1).mono s2).setMu i (fun j ys e e2 => ?_) (s2.fr q hb (by rw [hp]; exact fun z => nomatch z)) (o.st.hh.free h0) (s2.hh _ _ hp) (dpAllMono s2.bb ha))).set j (d2.stay sx))⟩
    obtain ⟨q', ws, e3, _, _, e4, _⟩ := o.mu e
    rw [e2] at e3
    cases e3
    rw [h0] at e4
    cases e4
/-! ### targets -/
/-- a target takes x: js are the slots that it writes -/
def Tg (K : PySem.W.Frag) (js : List Nat) (g : TG) (es : List Sl) (x : Dv) (es' : List Sl) : Prop := ∀ (B0 H0 B : Hp) (σ : L2.St) (H : Hp) (v : V), Ok K B0 H0 B es σ H → DV K B H x v → ∀ Q : L2.St → Hp → Prop,
  (∀ σ', Ok K B0 H0 B es' σ' H → σ'.length = σ.length → (∀ k, k ∉ js → σ'[k]? = σ[k]?) → Q σ' H) → g v σ H Q
theorem tg_name {i : Nat} {x : Dv} (s : Stay x) : Tg K [i] (gName i) es x (es.set i (.im x)) := fun B0 H0 B σ H v o d Q q =>
  q _ (o.set i (d.stay s)) (by rw [List.length_set]) fun k hk => List.getElem?_set_ne (fun z => hk (by rw [z]; exact List.mem_singleton.mpr rfl))
/-- .. several targets -/
def Tgs (K : PySem.W.Frag) (js : List Nat) (g : TGs) (es : List Sl) (ds : List PyData) (es' : List Sl) : Prop := ∀ (B0 H0 B : Hp) (σ : L2.St) (H : Hp) (vs : List V), Ok K B0 H0 B es σ H → DpAll K B vs ds → ∀ Q : L2.St → Hp → Prop,
  (∀ σ', Ok K B0 H0 B es' σ' H → σ'.length = σ.length → (∀ k, k ∉ js → σ'[k]? = σ[k]?) → Q σ' H) → g vs σ H Q
theorem tgs_nil : Tgs K [] gNil es [] es := fun B0 H0 B σ H vs o d Q q => by
  cases d
  exact ⟨rfl, q σ o rfl fun _ _ => rfl⟩
theorem tgs_cons {js ks : List Nat} {g : TG} {gs : TGs} {d : PyData} {ds : List PyData} {es1 : List Sl} (h : Tg K js g es (.d d) es1) (hs : Tgs K ks gs es1 ds es') : Tgs K (js ++ ks) (gCons g gs) es (d :: ds) es' := fun B0 H0 B σ H vs o da Q q => by
  cases da with
  | cons a b =>
    refine ⟨_, _, rfl, h B0 H0 B σ H _ o a _ fun σ1 o1 l1 n1 => hs B0 H0 B σ1 H _ o1 b _ fun σ2 o2 l2 n2 => q σ2 o2 (l2.trans l1) fun k hk => ?_⟩
    rw [n2 k (fun z => hk (List.mem_append_right _ z)), n1 k (fun z => hk (List.mem_append_left _ z))]
theorem tg_tup {js : List Nat} {g : TGs} {n : Nat} {ds : List PyData} (h : Tgs K js g es ds es') (hn : ds.length = n) : Tg K js (gTup K n g) es (.d (.tuple ds)) es' := fun B0 H0 B σ H v o d Q q => by
  cases d with
  | tup hs ha => exact ⟨_, _, rfl, sameT o.bh hs, by rw [dpAll_len ha, hn], h B0 H0 B σ H _ o ha Q q⟩
/-- target = value -/
theorem sx_asg {js : List Nat} {g : TG} (h : Ev K te es P) (k : ∀ x, P x → ∃ es', Tg K js g es x es' ∧ p.nx es') : Sx K (tAsg te g) es p := fun B0 H0 B σ H D o gg =>
  h B0 H0 B σ H o _ fun x v B1 H1 px s1 d1 => by
    obtain ⟨es', ht, kx⟩ := k x px
    exact ht B0 H0 B1 σ H1 v (o.mono s1) d1 _ fun σ' o' _ _ => gg.nx es' B1 σ' H1 kx s1.bb o'
/-! ### what is walked -/
structure Wk (K : PySem.W.Frag) (B : Hp) (J : It) (n : Nat) (f : Nat → Dv) : Prop where
  go : ∀ (i : Nat) H, Same B H → i < n → J.go i H
  stop : ∀ H, Same B H → J.stop n H
  yld : ∀ B1 (i : Nat) H x H', Same B B1 → Same B1 H → i < n → J.yld i H x H' → ∃ B2, Stp B1 H B2 H' ∧ DV K B2 H' (f i) x
def EvI (K : PySem.W.Frag) (wi : TI) (es : List Sl) (P : Nat → (Nat → Dv) → Prop) : Prop := ∀ (B0 H0 B : Hp) (σ : L2.St) (H : Hp), Ok K B0 H0 B es σ H → ∀ R : It → Hp → Prop,
  (∀ J n f B2 H2, P n f → Stp B H B2 H2 → Wk K B2 J n f → R J H2) → wi σ H R
theorem getD_some {xs : List PyData} {i : Nat} (h : i < xs.length) : xs[i]? = some (xs.getD i .none) := by
  rw [List.getD_eq_getElem?_getD, List.getElem?_eq_getElem h]
  rfl
theorem wk_list {B : Hp} {a : Addr} {vs : List V} {xs : List PyData} (hs : SqL K B a vs) (ha : DpAll K B vs xs) : Wk K B (Itl K a) xs.length (fun i => .d (xs.getD i .none)) where
  go := fun i H e hi => by
    obtain ⟨v, e1, _⟩ := dpAll_get ha (getD_some hi)
    exact ⟨vs, v, Same.seq e hs, e1⟩
  stop := fun H e => ⟨vs, Same.seq e hs, by rw [dpAll_len ha]; exact Nat.le_refl _⟩
  yld := fun B1 i H x H' e e1 hi h => by
    obtain ⟨rfl, h⟩ := h
    obtain ⟨v, e2, hd⟩ := dpAll_get ha (getD_some hi)
    have := h vs (Same.seq (e.trans e1) hs)
    rw [e2] at this
    cases this
    exact ⟨B1, Stp.refl e1, dpMono e hd⟩
theorem wk_tup {B : Hp} {a : Addr} {vs : List V} {xs : List PyData} (hs : SqT K B a vs) (ha : DpAll K B vs xs) : Wk K B (Itt K a) xs.length (fun i => .d (xs.getD i .none)) where
  go := fun i H e hi => by
    obtain ⟨v, e1, _⟩ := dpAll_get ha (getD_some hi)
    exact ⟨vs, v, sameT e hs, e1⟩
  stop := fun H e => ⟨vs, sameT e hs, by rw [dpAll_len ha]; exact Nat.le_refl _⟩
  yld := fun B1 i H x H' e e1 hi h => by
    obtain ⟨rfl, h⟩ := h
    obtain ⟨v, e2, hd⟩ := dpAll_get ha (getD_some hi)
    have := h vs (sameT (e.trans e1) hs)
    rw [e2] at this
    cases this
    exact ⟨B1, Stp.refl e1, dpMono e hd⟩
theorem wk_range {B : Hp} {lo : Int} {n : Nat} : Wk K B (Itr lo n) n (fun i => .d (.int (lo + i))) where
  go := fun i H e hi => hi
  stop := fun H e => Nat.le_refl _
  yld := fun B1 i H x H' e e1 hi h => by
    obtain ⟨rfl, rfl⟩ := h
    exact ⟨B1, Stp.refl e1, .int _⟩
theorem ei_list {xs : List PyData} (h : Ev K te es (· = .d (.list xs))) : EvI K (iList K te) es (fun n f => n = xs.length ∧ f = fun i => .d (xs.getD i .none)) := fun B0 H0 B σ H o R r =>
  h B0 H0 B σ H o _ fun x v B1 H1 e s1 d1 => by
    subst e
    cases d1 with
    | lst hs ha => exact ⟨_, rfl, ⟨_, Same.seq s1.bh hs⟩, r _ _ _ B1 H1 ⟨rfl, rfl⟩ s1 (wk_list hs ha)⟩
theorem ei_tup {xs : List PyData} (h : Ev K te es (· = .d (.tuple xs))) : EvI K (iTup K te) es (fun n f => n = xs.length ∧ f = fun i => .d (xs.getD i .none)) := fun B0 H0 B σ H o R r =>
  h B0 H0 B σ H o _ fun x v B1 H1 e s1 d1 => by
    subst e
    cases d1 with
    | tup hs ha => exact ⟨_, rfl, ⟨_, sameT s1.bh hs⟩, r _ _ _ B1 H1 ⟨rfl, rfl⟩ s1 (wk_tup hs ha)⟩
theorem ei_range1 {ta : TA} {n : Int} (h : EvA K ta es (· = [.d (.int n)])) (hn : n < 1000000) (hm : -1000000 < n) : EvI K (iRng1 ta) es (fun m f => m = n.toNat ∧ f = fun i => .d (.int i)) := fun B0 H0 B σ H o R r =>
  h B0 H0 B σ H o _ fun x v B1 H1 e s1 d1 => by
    subst e
    cases d1 with
    | cons a b =>
      cases b
      cases a
      exact ⟨n, rfl, by omega, by omega, r _ _ _ B1 H1 ⟨rfl, by funext i; rw [Int.zero_add]⟩ s1 wk_range⟩
theorem ei_range2 {ta : TA} {lo n : Int} (h : EvA K ta es (· = [.d (.int lo), .d (.int n)])) (hl : lo < 1000000) (hl' : -1000000 < lo) (hn : n < 1000000) (hm : -1000000 < n) : EvI K (iRng2 ta) es (fun m f => m = (n - lo).toNat ∧ f = fun i => .d (.int (lo + i))) := fun B0 H0 B σ H o R r =>
  h B0 H0 B σ H o _ fun x v B1 H1 e s1 d1 => by
    subst e
    cases d1 with
    | cons a b =>
      cases b with
      | cons b c =>
        cases c
        cases a
        cases b
        exact ⟨lo, n, rfl, ⟨by omega, by omega, by omega, by omega⟩, r _ _ _ B1 H1 ⟨rfl, rfl⟩ s1 wk_range⟩
/-- zip of two lists -/
theorem wk_zip {B : Hp} {a b : Addr} {vs ws : List V} {xs ys : List PyData} (hs : SqL K B a vs) (ha : DpAll K B vs xs) (hs' : SqL K B b ws) (ha' : DpAll K B ws ys) :
    Wk K B (Itz K a b) (min xs.length ys.length) (fun i => .d (.tuple [xs.getD i .none, ys.getD i .none])) where
  go := fun i H e hi => (walk_zip (K := K) (a := a) (b := b) (xs := vs) (ys := ws) rfl).goes i H (by rw [dpAll_len ha, dpAll_len ha']; exact hi) ⟨Same.seq e hs, Same.seq e hs'⟩
  stop := fun H e => by
    have := (walk_zip (K := K) (a := a) (b := b) (xs := vs) (ys := ws) rfl).stops H ⟨Same.seq e hs, Same.seq e hs'⟩
    rw [dpAll_len ha, dpAll_len ha'] at this
    exact this
  yld := fun B1 i H x H' e e1 hi h => by
    obtain ⟨T, x1, y1, rfl, nT, rfl, g1, g2⟩ := (walk_zip (K := K) (a := a) (b := b) (xs := vs) (ys := ws) rfl).yields i H x H' (by rw [dpAll_len ha, dpAll_len ha']; exact hi) ⟨Same.seq (e.trans e1) hs, Same.seq (e.trans e1) hs'⟩ h
    obtain ⟨v1, k1, r1⟩ := dpAll_get ha (getD_some (xs := xs) (i := i) (by omega))
    obtain ⟨v2, k2, r2⟩ := dpAll_get ha' (getD_some (xs := ys) (i := i) (by omega))
    have g1 : vs[i]? = some x1 := g1
    have g2 : ws[i]? = some y1 := g2
    rw [k1] at g1
    rw [k2] at g2
    cases g1
    cases g2
    have sb : Same B1 (upd B1 T (.tup [x1, y1])) := same_upd (e1.free nT)
    exact ⟨_, Stp.new e1 nT, Dp.tup (SqT.of upd_same) (.cons (dpMono (e.trans sb) r1) (.cons (dpMono (e.trans sb) r2) .nil))⟩
/-! ### for -/
theorem sx_for {wi : TI} {g : TG} {tb : TS} {js : List Nat} {Pi : Nat → (Nat → Dv) → Prop} (h : EvI K wi es Pi) (I : Nat → List Sl → Prop) (h0 : I 0 es)
    (k : ∀ n f, Pi n f → (∀ i es', i < n → I i es' → ∃ es2, Tg K js g es' (f i) es2 ∧ Sx K tb es2 { p with nx := I (i + 1), ct := I (i + 1), bk := p.nx }) ∧ ∀ es', I n es' → p.nx es') : Sx K (tFor wi g tb) es p := fun B0 H0 B σ H D o gg =>
  h B0 H0 B σ H o _ fun J n f B1 H1 pi s1 wk => by
    obtain ⟨kt, kd⟩ := k n f pi
    have o1 := o.mono s1
    refine ⟨fun i m σ H => m = n - i ∧ i ≤ n ∧ ∃ es' B', Same B1 B' ∧ I i es' ∧ Ok K B0 H0 B' es' σ H, ⟨n, by simp, Nat.zero_le _, es, B1, Same.refl _, h0, o1⟩, ?_⟩
    rintro i m σ H ⟨rfl, hi, es', B', sb, ii, o'⟩
    by_cases hlt : i < n
    · refine .inr ⟨wk.go i H (sb.trans o'.bh) hlt, fun σ' H' => ∃ es'' B'', Same B1 B'' ∧ I (i + 1) es'' ∧ Ok K B0 H0 B'' es'' σ' H', fun σ' H' h' => ⟨n - (i + 1), by omega, rfl, hlt, h'⟩, fun x H' y => ?_⟩
      obtain ⟨B2, s2, d2⟩ := wk.yld B' i H x H' sb o'.bh hlt y
      obtain ⟨es2, tg, sx⟩ := kt i es' hlt ii
      refine tg B0 H0 B2 σ H' x (o'.mono s2) d2 _ fun σ2 o2 _ _ => ?_
      exact sx B0 H0 B2 σ2 H' _ o2 ⟨fun es B3 σ3 H3 m q o3 => ⟨es, B3, sb.trans (s2.bb.trans q), m, o3⟩, gg.rt, gg.rl, gg.rx, fun es B3 σ3 H3 m q o3 => gg.nx es B3 σ3 H3 m (s1.bb.trans (sb.trans (s2.bb.trans q))) o3, fun es B3 σ3 H3 m q o3 => ⟨es, B3, sb.trans (s2.bb.trans q), m, o3⟩⟩
    · have e : i = n := by omega
      subst e
      exact .inl ⟨wk.stop H (sb.trans o'.bh), gg.nx es' B' σ H (kd es' ii) (s1.bb.trans sb) o'⟩
/-! ### while -/
theorem sx_while {c : TT} {tb : TS} (I : List Sl → Prop) (μ : List Sl → Nat) (Pb : List Sl → Bool → Prop) (h0 : I es) (hc : ∀ es', I es' → EvT K c es' (Pb es'))
    (h1 : ∀ es', I es' → Pb es' true → Sx K tb es' { p with nx := fun e => I e ∧ μ e < μ es', ct := fun e => I e ∧ μ e < μ es', bk := p.nx }) (h2 : ∀ es', I es' → Pb es' false → p.nx es') : Sx K (tWhile c tb) es p := fun B0 H0 B σ H D o gg => by
  refine ⟨fun m σ H => ∃ es' B', Same B B' ∧ I es' ∧ Ok K B0 H0 B' es' σ H ∧ m = μ es', ⟨μ es, es, B, Same.refl _, h0, o, rfl⟩, ?_⟩
  rintro m σ H ⟨es', B', sb, ii, o', rfl⟩
  refine hc es' ii B0 H0 B' σ H o' _ fun b B1 H1 pb s1 => ?_
  have o1 := o'.mono s1
  cases b with
  | true =>
    rw [if_pos rfl]
    refine ⟨fun σ' H' => ∃ e2 B2, Same B B2 ∧ I e2 ∧ Ok K B0 H0 B2 e2 σ' H' ∧ μ e2 < μ es', fun σ' H' ⟨e2, B2, q1, q2, q3, q4⟩ => ⟨μ e2, q4, e2, B2, q1, q2, q3, rfl⟩, ?_⟩
    exact h1 es' ii pb B0 H0 B1 σ H1 _ o1 ⟨fun e2 B2 σ2 H2 m q o2 => ⟨e2, B2, sb.trans (s1.bb.trans q), m.1, o2, m.2⟩, gg.rt, gg.rl, gg.rx, fun e2 B2 σ2 H2 m q o2 => gg.nx e2 B2 σ2 H2 m (sb.trans (s1.bb.trans q)) o2, fun e2 B2 σ2 H2 m q o2 => ⟨e2, B2, sb.trans (s1.bb.trans q), m.1, o2, m.2⟩⟩
  | false =>
    rw [if_neg Bool.false_ne_true]
    exact gg.nx es' B1 σ H1 (h2 es' ii pb) (sb.trans s1.bb) o1
/-! ### comprehensions -/
def wipeS (es : List Sl) : List Nat → List Sl
  | [] => es
  | v :: vs => (wipeS es vs).set v .no
theorem Ok.wipes {B0 H0 B H : Hp} {σ : L2.St} (o : Ok K B0 H0 B es σ H) : ∀ vs : List Nat, Ok K B0 H0 B (wipeS es vs) (L2.wipe σ vs) H
  | [] => o
  | v :: vs => (Ok.wipes o vs).wipe v none
theorem wipe_get {σ : L2.St} {k : Nat} : ∀ {vs : List Nat}, (wipe σ vs)[k]? = if k ∈ vs then σ[k]?.map (fun _ => none) else σ[k]?
  | [] => by simp [wipe]
  | v :: vs => by
    unfold wipe
    by_cases h : v = k
    · subst h
      rw [if_pos List.mem_cons_self]
      by_cases hl : v < σ.length
      · rw [List.getElem?_set_self (by rw [wipe_length]; exact hl), List.getElem?_eq_getElem hl]
        rfl
      · rw [List.getElem?_eq_none (by rw [List.length_set, wipe_length]; omega), List.getElem?_eq_none (by omega)]
        rfl
    · rw [List.getElem?_set_ne h, wipe_get (vs := vs)]
      by_cases h2 : k ∈ vs
      · rw [if_pos h2, if_pos (List.mem_cons_of_mem _ h2)]
      · rw [if_neg h2, if_neg (fun z => (List.mem_cons.mp z).elim (fun e => h e.symm) h2)]
theorem wipe_same {σ σ' : L2.St} {js vs : List Nat} (hj : ∀ j ∈ js, j ∈ vs) (hl : σ'.length = (wipe σ vs).length) (hk : ∀ k, k ∉ js → σ'[k]? = (wipe σ vs)[k]?) : wipe σ' vs = wipe σ vs := by
  rw [wipe_length] at hl
  apply List.ext_getElem?
  intro k
  rw [wipe_get]
  by_cases h : k ∈ vs
  · rw [if_pos h, wipe_get, if_pos h]
    by_cases hk' : k < σ.length
    · rw [List.getElem?_eq_getElem (by omega), List.getElem?_eq_getElem hk']
      rfl
    · rw [List.getElem?_eq_none (by omega), List.getElem?_eq_none (by omega)]
  · rw [if_neg h, hk k fun z => h (hj k z)]
/-- I i ys: what the list may be behind i turns -/
theorem ev_lc {wi : TI} {g : TG} {tt : TT} {vs js : List Nat} {Pi : Nat → (Nat → Dv) → Prop} {P : List PyData → Prop} (h : EvI K wi es Pi) (I : Nat → List PyData → Prop) (Pb : Nat → Bool → Prop) (Pd : Nat → PyData → Prop) (h0 : I 0 [])
    (hj : ∀ j ∈ js, j ∈ vs)
    (k : ∀ n f, Pi n f → n ≤ 8000000 ∧ (∀ i, i < n → ∃ es2, Tg K js g (wipeS es vs) (f i) es2 ∧ EvT K tt es2 (Pb i) ∧ (Pb i true → Ev K te es2 (fun x => ∃ d, x = .d d ∧ Pd i d))) ∧
      (∀ i ys d, i < n → I i ys → Pb i true → Pd i d → I (i + 1) (ys ++ [d])) ∧ (∀ i ys, i < n → I i ys → Pb i false → I (i + 1) ys) ∧ ∀ ys, I n ys → P ys) : EvL K (tLc wi g tt te vs) es P := fun B0 H0 B σ H o Q q =>
  h B0 H0 B σ H o _ fun J n f B1 H1 pi s1 wk D nD => by
    obtain ⟨hn, kt, k1, k0, kd⟩ := k n f pi
    have o1 := o.mono s1
    have bD : B1 D = none := s1.bh.free nD
    refine ⟨fun i m H => m = n - i ∧ i ≤ n ∧ ∃ B' ys acc, Stp B1 H1 B' H ∧ B' D = none ∧ H D = some (.lst acc) ∧ DpAll K B' acc ys ∧ I i ys ∧ ys.length ≤ i, ⟨n, by simp, Nat.zero_le _, B1, [], [], Stp.open s1.bh nD, bD, upd_same, .nil, h0, Nat.le_refl _⟩, ?_⟩
    rintro i m H ⟨rfl, hi, B', ys, acc, st, bD', hD, ha, hI, hl⟩
    by_cases hlt : i < n
    · refine .inr ⟨wk.go i H (st.bb.trans st.bh) hlt, fun H' => ∃ B' ys acc, Stp B1 H1 B' H' ∧ B' D = none ∧ H' D = some (.lst acc) ∧ DpAll K B' acc ys ∧ I (i + 1) ys ∧ ys.length ≤ i + 1, fun H' h' => ⟨n - (i + 1), by omega, rfl, hlt, h'⟩, fun x H' y => ?_⟩
      obtain ⟨B2, s2, d2⟩ := wk.yld B' i H x H' st.bb st.bh hlt y
      obtain ⟨es2, tg, ht, he⟩ := kt i hlt
      have st2 := st.trans s2
      have nz : H D ≠ none := by rw [hD]; exact fun z => nomatch z
      have b2 := s2.fr D bD' nz
      refine tg B0 H0 B2 (wipe σ vs) H' x ((o1.mono st2).wipes vs) d2 _ fun σ2 o2 l2 n2 => ⟨wipe_same hj l2 n2, ht B0 H0 B2 σ2 H' o2 _ fun b B3 H3 pb s3 => ?_⟩
      have h3 : H3 D = some (.lst acc) := s3.hh _ _ (s2.hh _ _ hD)
      have nz2 : H' D ≠ none := by rw [s2.hh _ _ hD]; exact fun z => nomatch z
      have b3 := s3.fr D b2 nz2
      cases b with
      | false =>
        rw [if_neg Bool.false_ne_true]
        exact ⟨B3, ys, acc, st2.trans s3, b3, h3, dpAllMono (s2.bb.trans s3.bb) ha, k0 i ys hlt hI pb, by omega⟩
      | true =>
        rw [if_pos rfl]
        refine he pb B0 H0 B3 σ2 H3 (o2.mono s3) _ fun z v B4 H4 ⟨d, e, pd⟩ s4 d4 => ?_
        subst e
        have h4 : H4 D = some (.lst acc) := s4.hh _ _ h3
        have b4 := s4.fr D b3 (by rw [h3]; exact fun z => nomatch z)
        have st4 := (st2.trans s3).trans s4
        have ha4 := dpAllMono (s2.bb.trans (s3.bb.trans s4.bb)) ha
        refine ⟨acc, h4, line_lt (by rw [dpAll_len ha4]; omega), B4, ys ++ [d], acc ++ [v], ?_, b4, upd_same, dpAll_app ha4 (.cons d4 .nil), k1 i ys d hlt hI pb pd, by rw [List.length_append, List.length_singleton]; omega⟩
        refine ⟨st4.bb, fun b x e => ?_, fun b x e => ?_, st4.fr⟩
        · rw [upd_ne (ne_of_none e nD)]; exact st4.hh _ _ e
        · rw [upd_ne (ne_of_none e b4)]; exact st4.bh _ _ e
    · have e : i = n := by omega
      subst e
      exact .inl ⟨wk.stop H (st.bb.trans st.bh), q ys D acc B' H (kd ys hI) (s1.trans st) (s1.hh.free nD) bD' hD ha⟩
theorem et_yes : EvT K tYes es (· = true) := fun B0 H0 B σ H o Q q => q true B H rfl (Stp.refl o.bh)
/-! ### a def -/
def startS (N : List Str) (xs : List Dv) : List Sl := xs.map .im ++ List.replicate (N.length - xs.length) .no
theorem ok_start {N : List Str} {B H : Hp} {xs : List Dv} {vs : List V} (e : Same B H) (h : DVs K B H xs vs) : Ok K B H B (startS N xs) (L2.start N vs) H := by
  have hl := dvs_len h
  refine ⟨Stp.refl e, ?_, fun i s hs => ?_, fun i j ys zs a b _ h1 _ _ _ => ?_⟩
  · unfold startS L2.start
    rw [List.length_append, List.length_append, List.length_map, List.length_map, List.length_replicate, List.length_replicate, hl]
  · unfold startS at hs
    unfold L2.start
    by_cases hi : i < xs.length
    · rw [List.getElem?_append_left (by rw [List.length_map]; exact hi), List.getElem?_map, List.getElem?_eq_getElem hi] at hs
      cases hs
      have hv : i < vs.length := by omega
      rw [List.getElem?_append_left (by rw [List.length_map]; exact hv), List.getElem?_map, List.getElem?_eq_getElem hv]
      refine ⟨some vs[i], rfl, vs[i], rfl, ?_⟩
      induction h generalizing i with
      | nil => simp at hi
      | cons a b ih =>
        cases i with
        | zero => exact a
        | succ i => exact ih (by simpa using hl) i (by simpa using hi) (by simpa using hv)
    · rw [List.getElem?_append_right (by rw [List.length_map]; omega), List.length_map] at hs
      rw [List.getElem?_append_right (by rw [List.length_map]; omega), List.length_map]
      have hr := List.getElem?_eq_some_iff.mp hs
      obtain ⟨h1, h2⟩ := hr
      rw [List.length_replicate] at h1
      rw [List.getElem_replicate] at h2
      subst h2
      exact ⟨none, by rw [List.getElem?_replicate, if_pos (by omega)], trivial⟩
  · unfold startS at h1
    by_cases hi : i < xs.length
    · rw [List.getElem?_append_left (by rw [List.length_map]; exact hi), List.getElem?_map, List.getElem?_eq_getElem hi] at h1
      cases h1
    · rw [List.getElem?_append_right (by rw [List.length_map]; omega), List.length_map] at h1
      obtain ⟨_, h2⟩ := List.getElem?_eq_some_iff.mp h1
      rw [List.getElem_replicate] at h2
      cases h2
/-- a body's promise -/
theorem body_G {N : List Str} {Pre : List Dv → Prop} {Post : List Dv → Dv → Prop} (h : ∀ xs, Pre xs → Sx K t (startS N xs) { nx := fun _ => Post xs (.d .none), rt := Post xs, rl := fun ys => Post xs (.d (.list ys)) }) (vs : List V) (H : Hp) (Q : VK) (E : XK) (hs : spG K Pre Post vs H Q E) :
    t { nx := fun _ H' => Q .non H', rt := Q } (L2.start N vs) H := by
  obtain ⟨B, xs, sb, dv, hp, q⟩ := hs
  exact h xs hp B H B (L2.start N vs) H _ (ok_start sb dv) ⟨fun es B1 σ H1 m _ o => q _ _ B1 H1 m o.st .non, fun z v B1 H1 m s d => q z v B1 H1 m s d, fun ys p ws B1 H1 m s h0 hb hp ha =>
    q _ _ (upd B1 p (.lst ws)) H1 m (s.shut h0 hb hp) (Dp.lst (SqL.of upd_same) (dpAllMono (same_upd hb) ha)), fun _ _ _ _ _ _ m => m.elim, fun _ _ _ _ m => m.elim, fun _ _ _ _ m => m.elim⟩
theorem body_L {N : List Str} {Pre : List Dv → Prop} {Post : List Dv → List PyData → Prop} (h : ∀ xs, Pre xs → Sx K t (startS N xs) { nx := fun _ => False, rl := Post xs }) (vs : List V) (H : Hp) (Q : VK) (E : XK) (hs : spL K Pre Post vs H Q E) :
    t { nx := fun _ H' => Q .non H', rt := Q } (L2.start N vs) H := by
  obtain ⟨B, xs, sb, dv, hp, q⟩ := hs
  exact h xs hp B H B (L2.start N vs) H _ (ok_start sb dv) ⟨fun es B1 σ H1 m _ o => m.elim, fun z v B1 H1 m s d => m.elim, fun ys p ws B1 H1 m s h0 hb hp ha => q ys p ws B1 H1 m s h0 hb hp ha, fun _ _ _ _ _ _ m => m.elim, fun _ _ _ _ m => m.elim, fun _ _ _ _ m => m.elim⟩
theorem len_G {Pre : List Dv → Prop} {Post : List Dv → Dv → Prop} {n : Nat} (h : ∀ xs, Pre xs → xs.length = n) (vs : List V) (H : Hp) (Q : VK) (E : XK) (hs : spG K Pre Post vs H Q E) : vs.length = n := by
  obtain ⟨B, xs, sb, dv, hp, q⟩ := hs
  rw [← dvs_len dv, h xs hp]
theorem len_L {Pre : List Dv → Prop} {Post : List Dv → List PyData → Prop} {n : Nat} (h : ∀ xs, Pre xs → xs.length = n) (vs : List V) (H : Hp) (Q : VK) (E : XK) (hs : spL K Pre Post vs H Q E) : vs.length = n := by
  obtain ⟨B, xs, sb, dv, hp, q⟩ := hs
  rw [← dvs_len dv, h xs hp]
section
variable {Pg : Program} {w : World} {mg : Str → Option Value} {base : Heap}
/-- THE RULE for a def that gives a value -/
theorem fnG {x qual : Str} {st : Stmt} {f : Addr} {fd : FuncData} {N ps : List Str} {k : Nat} {Pre : List Dv → Prop} {Post : List Dv → Dv → Prop} (F : Fun K x qual st f fd) (S : FnScope N ps (defScope st)) (len : ∀ xs, Pre xs → xs.length = ps.length)
    (hb : ∀ (cdv : Value) (A : Around) (outer : List Env) (s : Shared) (H : Hp) (E : XK), Room k (A.deeper (envOfC qual (defScope st) s.heap.objs.size f cdv)) →
      ∃ t, PSs (cxOf CX0 Pg w K mg base N qual (defScope st) f cdv A outer s H E).nox (defBody st) t ∧ ∀ xs, Pre xs → Sx K t (startS N xs) { nx := fun _ => Post xs (.d .none), rt := Post xs, rl := fun ys => Post xs (.d (.list ys)) }) :
    FnOk Pg w K mg base CX0 (k + 1) f fd ps (spG K Pre Post) :=
  F.ok S (len_G len) fun cdv A outer s H vs Q E hr hs => by
    obtain ⟨t, h1, h2⟩ := hb cdv A outer s H E hr
    exact ⟨t, h1, body_G h2 vs H Q E hs⟩
theorem fnL {x qual : Str} {st : Stmt} {f : Addr} {fd : FuncData} {N ps : List Str} {k : Nat} {Pre : List Dv → Prop} {Post : List Dv → List PyData → Prop} (F : Fun K x qual st f fd) (S : FnScope N ps (defScope st)) (len : ∀ xs, Pre xs → xs.length = ps.length)
    (hb : ∀ (cdv : Value) (A : Around) (outer : List Env) (s : Shared) (H : Hp) (E : XK), Room k (A.deeper (envOfC qual (defScope st) s.heap.objs.size f cdv)) →
      ∃ t, PSs (cxOf CX0 Pg w K mg base N qual (defScope st) f cdv A outer s H E).nox (defBody st) t ∧ ∀ xs, Pre xs → Sx K t (startS N xs) { nx := fun _ => False, rl := Post xs }) :
    FnOk Pg w K mg base CX0 (k + 1) f fd ps (spL K Pre Post) :=
  F.ok S (len_L len) fun cdv A outer s H vs Q E hr hs => by
    obtain ⟨t, h1, h2⟩ := hb cdv A outer s H E hr
    exact ⟨t, h1, body_L h2 vs H Q E hs⟩
end
end
end HM
end
section
/-! HM core 4: machine rules by data: ==, in, +, *, sum, max, min, sorted over lists and tuples -/
namespace HM
open PySem PySem.Spec PyProof.Rows L2

/-- the depth of what is compared -/
def Flat (d : PyData) : Prop := d.plain = true ∧ d.depth ≤ 60
section
variable {X : Cx}
def rEqP (K : PySem.W.Frag) : R2 := fun x y H Q => ∃ d e, Dp K H x d ∧ Dp K H y e ∧ Flat d ∧ Flat e ∧ Q (.bl (PyData.eqv d e)) H
def rNeP (K : PySem.W.Frag) : R2 := fun x y H Q => ∃ d e, Dp K H x d ∧ Dp K H y e ∧ Flat d ∧ Flat e ∧ Q (.bl (!PyData.eqv d e)) H
theorem op_eqP (hu : X.A.units + 64 < cLine) : OpR X (compareOp .Eq) (rEqP X.K) := by
  intro pins s σ H x y v u Q I rx ry h
  obtain ⟨d, e, hd, he, sd, se, q⟩ := h
  obtain ⟨as, r1⟩ := Dp.reads I d x v hd rx
  obtain ⟨bs, r2⟩ := Dp.reads I e y u he ry
  exact PySem.SeqAt.eq_plain r1 r2 sd.1 se.1 (by have := sd.2; have := se.2; omega) ⟨.bl _, H, I, rfl, q⟩
theorem op_neP (hu : X.A.units + 64 < cLine) : OpR X (compareOp .NotEq) (rNeP X.K) := by
  intro pins s σ H x y v u Q I rx ry h
  obtain ⟨d, e, hd, he, sd, se, q⟩ := h
  obtain ⟨as, r1⟩ := Dp.reads I d x v hd rx
  obtain ⟨bs, r2⟩ := Dp.reads I e y u he ry
  exact PySem.SeqAt.ne_plain r1 r2 sd.1 se.1 (by have := sd.2; have := se.2; omega) ⟨.bl _, H, I, rfl, q⟩
/-- x in c, c a list or a tuple of data -/
def rInP (K : PySem.W.Frag) : R2 := fun x y H Q => ∃ d e xs, Dp K H x d ∧ Dp K H y e ∧ (e = .list xs ∨ e = .tuple xs) ∧ Flat d ∧ Flat e ∧ Q (.bl (xs.any fun y => PyData.eqv y d)) H
def rNotInP (K : PySem.W.Frag) : R2 := fun x y H Q => ∃ d e xs, Dp K H x d ∧ Dp K H y e ∧ (e = .list xs ∨ e = .tuple xs) ∧ Flat d ∧ Flat e ∧ Q (.bl (!xs.any fun y => PyData.eqv y d)) H
theorem op_inP (hu : X.A.units + 64 < cLine) : OpR X (compareOp .In) (rInP X.K) := by
  intro pins s σ H x y v u Q I rx ry h
  obtain ⟨d, e, xs, hd, he, hx, sd, se, q⟩ := h
  obtain ⟨as, r1⟩ := Dp.reads I d x v hd rx
  obtain ⟨bs, r2⟩ := Dp.reads I e y u he ry
  have hq : EP X pins σ Q (.bool (xs.any fun y => PyData.eqv y d)) s := ⟨.bl _, H, I, rfl, q⟩
  have hd' := sd.2
  rcases hx with rfl | rfl
  · exact PySem.SeqAt.in_list_data r2 r1 (by have := se.1; unfold PyData.plain at this; exact this) sd.1 (by omega) hq
  · exact PySem.SeqAt.in_tuple_data r2 r1 (by have := se.1; unfold PyData.plain at this; exact this) sd.1 (by omega) hq
theorem op_notInP (hu : X.A.units + 64 < cLine) : OpR X (compareOp .NotIn) (rNotInP X.K) := by
  intro pins s σ H x y v u Q I rx ry h
  obtain ⟨d, e, xs, hd, he, hx, sd, se, q⟩ := h
  obtain ⟨as, r1⟩ := Dp.reads I d x v hd rx
  obtain ⟨bs, r2⟩ := Dp.reads I e y u he ry
  have hq : EP X pins σ Q (.bool (!xs.any fun y => PyData.eqv y d)) s := ⟨.bl _, H, I, rfl, q⟩
  have hd' := sd.2
  rcases hx with rfl | rfl
  · exact PySem.SeqAt.notIn_list_data r2 r1 (by have := se.1; unfold PyData.plain at this; exact this) sd.1 (by omega) hq
  · exact PySem.SeqAt.notIn_tuple_data r2 r1 (by have := se.1; unfold PyData.plain at this; exact this) sd.1 (by omega) hq
/-- list + list -/
def rCatL (K : PySem.W.Frag) : R2 := fun x y H Q => ∃ l b xs zs, x = .ref l ∧ y = .ref b ∧ SqL K H l xs ∧ SqL K H b zs ∧ xs.length + zs.length ≤ 2000000 ∧ ∀ p, H p = none → Q (.ref p) (upd H p (.lst (xs ++ zs)))
theorem op_catL : OpR X (binaryOp .Add) (rCatL X.K) := by
  intro pins s σ H x y v u Q I rx ry h
  obtain ⟨l, b, xs, zs, rfl, rfl, hH, hB, hz0, q⟩ := h
  have hz : xs.length + zs.length ≤ sizeLine := line_le (by omega)
  cases rx
  cases ry
  obtain ⟨its, r, ⟨⟨cls, dd, data, sl⟩, n, ho, hc, hdd, hd⟩, hl⟩ := I.list hH
  obtain ⟨its2, r2, ⟨⟨cls2, dd2, data2, sl2⟩, n2, ho2, hc2, hdd2, hd2⟩, hl2⟩ := I.list hB
  simp only at hc hdd hd hc2 hdd2 hd2
  subst hc hdd hd hc2 hdd2 hd2
  have e1 := r.length
  have e2 := r2.length
  refine concat_meets ⟨_, ho, rfl⟩ ⟨_, ho2, rfl⟩ noFill_list_add seq_list_add PySem.F.slot_list_add PySem.F.entry_list_add (PySem.F.args_list_add_2 _ _) (list_addW l b its.toArray its2.toArray n n2 none none sl sl2 (by simp only [List.size_toArray]; omega)) ⟨ho, ho2, ?_⟩
  have ea : its.toArray ++ its2.toArray = (its ++ its2).toArray := by simp
  rw [ea]
  exact ⟨.ref _, _, I.lnew (t' := s.toks) (r.append r2) (by rw [List.length_append]; omega), rfl, q _ I.fresh⟩
/-! sums, greatest, least -/
theorem depth_ints' (ns : List Int) : PyData.depthAll (ns.map .int) = 0 := PySem.W.depth_ints ns
theorem alikeAll_ints (ns : List Int) : PySem.W.AlikeAll (ns.map .int) := by
  refine ⟨fun x hx y hy => ?_, fun x hx => ?_⟩
  · obtain ⟨a, _, rfl⟩ := List.mem_map.mp hx
    obtain ⟨b, _, rfl⟩ := List.mem_map.mp hy
    rfl
  · obtain ⟨a, _, rfl⟩ := List.mem_map.mp hx
    exact fun z => nomatch z
/-- one list or tuple of ints -/
def IsIs (K : PySem.W.Frag) (H : Hp) (v : V) (ns : List Int) : Prop := Dp K H v (.list (ns.map .int)) ∨ Dp K H v (.tuple (ns.map .int))
def rMaxD (K : PySem.W.Frag) : List V → Hp → VK → Prop := fun vs H Q => ∃ v n ns, vs = [v] ∧ IsIs K H v (n :: ns) ∧ Q (.int (ns.foldl max n)) H
def rMinD (K : PySem.W.Frag) : List V → Hp → VK → Prop := fun vs H Q => ∃ v n ns, vs = [v] ∧ IsIs K H v (n :: ns) ∧ Q (.int (ns.foldl min n)) H
def rSumD (K : PySem.W.Frag) : List V → Hp → VK → Prop := fun vs H Q => ∃ v ns, vs = [v] ∧ IsIs K H v ns ∧ Q (.int ns.sum) H
theorem reads_int {h : Heap} {v : Value} {n : Int} {as : List Addr} (r : Reads h v (.int n) as) : ∃ t, v = .int n t := by
  cases r with
  | int i t => exact ⟨t, rfl⟩
theorem cr_maxD (hc : X.calm = true) (hu : X.A.units + 64 < cLine) : CallR X (.builtin "max") (rMaxD X.K) := by
  intro pins s σ H vs us Q I r h
  obtain ⟨v, n, ns, rfl, hs, q⟩ := h
  obtain ⟨u, rfl, ru⟩ := vals1 r
  have hd : PyData.depthAll ((n :: ns).map .int) = 0 := depth_ints' _
  rcases hs with hs | hs
  · cases hs with
    | lst hl ha =>
      cases ru
      obtain ⟨its, rv, pl, _⟩ := I.list hl
      obtain ⟨as, hr⟩ := Dp.readsAll I _ _ its ha rv
      refine PySem.W.max_list_data (x := .int n) (xs := ns.map .int) (I.ok.hd hc) pl.isList hr (alikeAll_ints (n :: ns)) (by rw [show (PyData.int n :: ns.map PyData.int) = (n :: ns).map .int from rfl, hd]; omega) fun i v h' tk bs _ hv hk => ?_
      rw [PySem.W.maxD_ints] at hv
      obtain ⟨t, rfl⟩ := reads_int hv
      exact ⟨.int _, H, I.kept hk, ⟨_, rfl⟩, q⟩
  · cases hs with
    | tup hl ha =>
      cases ru
      obtain ⟨its, rv, pl, _⟩ := I.tuple hl
      obtain ⟨as, hr⟩ := Dp.readsAll I _ _ its ha rv
      refine PySem.W.max_tuple_data (x := .int n) (xs := ns.map .int) (I.ok.hd hc) pl hr (alikeAll_ints (n :: ns)) (by rw [show (PyData.int n :: ns.map PyData.int) = (n :: ns).map .int from rfl, hd]; omega) fun i v h' tk bs _ hv hk => ?_
      rw [PySem.W.maxD_ints] at hv
      obtain ⟨t, rfl⟩ := reads_int hv
      exact ⟨.int _, H, I.kept hk, ⟨_, rfl⟩, q⟩
theorem cr_minD (hc : X.calm = true) (hu : X.A.units + 64 < cLine) : CallR X (.builtin "min") (rMinD X.K) := by
  intro pins s σ H vs us Q I r h
  obtain ⟨v, n, ns, rfl, hs, q⟩ := h
  obtain ⟨u, rfl, ru⟩ := vals1 r
  have hd : PyData.depthAll ((n :: ns).map .int) = 0 := depth_ints' _
  rcases hs with hs | hs
  · cases hs with
    | lst hl ha =>
      cases ru
      obtain ⟨its, rv, pl, _⟩ := I.list hl
      obtain ⟨as, hr⟩ := Dp.readsAll I _ _ its ha rv
      refine PySem.W.min_list_data (x := .int n) (xs := ns.map .int) (I.ok.hd hc) pl.isList hr (alikeAll_ints (n :: ns)) (by rw [show (PyData.int n :: ns.map PyData.int) = (n :: ns).map .int from rfl, hd]; omega) fun i v h' tk bs _ hv hk => ?_
      rw [PySem.W.minD_ints] at hv
      obtain ⟨t, rfl⟩ := reads_int hv
      exact ⟨.int _, H, I.kept hk, ⟨_, rfl⟩, q⟩
  · cases hs with
    | tup hl ha =>
      cases ru
      obtain ⟨its, rv, pl, _⟩ := I.tuple hl
      obtain ⟨as, hr⟩ := Dp.readsAll I _ _ its ha rv
      refine PySem.W.min_tuple_data (x := .int n) (xs := ns.map .int) (I.ok.hd hc) pl hr (alikeAll_ints (n :: ns)) (by rw [show (PyData.int n :: ns.map PyData.int) = (n :: ns).map .int from rfl, hd]; omega) fun i v h' tk bs _ hv hk => ?_
      rw [PySem.W.minD_ints] at hv
      obtain ⟨t, rfl⟩ := reads_int hv
      exact ⟨.int _, H, I.kept hk, ⟨_, rfl⟩, q⟩
theorem intItems_get {xs : Array (Int × Tok)} {i : Nat} {v : Value} (h : (intItems xs)[i]? = some v) : ∃ t, v = .int (numAt xs i) t := intItems_at h
theorem cr_sumD (hc : X.calm = true) : CallR X (.builtin "sum") (rSumD X.K) := by
  intro pins s σ H vs us Q I r h
  obtain ⟨v, ns, rfl, hs, q⟩ := h
  obtain ⟨u, rfl, ru⟩ := vals1 r
  rcases hs with hs | hs
  · cases hs with
    | lst hl ha =>
      cases ru
      have := dpAll_ints ha
      subst this
      obtain ⟨its, rv, pl, _⟩ := I.list hl
      exact sum_raw (I.ok.hd hc) pl.isList rv.ints fun h' tk t' hk => ⟨.int _, H, I.kept hk, ⟨_, rfl⟩, q⟩
  · cases hs with
    | tup hl ha =>
      cases ru
      have := dpAll_ints ha
      subst this
      obtain ⟨its, rv, pl, _⟩ := I.tuple hl
      obtain ⟨xs, e⟩ := rv.ints.allInts.items
      have hn : numsOf (intItems xs).toList = ns := by rw [← e]; exact rv.ints.numsOf
      rw [nums_intItems] at hn
      rw [e] at pl
      refine PySem.call_sum_walkAnyS (PySem.W.iter_tupleW (A := X.A.in1) (I.ok.hd hc) pl fun s₂ e W st hfp hw hk => ?_)
      refine ⟨_, _, _, _, _, _, _, numAt xs, rfl, W, st, hfp, fun i v hv => intItems_at hv, fun s' t' m => ?_⟩
      obtain ⟨h', tk, rfl, hk'⟩ := PySem.W.moved_old e rfl m
      have hsz : (intItems xs).size = xs.size := by simp [intItems]
      rw [hsz, preSum_eq, List.take_of_length_le (by simp), hn]
      exact ⟨.int _, H, I.kept hk', ⟨_, rfl⟩, q⟩
end

section
variable {prog : Program} {w : World} {A : Around} {E : Value → Shared → Prop} {s : Shared}
open PyProof.Rows in
theorem collect_tuple {l : Addr} {vs : List Value} {Q : List Value → Shared → Prop} (hl : s.heap.IsTuple l vs.toArray)
    (h : Q vs { s with heap := (s.heap.push (seqObj "list" #[] 0)).update s.heap.objs.size (Obj.mapSeq (· ++ vs.toArray)) }) (hsz : vs.length ≤ sizeLine) :
    wpAny (model prog w) A (collect (.ref l)) Q E s := by
  obtain ⟨o, ho, hc, n, hd⟩ := id hl
  unfold collect
  refine wpAny_bind (wpAny_runValue (codeAny_builtin entry_proto_collect' ?_))
  show wpAny _ _ (do again (.builtin "list.__iadd__" ⟨[← newList [], .ref l], []⟩)) _ _ s
  refine wpAny_bind (wpAny_newList (wpAny_pure ⟨Code.quiet_builtin _ (by decide +kernel), codeAny_builtin entry_list_iadd' ?_⟩))
  show wpAny _ _ (Builtin.List.listExtendWith (.ref s.heap.objs.size) (.ref l) (.ref s.heap.objs.size)) _ _ { s with heap := s.heap.push (seqObj "list" #[] 0) }
  unfold Builtin.List.listExtendWith
  have ho' : (s.heap.push (seqObj "list" #[] 0)).get? l = some o := Heap.get?_push_of_some _ ho
  refine wpAny_bind (wpAny_typeOf (T := "tuple") ⟨o, ho', hc⟩ ?_)
  have ht : (Value.type "tuple" == Value.type "tuple") = true := by rfl
  rw [if_pos (by rw [ht]; simp)]
  refine wpAny_bind (listItems_at ho' hd ?_)
  refine wpAny_bind (listItems_at (xs := #[]) (n := 0) (Heap.get?_push_size _ rfl) rfl ?_)
  rw [if_neg (by simp)]
  refine wpAny_bind (listUpdate_at (xs := #[]) (n := 0) (Heap.get?_push_size _ rfl) rfl ?_ (Nat.zero_le _) (by show (#[] ++ vs.toArray).size ≤ sizeLine + 1; simp only [Array.size_append, List.size_toArray, List.length_nil]; omega))
  refine wpAny_pure ?_
  show wpAny (model prog w) A (do
      let o ← load s.heap.objs.size
      match o.data with
      | .seq xs _ => pure xs.toList
      | _ => unsupported "internal:collect") Q E { s with heap := (s.heap.push (seqObj "list" #[] 0)).update s.heap.objs.size (Obj.mapSeq (· ++ vs.toArray)) }
  refine wpAny_bind (wpAny_load (get?_update_seq (Heap.get?_push_size _ rfl) _) ?_)
  show wpAny _ _ (pure ((#[] : Array Value) ++ vs.toArray).toList) Q E _
  rw [show ((#[] : Array Value) ++ vs.toArray).toList = vs by simp]
  exact wpAny_pure h
open PyProof.Rows Srt SrtO in
/-- sorted of a list or a tuple: the collected items, then list.sort -/
theorem sorted_ordX {l : Addr} {vs : List Value} {b : Bool} {kw : List (Str × Value)} {ltv : Value → Value → Bool} {Q : Value → Shared → Prop} (hk : ∀ a, Builtin.«list.sort» ⟨[.ref a], kw⟩ = Builtin.«list.sort» ⟨[.ref a], [(Str.ofString "reverse", .bool b)]⟩)
    (ha1 : argsOk "sorted" ⟨[.ref l], kw⟩) (ha2 : ∀ a, argsOk "list.sort" ⟨[a], kw⟩) (O : Swo ltv) (hl : s.heap.IsList l vs.toArray ∨ s.heap.IsTuple l vs.toArray) (hz : vs.length ≤ sizeLine)
    (hS : 2 ≤ vs.length → ∀ (h₁ : Heap) (a : Addr), h₁.get? a = some (seqObj "list" vs.toArray 0) → (∀ b o, s.heap.get? b = some o → b ≠ a ∧ h₁.get? b = some o) → SortableO prog w A.in1.in1 { s with heap := h₁ } a vs ltv)
    (h : ∀ out : List Value, Srtd ltv out → Stb ltv out (if b = true then vs.reverse else vs) → Q (.ref (s.heap.objs.size + 1)) { s with heap := sortedAll s.heap vs (if b = true then out.toArray.reverse else out.toArray) }) :
    wpAny (model prog w) A (call (.builtin "sorted") [.ref l] kw) Q E s := by
  refine call_function_entry_kw kind_sorted plain_sorted entry_sorted ha1 ?_
  unfold Builtin.«sorted»
  refine wpAny_bind (m := checkCount "sorted" 1 1 _) (wpAny_pure ?_)
  have hcol : ∀ {Q' : List Value → Shared → Prop} {E' : Value → Shared → Prop}, Q' vs { s with heap := (s.heap.push (seqObj "list" #[] 0)).update s.heap.objs.size (Obj.mapSeq (· ++ vs.toArray)) } → wpAny (model prog w) A.in1 (collect (.ref l)) Q' E' s := fun q => by
    rcases hl with hl | hl
    · exact collect_list hl q hz
    · exact collect_tuple hl q hz
  refine wpAny_bind (hcol ?_)
  refine wpAny_bind (wpAny_newList ?_ hz)
  have hsz : ((s.heap.push (seqObj "list" #[] 0)).update s.heap.objs.size (Obj.mapSeq (· ++ vs.toArray))).objs.size = s.heap.objs.size + 1 := by
    rw [Heap.size_update, size_push']
  have hoL : (((s.heap.push (seqObj "list" #[] 0)).update s.heap.objs.size (Obj.mapSeq (· ++ vs.toArray))).push (seqObj "list" vs.toArray 0)).get? (s.heap.objs.size + 1) = some (seqObj "list" vs.toArray 0) := by
    rw [← hsz]; exact Heap.get?_push_size _ rfl
  have keep : ∀ b o, s.heap.get? b = some o → b ≠ s.heap.objs.size + 1 ∧ (((s.heap.push (seqObj "list" #[] 0)).update s.heap.objs.size (Obj.mapSeq (· ++ vs.toArray))).push (seqObj "list" vs.toArray 0)).get? b = some o := fun b o q => by
    have hlt : b < s.heap.objs.size := Heap.lt_size q
    refine ⟨Nat.ne_of_lt (Nat.lt_succ_of_lt hlt), Heap.get?_push_of_some _ ?_⟩
    rw [Heap.get?_update_ne _ _ _ _ (Nat.ne_of_lt hlt)]
    exact Heap.get?_push_of_some _ q
  show wpAny _ _ _ _ _ { s with heap := ((s.heap.push (seqObj "list" #[] 0)).update s.heap.objs.size (Obj.mapSeq (· ++ vs.toArray))).push (seqObj "list" vs.toArray 0) }
  rw [hsz]
  refine wpAny_bind (wpAny_holding (wpAny_call_entry_kw slot_list_sort ⟨_, hoL, rfl⟩ entry_list_sort ?_ (ha2 _)))
  rw [hk]
  refine SrtR.list_sort_ordR O hoL hz (fun h2 => hS h2 _ _ hoL keep) fun out hs hb => ⟨_, rfl, ?_⟩
  exact wpAny_pure ⟨_, rfl, h out hs hb⟩
end
section
variable {X : Cx}
/-- sorted(xs, reverse=b) of ints, a list or a tuple -/
def rSortedR (K : PySem.W.Frag) (b : Bool) (zs0 : List V) : List V → List V → Hp → VK → Prop := fun vs zs H Q => ∃ v ns, vs = [v] ∧ zs = zs0 ∧ IsIs K H v ns ∧
  ∀ (ns' : List Int) (p : Addr), ns'.Perm ns → OrdB b ns' → H p = none → Q (.ref p) (upd H p (.lst (ns'.map V.int)))
theorem sorted_runX {b : Bool} {kw : List (Str × Value)} {pins : List (Addr × Obj)} {s : Shared} {σ : L2.St} {H : Hp} {v : V} {u : Value} {ns : List Int} {Q : VK} (I : Inv X pins σ H s) (hs : IsIs X.K H v ns) (ru : RelV v u)
    (hk : ∀ a, Builtin.«list.sort» ⟨[.ref a], kw⟩ = Builtin.«list.sort» ⟨[.ref a], [(Str.ofString "reverse", .bool b)]⟩) (ha1 : ∀ l, argsOk "sorted" ⟨[.ref l], kw⟩) (ha2 : ∀ a, argsOk "list.sort" ⟨[a], kw⟩)
    (q : ∀ (ns' : List Int) (p : Addr), ns'.Perm ns → OrdB b ns' → H p = none → Q (.ref p) (upd H p (.lst (ns'.map V.int)))) : wpAny (model X.prog X.w) X.A (call (.builtin "sorted") [u] kw) (EP X pins σ Q) X.xe s := by
  have key : ∀ (l : Addr) (its : List Value), Vals (ns.map V.int) its → (s.heap.IsList l its.toArray ∨ s.heap.IsTuple l its.toArray) → (ns.map V.int).length ≤ sizeLine → wpAny (model X.prog X.w) X.A (call (.builtin "sorted") [.ref l] kw) (EP X pins σ Q) X.xe s := fun l its rv hl hz => by
    have hi := rv.ints
    refine sorted_ordX hk (ha1 l) ha2 SrtO.swo_int hl (by rw [← rv.length]; exact hz) (fun h2 h₁ a' _ _ => SrtO.ints_sortable hi h2) fun out h1 h2 => ?_
    obtain ⟨ns', k1, k2, k3⟩ := SrtR.ints_outR hi h1 h2
    obtain ⟨ep, he'⟩ := PyProof.Rows.sortedAll_at s.heap its (if b = true then out.toArray.reverse else out.toArray)
    have hlen : (ns'.map V.int).length ≤ sizeLine := by
      rw [List.length_map, k2.length_eq]
      rw [List.length_map] at hz
      exact hz
    have e0 : ((if b = true then out.toArray.reverse else out.toArray).toList).toArray = (if b = true then out.toArray.reverse else out.toArray) := by rw [Array.toArray_toList]
    exact ⟨.ref _, upd H (s.heap.objs.size + 1) (.lst (ns'.map V.int)), I.laid (t' := s.toks) (fun _ _ => PyProof.Rows.sortedAll_old) (Nat.le_succ _) ⟨hlen, _, ep, vals_of_ints k1, by rw [e0]; exact he'⟩, rfl, q _ _ k2 k3 (I.hok.fresh (Nat.le_succ _))⟩
  rcases hs with hs | hs
  · cases hs with
    | lst hl ha =>
      cases ru
      have := dpAll_ints ha
      subst this
      obtain ⟨its, rv, pl, hz⟩ := I.list hl
      exact key _ its rv (.inl pl.isList) hz
  · cases hs with
    | tup hl ha =>
      cases ru
      have := dpAll_ints ha
      subst this
      obtain ⟨its, rv, pl, hz⟩ := I.tuple hl
      exact key _ its rv (.inr pl) hz
theorem cr_sortedRevX {b : Bool} : CallRK X (.builtin "sorted") [Str.ofString "reverse"] (rSortedR X.K b [.bl b]) := by
  intro pins s σ H vs zs us ws Q I r rz h
  obtain ⟨v, ns, rfl, rfl, hs, q⟩ := h
  obtain ⟨u, rfl, ru⟩ := vals1 r
  obtain ⟨w1, rfl, e1⟩ := vals1 rz
  obtain rfl : w1 = Value.bool b := e1
  exact sorted_runX I hs ru (fun _ => rfl) (fun _ => PyProof.Rows.args_sorted_rev _ _) (fun _ => PyProof.Rows.args_list_sort_rev _ _) q
def rSortedX (K : PySem.W.Frag) : List V → Hp → VK → Prop := fun vs H Q => ∃ v ns, vs = [v] ∧ IsIs K H v ns ∧
  ∀ (ns' : List Int) (p : Addr), ns'.Perm ns → OrdB false ns' → H p = none → Q (.ref p) (upd H p (.lst (ns'.map V.int)))
theorem sort_nokw (a : Addr) : Builtin.«list.sort» ⟨[.ref a], []⟩ = Builtin.«list.sort» ⟨[.ref a], [(Str.ofString "reverse", .bool false)]⟩ := by
  first | rfl | kernel_rfl
theorem cr_sortedX : CallR X (.builtin "sorted") (rSortedX X.K) := by
  intro pins s σ H vs us Q I r h
  obtain ⟨v, ns, rfl, hs, q⟩ := h
  obtain ⟨u, rfl, ru⟩ := vals1 r
  exact sorted_runX (kw := []) I hs ru sort_nokw (fun _ => PyProof.Rows.args_sorted1 _) (fun _ => PyProof.Rows.args_list_sort _) q
/-! tuple * int -/
def rRepA (K : PySem.W.Frag) : R2 := fun x y H Q => ∃ l k xs, x = .ref l ∧ y = .int k ∧ SqT K H l xs ∧ xs ≠ [] ∧ k ≤ 1000 ∧ -1000 ≤ k ∧ xs.length ≤ 1000 ∧ (k = 1 → Q (.ref l) H) ∧ (k ≠ 1 → ∀ p, H p = none → Q (.ref p) (upd H p (.tup (List.replicate k.toNat xs).flatten)))
theorem tuple_mul0 (l : Addr) (items : Array Value) (n : Nat) (dd : Option Addr) (sl : Array (Option Value)) (x : Int) (u : Tok) (c0 : (decide (x < -(2 ^ 63)) || decide (x ≥ 2 ^ 63)) = false) (c1 : (items.isEmpty || x == 1) = false) (c2 : (decide (x ≤ 0) || items.isEmpty) = true) :
    Meets (Builtin.«tuple.__mul__» ⟨[.ref l, .int x u], []⟩) (fun _ R s => s.heap.get? l = some { cls := .type "tuple", dict := dd, data := .seq items n, slots := sl } ∧
      R (.ok (.ret (Value.ref s.heap.objs.size))) { s with heap := s.heap.push { cls := Value.type "tuple", data := Data.seq #[] }, toks := s.toks }) :=
  .of_wp fun prog w A R s h => by
    obtain ⟨hp, g, d, tk, os⟩ := s
    obtain ⟨hl, h⟩ := h
    have f1 := AutoSeq1.idx_int
    wp_walk using wpAny_loadPart' hl
    repeat (first
      | (refine wpAny_ite_false (decide_eq_false (by rw [c0]; exact Bool.false_ne_true)) ?_; wp_walk using wpAny_loadPart' hl)
      | (refine wpAny_ite_false (decide_eq_false (by rw [c1]; exact Bool.false_ne_true)) ?_; wp_walk using wpAny_loadPart' hl)
      | (refine wpAny_ite_true (decide_eq_true (by rw [c2])) ?_; wp_walk using wpAny_loadPart' hl))
    exact ⟨_, rfl, h⟩
theorem tuple_mul1 (l : Addr) (items : Array Value) (n : Nat) (dd : Option Addr) (sl : Array (Option Value)) (x : Int) (u : Tok) (c0 : (decide (x < -(2 ^ 63)) || decide (x ≥ 2 ^ 63)) = false) (c1 : (items.isEmpty || x == 1) = true) :
    Meets (Builtin.«tuple.__mul__» ⟨[.ref l, .int x u], []⟩) (fun _ R s => s.heap.get? l = some { cls := .type "tuple", dict := dd, data := .seq items n, slots := sl } ∧
      R (.ok (.ret (Value.ref l))) { s with toks := s.toks }) :=
  .of_wp fun prog w A R s h => by
    obtain ⟨hp, g, d, tk, os⟩ := s
    obtain ⟨hl, h⟩ := h
    have f1 := AutoSeq1.idx_int
    wp_walk using wpAny_loadPart' hl
    repeat (first
      | (refine wpAny_ite_false (decide_eq_false (by rw [c0]; exact Bool.false_ne_true)) ?_; wp_walk using wpAny_loadPart' hl)
      | (refine wpAny_ite_true (decide_eq_true (by rw [c1])) ?_; wp_walk using wpAny_loadPart' hl))
    exact ⟨_, rfl, h⟩
theorem op_repA : OpR X (binaryOp .Mult) (rRepA X.K) := by
  intro pins s σ H x y v u Q I rx ry h
  obtain ⟨l, k, xs, rfl, rfl, hT, hne, h2, h1, hz, q1, q2⟩ := h
  by_cases hk2 : 2 ≤ k
  · exact op_repT pins s σ H _ _ v u Q I rx ry ⟨l, k, xs, rfl, rfl, hT, hne, hk2, h2, hz, q2 (by omega)⟩
  cases rx
  obtain ⟨t, rfl⟩ := ry
  obtain ⟨its, r, ⟨⟨cls, dd, data, sl⟩, ho, hc, n, hd⟩, hs⟩ := I.tuple hT
  simp only at hc hd
  subst hc hd
  have hle : its.length = xs.length := r.length.symm
  have hn : its ≠ [] := fun e => hne (by
    rw [e] at hle
    exact List.eq_nil_of_length_eq_zero hle.symm)
  have hi : its.toArray.isEmpty = false := by
    cases its with
    | nil => exact absurd rfl hn
    | cons a b => rfl
  have c0 : (decide (k < -(2 ^ 63)) || decide (k ≥ 2 ^ 63)) = false := by
    rw [decide_eq_false (by omega), decide_eq_false (by omega)] <;> rfl
  by_cases hk1 : k = 1
  · have c1 : (its.toArray.isEmpty || k == 1) = true := by
      rw [hk1, hi] <;> rfl
    refine wpAny_binaryOp_repeat_ref (T := "tuple") (U := "int") (by decide) ⟨_, ho, rfl⟩ (fun s' => typeIs_int s' k t) noFill_tuple_mul F.fills_int_mul F.slot_int_rmul repeat_tuple F.slot_int_index.lookup
      (call_meets F.slot_int_rmul (typeIs_int s k t) F.entry_int_rmul (F.args_int_rmul_2 _ _) (int_rmul_tuple k t l its.toArray n dd sl)
        ⟨ho, rfl, ⟨_, ho, rfl⟩, call_meets F.slot_tuple_mul ⟨_, ho, rfl⟩ F.entry_tuple_mul (F.args_tuple_mul_2 _ _) (tuple_mul1 l its.toArray n dd sl k t c0 c1) ⟨ho, ?_⟩⟩)
    exact ⟨.ref l, H, I, rfl, q1 hk1⟩
  · have c1 : (its.toArray.isEmpty || k == 1) = false := by
      rw [hi, Bool.false_or]
      exact beq_eq_false_iff_ne.mpr hk1
    have c2 : (decide (k ≤ 0) || its.toArray.isEmpty) = true := by
      rw [hi, Bool.or_false]
      exact decide_eq_true (by omega)
    refine wpAny_binaryOp_repeat_ref (T := "tuple") (U := "int") (by decide) ⟨_, ho, rfl⟩ (fun s' => typeIs_int s' k t) noFill_tuple_mul F.fills_int_mul F.slot_int_rmul repeat_tuple F.slot_int_index.lookup
      (call_meets F.slot_int_rmul (typeIs_int s k t) F.entry_int_rmul (F.args_int_rmul_2 _ _) (int_rmul_tuple k t l its.toArray n dd sl)
        ⟨ho, rfl, ⟨_, ho, rfl⟩, call_meets F.slot_tuple_mul ⟨_, ho, rfl⟩ F.entry_tuple_mul (F.args_tuple_mul_2 _ _) (tuple_mul0 l its.toArray n dd sl k t c0 c1 c2) ⟨ho, ?_⟩⟩)
    have e0 : (List.replicate k.toNat xs).flatten = [] := by
      rw [show k.toNat = 0 by omega]
      rfl
    have q3 := q2 hk1
    rw [e0] at q3
    exact ⟨.ref s.heap.objs.size, _, I.laid (t' := s.toks) (o := .tup []) (fun b ob q => Heap.get?_push_of_some _ q) (Nat.le_refl _) ⟨Nat.zero_le _, [], .nil, IsTup.new _ _⟩, rfl, q3 _ (I.hok.fresh (Nat.le_refl _))⟩
end
end HM
end
section
/-! HM core 5: operations by data -/
namespace HM
open PySem PySem.Spec PyProof.Rows L2

/-! ### combined machine rules -/
section
variable {X : Cx}
def rOr (r r' : R2) : R2 := fun x y H Q => r x y H Q ∨ r' x y H Q
def cOr (r r' : List V → Hp → VK → Prop) : List V → Hp → VK → Prop := fun vs H Q => r vs H Q ∨ r' vs H Q
def rAddI : R2 := rI0 fun i j => .int (i + j)
def rAddStr : R2 := fun x y H Q => ∃ i j, x = .str i ∧ y = .str j ∧ i.length + j.length ≤ sizeLine ∧ Q (.str (i ++ j)) H
def rAddG (K : PySem.W.Frag) : R2 := rOr rAddI (rOr (rCatA K) (rOr (rCatL K) rAddStr))
theorem op_addG : OpR X (binaryOp .Add) (rAddG X.K) := op_add.or (op_catA.or (op_catL.or op_add_str))
def rSubI : R2 := rI0 fun i j => .int (i - j)
theorem op_subG : OpR X (binaryOp .Sub) rSubI := op_sub
def rMulI : R2 := rI CMul fun i j => .int (i * j)
def rMulG (K : PySem.W.Frag) : R2 := rOr rMulI (rOr (rRepA K) rRep)
theorem op_mulG : OpR X (binaryOp .Mult) (rMulG X.K) := op_mul.or (op_repA.or op_rep)
def rModI : R2 := rI (fun _ j => 0 < j) fun i j => .int (i % j)
theorem op_modG : OpR X (binaryOp .Mod) rModI := op_mod
def rDivI : R2 := rI CDiv fun i j => .int (i / j)
theorem op_divG : OpR X (binaryOp .FloorDiv) rDivI := op_fdiv
def rPowI : R2 := rI CPow fun i j => .int (i ^ j.toNat)
theorem op_powG : OpR X (binaryOp .Pow) rPowI := op_pow
def rLtI : R2 := rI0 fun i j => .bl (decide (i < j))
def rLeI : R2 := rI0 fun i j => .bl (decide (i ≤ j))
def rGtI : R2 := rI0 fun i j => .bl (decide (j < i))
def rGeI : R2 := rI0 fun i j => .bl (decide (j ≤ i))
theorem op_ltG : OpR X (compareOp .Lt) rLtI := op_lt
theorem op_leG : OpR X (compareOp .LtE) rLeI := op_le
theorem op_gtG : OpR X (compareOp .Gt) rGtI := op_gt
theorem op_geG : OpR X (compareOp .GtE) rGeI := op_ge
def rIsNon : R2 := fun x y H Q => y = .non ∧ Q (.bl (decide (x = .non))) H
def rNotNon : R2 := fun x y H Q => y = .non ∧ Q (.bl (!decide (x = .non))) H
def rIsG : R2 := rOr rIsB rIsNon
def rIsNotG : R2 := rOr rNotB rNotNon
theorem op_isG : OpR X (compareOp .Is) rIsG := op_isBl.or op_isN
theorem op_isNotG : OpR X (compareOp .IsNot) rIsNotG := op_notBl.or op_notN
def rMax2 : List V → Hp → VK → Prop := fun xs H Q => ∃ i j, xs = [.int i, .int j] ∧ Q (.int (if j > i then j else i)) H
def rMin2 : List V → Hp → VK → Prop := fun xs H Q => ∃ i j, xs = [.int i, .int j] ∧ Q (.int (if j < i then j else i)) H
def rMaxG (K : PySem.W.Frag) := cOr (rMaxD K) rMax2
def rMinG (K : PySem.W.Frag) := cOr (rMinD K) rMin2
theorem call_maxG (hc : X.calm = true) (hu : X.A.units + 64 < cLine) : CallR X (.builtin "max") (rMaxG X.K) := (cr_maxD hc hu).or (call_max2 hc)
theorem call_minG (hc : X.calm = true) (hu : X.A.units + 64 < cLine) : CallR X (.builtin "min") (rMinG X.K) := (cr_minD hc hu).or (call_min2 hc)
def rLenS (K : PySem.W.Frag) : List V → Hp → VK → Prop := fun xs H Q => ∃ p ys, xs = [.ref p] ∧ (SqL K H p ys ∨ SqT K H p ys) ∧ Q (.int ys.length) H
theorem call_lenG : CallR X (.builtin "len") (rLenS X.K) := call_len_seq
def rInt1 : List V → Hp → VK → Prop := fun xs H Q => (∃ i, xs = [.int i] ∧ Q (.int i) H) ∨ ∃ k, xs = [.bl k] ∧ Q (.int (if k then 1 else 0)) H
theorem call_intG : CallR X (.type "int") rInt1 := call_int1
def rAbs : List V → Hp → VK → Prop := fun xs H Q => ∃ i, xs = [.int i] ∧ Q (.int (if i < 0 then -i else i)) H
theorem call_absG : CallR X (.builtin "abs") rAbs := call_abs
def rTupOf (K : PySem.W.Frag) : List V → Hp → VK → Prop := fun xs H Q => ∃ p ys, xs = [.ref p] ∧ ((SqL K H p ys ∧ ∀ l, H l = none → Q (.ref l) (upd H l (.tup ys))) ∨ (SqT K H p ys ∧ Q (.ref p) H))
theorem call_tupG : CallR X (.type "tuple") (rTupOf X.K) := call_tuple_of
def rLstOf (K : PySem.W.Frag) : List V → Hp → VK → Prop := fun xs H Q => ∃ p ys, xs = [.ref p] ∧ (SqL K H p ys ∨ SqT K H p ys) ∧ ∀ l, H l = none → Q (.ref l) (upd H l (.lst ys))
theorem call_lstG : CallR X (.type "list") (rLstOf X.K) := call_list_of
def rDivmod : List V → Hp → VK → Prop := fun xs H Q => ∃ i j, xs = [.int i, .int j] ∧ CDiv i j ∧ ∀ p, H p = none → Q (.ref p) (upd H p (.tup [.int (i / j), .int (i % j)]))
theorem call_divmodG : CallR X (.builtin "divmod") rDivmod := call_divmod
/-- isinstance(v, T), T a built-in class -/
def isa (c : String) (d : PyData) : Option Bool :=
  if c = "int" then some d.isInt else if c = "bool" then some d.isBool else if c = "tuple" then some d.isTuple else if c = "list" then some d.isList else if c = "str" then some d.isStr else none
def rIsaD (K : PySem.W.Frag) : List V → Hp → VK → Prop := fun vs H Q => ∃ v d c b, vs = [v, .ty c] ∧ Dp K H v d ∧ isa c d = some b ∧ Q (.bl b) H
theorem call_isaG : CallR X (.builtin "isinstance") (rIsaD X.K) := by
  intro pins s σ H vs us Q I r h
  obtain ⟨v, d, c, b, rfl, hd, hb, q⟩ := h
  obtain ⟨u, u2, rfl, ru, r2⟩ := vals2 r
  cases r2
  obtain ⟨as, rd⟩ := Dp.reads I d v u hd ru
  have fin : ∀ tk, s.toks ≤ tk → EP X pins σ Q (.bool b) { s with toks := tk } := fun tk _ => ⟨.bl b, H, I.tok tk, rfl, q⟩
  unfold isa at hb
  by_cases h1 : c = "int"
  · subst h1
    rw [if_pos rfl] at hb
    cases hb
    exact PySem.W.isinstance_int_data rd fin
  rw [if_neg h1] at hb
  by_cases h1 : c = "bool"
  · subst h1
    rw [if_pos rfl] at hb
    cases hb
    exact PySem.W.isinstance_bool_data rd fin
  rw [if_neg h1] at hb
  by_cases h1 : c = "tuple"
  · subst h1
    rw [if_pos rfl] at hb
    cases hb
    exact PySem.W.isinstance_tuple_data rd fin
  rw [if_neg h1] at hb
  by_cases h1 : c = "list"
  · subst h1
    rw [if_pos rfl] at hb
    cases hb
    exact PySem.W.isinstance_list_data rd fin
  rw [if_neg h1] at hb
  by_cases h1 : c = "str"
  · subst h1
    rw [if_pos rfl] at hb
    cases hb
    exact PySem.W.isinstance_str_data rd fin
  rw [if_neg h1] at hb
  cases hb
end

/-! ### data -/
def tI (ns : List Int) : PyData := .tuple (ns.map .int)
def lI (ns : List Int) : PyData := .list (ns.map .int)
theorem plainAll_ints : ∀ ns : List Int, PyData.plainAll (ns.map .int) = true
  | [] => by simp [PyData.plainAll]
  | n :: ns => by simp [PyData.plainAll, PyData.plain, plainAll_ints ns]
theorem flat_int (n : Int) : Flat (.int n) := ⟨by simp [PyData.plain], by simp [PyData.depth]⟩
theorem flat_bool (b : Bool) : Flat (.bool b) := ⟨by simp [PyData.plain], by simp [PyData.depth]⟩
theorem flat_none : Flat .none := ⟨by simp [PyData.plain], by simp [PyData.depth]⟩
theorem flat_str (s : Str) : Flat (.str s) := ⟨by simp [PyData.plain], by simp [PyData.depth]⟩
theorem flat_tI (ns : List Int) : Flat (tI ns) := ⟨by simp [tI, PyData.plain, plainAll_ints], by simp [tI, PyData.depth, depth_ints']⟩
theorem flat_lI (ns : List Int) : Flat (lI ns) := ⟨by simp [lI, PyData.plain, plainAll_ints], by simp [lI, PyData.depth, depth_ints']⟩
theorem eqvAll_ints : ∀ xs ys : List Int, PyData.eqvAll (xs.map .int) (ys.map .int) = decide (xs = ys)
  | [], [] => by simp [PyData.eqvAll]
  | [], _ :: _ => by simp [PyData.eqvAll]
  | _ :: _, [] => by simp [PyData.eqvAll]
  | x :: xs, y :: ys => by simp [PyData.eqvAll, PyData.eqv, eqvAll_ints xs ys, Bool.beq_eq_decide_eq]
theorem eqv_tI (xs ys : List Int) : PyData.eqv (tI xs) (tI ys) = decide (xs = ys) := by simp [tI, PyData.eqv, eqvAll_ints]
theorem eqv_lI (xs ys : List Int) : PyData.eqv (lI xs) (lI ys) = decide (xs = ys) := by simp [lI, PyData.eqv, eqvAll_ints]
theorem eqv_int (x y : Int) : PyData.eqv (.int x) (.int y) = decide (x = y) := by simp [PyData.eqv, Bool.beq_eq_decide_eq]
theorem eqv_bool (x y : Bool) : PyData.eqv (.bool x) (.bool y) = decide (x = y) := by simp [PyData.eqv, Bool.beq_eq_decide_eq]

/-- a value that reads as data now -/
def Rd1 (x : Dv) (d : PyData) : Prop := x = .d d ∨ x = .t d
theorem Rd1.dp {K : PySem.W.Frag} {B H : Hp} {x : Dv} {d : PyData} {v : V} (h : Rd1 x d) (e : Same B H) (r : DV K B H x v) : Dp K H v d := by
  rcases h with rfl | rfl
  · exact dpMono e r
  · exact r

section
variable {K : PySem.W.Frag} {x y z : Dv} {P : Dv → Prop} {r r' : R2}
theorem Rv.lft (h : Rv K r x y P) : Rv K (rOr r r') x y P := fun B H v w e a b Q q => .inl (h B H v w e a b Q q)
theorem Rv.rgt (h : Rv K r' x y P) : Rv K (rOr r r') x y P := fun B H v w e a b Q q => .inr (h B H v w e a b Q q)
theorem RvL.lft {P : List PyData → Prop} (h : RvL K r x y P) : RvL K (rOr r r') x y P := fun B H v w e a b Q q => .inl (h B H v w e a b Q q)
theorem RvL.rgt {P : List PyData → Prop} (h : RvL K r' x y P) : RvL K (rOr r r') x y P := fun B H v w e a b Q q => .inr (h B H v w e a b Q q)
/-- ints in, data that needs no heap out -/
theorem rv_I0 {g : Int → Int → Int} {i j : Int} : Rv K (rI0 fun i j => .int (g i j)) (.d (.int i)) (.d (.int j)) (· = .d (.int (g i j))) := fun B H v w e a b Q q => by
  cases a; cases b
  exact ⟨i, j, rfl, rfl, q _ _ B H rfl (Stp.refl e) (.int _)⟩
theorem rv_B0 {g : Int → Int → Bool} {i j : Int} : Rv K (rI0 fun i j => .bl (g i j)) (.d (.int i)) (.d (.int j)) (· = .d (.bool (g i j))) := fun B H v w e a b Q q => by
  cases a; cases b
  exact ⟨i, j, rfl, rfl, q _ _ B H rfl (Stp.refl e) (.bl _)⟩
theorem rv_IC {C : Int → Int → Prop} {g : Int → Int → Int} {i j : Int} (hc : C i j) : Rv K (rI C fun i j => .int (g i j)) (.d (.int i)) (.d (.int j)) (· = .d (.int (g i j))) := fun B H v w e a b Q q => by
  cases a; cases b
  exact ⟨i, j, rfl, rfl, hc, q _ _ B H rfl (Stp.refl e) (.int _)⟩
theorem rv_add {i j : Int} : Rv K (rAddG K) (.d (.int i)) (.d (.int j)) (· = .d (.int (i + j))) := Rv.lft (rv_I0 (g := fun i j => i + j))
theorem rv_sub {i j : Int} : Rv K rSubI (.d (.int i)) (.d (.int j)) (· = .d (.int (i - j))) := rv_I0 (g := fun i j => i - j)
theorem rv_mul {i j : Int} (h : CMul i j) : Rv K (rMulG K) (.d (.int i)) (.d (.int j)) (· = .d (.int (i * j))) := Rv.lft (rv_IC (g := fun i j => i * j) h)
theorem rv_mod {i j : Int} (h : 0 < j) : Rv K rModI (.d (.int i)) (.d (.int j)) (· = .d (.int (i % j))) := rv_IC (g := fun i j => i % j) h
theorem rv_div {i j : Int} (h : 0 < j) (h2 : j < 1073741824) : Rv K rDivI (.d (.int i)) (.d (.int j)) (· = .d (.int (i / j))) := rv_IC (g := fun i j => i / j) ⟨h, h2⟩
theorem rv_pow {i j : Int} (h : CPow i j) : Rv K rPowI (.d (.int i)) (.d (.int j)) (· = .d (.int (i ^ j.toNat))) := rv_IC (g := fun i j => i ^ j.toNat) h
theorem rv_lt {i j : Int} : Rv K rLtI (.d (.int i)) (.d (.int j)) (· = .d (.bool (decide (i < j)))) := rv_B0 (g := fun i j => decide (i < j))
theorem rv_le {i j : Int} : Rv K rLeI (.d (.int i)) (.d (.int j)) (· = .d (.bool (decide (i ≤ j)))) := rv_B0 (g := fun i j => decide (i ≤ j))
theorem rv_gt {i j : Int} : Rv K rGtI (.d (.int i)) (.d (.int j)) (· = .d (.bool (decide (j < i)))) := rv_B0 (g := fun i j => decide (j < i))
theorem rv_ge {i j : Int} : Rv K rGeI (.d (.int i)) (.d (.int j)) (· = .d (.bool (decide (j ≤ i)))) := rv_B0 (g := fun i j => decide (j ≤ i))
theorem rv_eq {d e : PyData} (h1 : Rd1 x d) (h2 : Rd1 y e) (f1 : Flat d) (f2 : Flat e) : Rv K (rEqP K) x y (· = .d (.bool (PyData.eqv d e))) := fun B H v w eb a b Q q =>
  ⟨d, e, h1.dp eb a, h2.dp eb b, f1, f2, q _ _ B H rfl (Stp.refl eb) (.bl _)⟩
theorem rv_ne {d e : PyData} (h1 : Rd1 x d) (h2 : Rd1 y e) (f1 : Flat d) (f2 : Flat e) : Rv K (rNeP K) x y (· = .d (.bool (!PyData.eqv d e))) := fun B H v w eb a b Q q =>
  ⟨d, e, h1.dp eb a, h2.dp eb b, f1, f2, q _ _ B H rfl (Stp.refl eb) (.bl _)⟩
theorem rv_in {d e : PyData} {xs : List PyData} (h1 : Rd1 x d) (h2 : Rd1 y e) (he : e = .list xs ∨ e = .tuple xs) (f1 : Flat d) (f2 : Flat e) : Rv K (rInP K) x y (· = .d (.bool (xs.any fun y => PyData.eqv y d))) := fun B H v w eb a b Q q =>
  ⟨d, e, xs, h1.dp eb a, h2.dp eb b, he, f1, f2, q _ _ B H rfl (Stp.refl eb) (.bl _)⟩
theorem rv_notin {d e : PyData} {xs : List PyData} (h1 : Rd1 x d) (h2 : Rd1 y e) (he : e = .list xs ∨ e = .tuple xs) (f1 : Flat d) (f2 : Flat e) : Rv K (rNotInP K) x y (· = .d (.bool (!xs.any fun y => PyData.eqv y d))) := fun B H v w eb a b Q q =>
  ⟨d, e, xs, h1.dp eb a, h2.dp eb b, he, f1, f2, q _ _ B H rfl (Stp.refl eb) (.bl _)⟩
theorem rv_isB {a b : Bool} : Rv K rIsG (.d (.bool a)) (.d (.bool b)) (· = .d (.bool (decide (a = b)))) := fun B H v w e h1 h2 Q q => by
  cases h1; cases h2
  exact .inl ⟨a, b, rfl, rfl, q _ _ B H rfl (Stp.refl e) (.bl _)⟩
theorem rv_catT {xs ys : List PyData} (hl : xs.length + ys.length ≤ 1000000) : Rv K (rAddG K) (.d (.tuple xs)) (.d (.tuple ys)) (· = .d (.tuple (xs ++ ys))) := Rv.rgt (Rv.lft fun B H v w e a b Q q => by
  cases a with
  | tup ha da =>
    cases b with
    | tup hb db =>
      have l1 := dpAll_len da
      have l2 := dpAll_len db
      refine ⟨_, _, _, _, rfl, rfl, sameT e ha, sameT e hb, line_le (by omega), fun z => ?_, fun _ z => ?_, fun _ _ p np => ?_⟩
      · subst z
        cases da
        exact q _ _ B H rfl (Stp.refl e) (Dp.tup hb db)
      · subst z
        cases db
        rw [List.append_nil] at q
        exact q _ _ B H rfl (Stp.refl e) (Dp.tup ha da)
      · exact q _ _ _ _ rfl (Stp.new e np) (Dp.tup (SqT.of upd_same) (dpAllMono (same_upd (e.free np)) (dpAll_app da db))))
theorem rvl_cat {xs ys : List PyData} (hl : xs.length + ys.length ≤ 1000000) : RvL K (rAddG K) (.d (.list xs)) (.d (.list ys)) (· = xs ++ ys) := RvL.rgt (RvL.rgt (RvL.lft fun B H v w e a b Q q => by
  cases a with
  | lst ha da =>
    cases b with
    | lst hb db =>
      have l1 := dpAll_len da
      have l2 := dpAll_len db
      exact ⟨_, _, _, _, rfl, rfl, Same.seq e ha, Same.seq e hb, by omega, fun p np => q _ p _ B _ rfl (Stp.open e np) np (e.free np) upd_same (dpAll_app da db)⟩))
theorem rep_len {α : Type} (xs : List α) (n : Nat) : (List.replicate n xs).flatten.length = n * xs.length := by
  induction n with
  | zero => simp
  | succ n ih => rw [List.replicate_succ, List.flatten_cons, List.length_append, ih, Nat.succ_mul]; omega
theorem dpAll_rep {H : Hp} {vs : List V} {ds : List PyData} (h : DpAll K H vs ds) : ∀ n : Nat, DpAll K H (List.replicate n vs).flatten (List.replicate n ds).flatten
  | 0 => .nil
  | n + 1 => by
    rw [List.replicate_succ, List.replicate_succ, List.flatten_cons, List.flatten_cons]
    exact dpAll_app h (dpAll_rep h n)
theorem rv_repT {xs : List PyData} {k : Int} (hne : xs ≠ []) (hl : xs.length ≤ 1000) (h1 : k ≤ 1000) (h2 : -1000 ≤ k) : Rv K (rMulG K) (.d (.tuple xs)) (.d (.int k)) (· = .d (.tuple (List.replicate k.toNat xs).flatten)) := Rv.rgt (Rv.lft fun B H v w e a b Q q => by
  cases a with
  | tup ha da =>
    cases b
    have l1 := dpAll_len da
    refine ⟨_, _, _, rfl, rfl, sameT e ha, fun z => hne (by subst z; cases da; rfl), h1, h2, by omega, fun z => ?_, fun _ p np => ?_⟩
    · subst z
      rw [show (List.replicate (Int.toNat 1) xs).flatten = xs by simp] at q
      exact q _ _ B H rfl (Stp.refl e) (Dp.tup ha da)
    · exact q _ _ _ _ rfl (Stp.new e np) (Dp.tup (SqT.of upd_same) (dpAllMono (same_upd (e.free np)) (dpAll_rep da _))))
/-! places -/
theorem atI_of {α : Type} {xs : List α} {j : Nat} {i : Int} {v : α} (h : xs[j]? = some v) (e : i = j) : atI xs i = some v := by rw [e]; exact atI_nat h
theorem rv_ixT {xs : List PyData} {d : PyData} {i : Int} (h : atI xs i = some d) : Rv K (rIx K) (.d (.tuple xs)) (.d (.int i)) (· = .d d) := fun B H v w e a b Q q => by
  cases a with
  | tup ha da =>
    cases b
    unfold atI at h
    obtain ⟨j, hj, hx⟩ := Option.bind_eq_some_iff.mp h
    obtain ⟨u, hu, ru⟩ := dpAll_get da hx
    refine .inr (.inl ⟨_, _, i, u, rfl, rfl, sameT e ha, ?_, q _ _ B H rfl (Stp.refl e) ru⟩)
    unfold atI
    rw [dpAll_len da, hj]
    exact hu
theorem rv_ixL {xs : List PyData} {d : PyData} {i : Int} (h : atI xs i = some d) : Rv K (rIx K) (.d (.list xs)) (.d (.int i)) (· = .d d) := fun B H v w e a b Q q => by
  cases a with
  | lst ha da =>
    cases b
    unfold atI at h
    obtain ⟨j, hj, hx⟩ := Option.bind_eq_some_iff.mp h
    obtain ⟨u, hu, ru⟩ := dpAll_get da hx
    refine .inl ⟨_, _, i, u, rfl, rfl, Same.seq e ha, ?_, q _ _ B H rfl (Stp.refl e) ru⟩
    unfold atI
    rw [dpAll_len da, hj]
    exact hu
/-- an int of an open list -/
theorem rv_ixLt {xs : List PyData} {n : Int} {i : Int} (h : atI xs i = some (.int n)) : Rv K (rIx K) (.t (.list xs)) (.d (.int i)) (· = .d (.int n)) := fun B H v w e a b Q q => by
  cases a with
  | lst ha da =>
    cases b
    unfold atI at h
    obtain ⟨j, hj, hx⟩ := Option.bind_eq_some_iff.mp h
    obtain ⟨u, hu, ru⟩ := dpAll_get da hx
    cases ru
    refine .inl ⟨_, _, i, _, rfl, rfl, ha, ?_, q _ _ B H rfl (Stp.refl e) (.int n)⟩
    unfold atI
    rw [dpAll_len da, hj]
    exact hu
/-! calls -/
variable {c c' : List V → Hp → VK → Prop} {xs : List Dv}
theorem Rc.lft (h : Rc K c xs P) : Rc K (cOr c c') xs P := fun B H vs e a Q q => .inl (h B H vs e a Q q)
theorem Rc.rgt (h : Rc K c' xs P) : Rc K (cOr c c') xs P := fun B H vs e a Q q => .inr (h B H vs e a Q q)
theorem dv1 {B H : Hp} {vs : List V} (h : DVs K B H [x] vs) : ∃ v, vs = [v] ∧ DV K B H x v := by
  cases h with
  | cons a b => cases b; exact ⟨_, rfl, a⟩
theorem dv2 {B H : Hp} {vs : List V} (h : DVs K B H [x, y] vs) : ∃ v w, vs = [v, w] ∧ DV K B H x v ∧ DV K B H y w := by
  cases h with
  | cons a b => cases b with | cons b c => cases c; exact ⟨_, _, rfl, a, b⟩
theorem rc_len {d : PyData} {ds : List PyData} (h : Rd1 x d) (hd : d = .list ds ∨ d = .tuple ds) : Rc K (rLenS K) [x] (· = .d (.int (ds.length : Nat))) := fun B H vs e a0 Q q => by
  obtain ⟨v, rfl, a⟩ := dv1 a0
  have dp := h.dp e a
  rcases hd with rfl | rfl
  · cases dp with
    | lst hs ha => exact ⟨_, _, rfl, .inl hs, by rw [dpAll_len ha]; exact q _ _ B H rfl (Stp.refl e) (.int _)⟩
  · cases dp with
    | tup hs ha => exact ⟨_, _, rfl, .inr hs, by rw [dpAll_len ha]; exact q _ _ B H rfl (Stp.refl e) (.int _)⟩
theorem rc_max2 {i j : Int} : Rc K (rMaxG K) [.d (.int i), .d (.int j)] (· = .d (.int (max i j))) := Rc.rgt fun B H vs e a0 Q q => by
  obtain ⟨v, w, rfl, a, b⟩ := dv2 a0
  cases a; cases b
  refine ⟨i, j, rfl, ?_⟩
  rw [show (if j > i then j else i) = max i j by omega]
  exact q _ _ B H rfl (Stp.refl e) (.int _)
theorem rc_min2 {i j : Int} : Rc K (rMinG K) [.d (.int i), .d (.int j)] (· = .d (.int (min i j))) := Rc.rgt fun B H vs e a0 Q q => by
  obtain ⟨v, w, rfl, a, b⟩ := dv2 a0
  cases a; cases b
  refine ⟨i, j, rfl, ?_⟩
  rw [show (if j < i then j else i) = min i j by omega]
  exact q _ _ B H rfl (Stp.refl e) (.int _)
/-- x is a list or a tuple of ints -/
def IsD (x : Dv) (ns : List Int) : Prop := Rd1 x (lI ns) ∨ Rd1 x (tI ns)
theorem IsD.is {B H : Hp} {v : V} {ns : List Int} (h : IsD x ns) (e : Same B H) (a : DV K B H x v) : IsIs K H v ns := by
  rcases h with h | h
  · exact .inl (h.dp e a)
  · exact .inr (h.dp e a)
theorem rc_max {n : Int} {ns : List Int} (h : IsD x (n :: ns)) : Rc K (rMaxG K) [x] (· = .d (.int (ns.foldl max n))) := Rc.lft fun B H vs e a0 Q q => by
  obtain ⟨v, rfl, a⟩ := dv1 a0
  exact ⟨v, n, ns, rfl, h.is e a, q _ _ B H rfl (Stp.refl e) (.int _)⟩
theorem rc_min {n : Int} {ns : List Int} (h : IsD x (n :: ns)) : Rc K (rMinG K) [x] (· = .d (.int (ns.foldl min n))) := Rc.lft fun B H vs e a0 Q q => by
  obtain ⟨v, rfl, a⟩ := dv1 a0
  exact ⟨v, n, ns, rfl, h.is e a, q _ _ B H rfl (Stp.refl e) (.int _)⟩
theorem rc_sum {ns : List Int} (h : IsD x ns) : Rc K (rSumD K) [x] (· = .d (.int ns.sum)) := fun B H vs e a0 Q q => by
  obtain ⟨v, rfl, a⟩ := dv1 a0
  exact ⟨v, ns, rfl, h.is e a, q _ _ B H rfl (Stp.refl e) (.int _)⟩
theorem rc_all {bs : List Bool} (h : Rd1 x (.list (bs.map .bool))) : Rc K (rAll K) [x] (· = .d (.bool (bs.all id))) := fun B H vs e a0 Q q => by
  obtain ⟨v, rfl, a⟩ := dv1 a0
  have dp := h.dp e a
  cases dp with
  | lst hs ha =>
    have := dpAll_bls ha
    subst this
    exact ⟨_, bs, rfl, hs, q _ _ B H rfl (Stp.refl e) (.bl _)⟩
theorem rc_any {bs : List Bool} (h : Rd1 x (.list (bs.map .bool))) : Rc K (rAny K) [x] (· = .d (.bool (bs.any id))) := fun B H vs e a0 Q q => by
  obtain ⟨v, rfl, a⟩ := dv1 a0
  have dp := h.dp e a
  cases dp with
  | lst hs ha =>
    have := dpAll_bls ha
    subst this
    exact ⟨_, bs, rfl, hs, q _ _ B H rfl (Stp.refl e) (.bl _)⟩
theorem rc_int {n : Int} : Rc K rInt1 [.d (.int n)] (· = .d (.int n)) := fun B H vs e a0 Q q => by
  obtain ⟨v, rfl, a⟩ := dv1 a0
  cases a
  exact .inl ⟨n, rfl, q _ _ B H rfl (Stp.refl e) (.int _)⟩
theorem rc_intB {b : Bool} : Rc K rInt1 [.d (.bool b)] (· = .d (.int (if b then 1 else 0))) := fun B H vs e a0 Q q => by
  obtain ⟨v, rfl, a⟩ := dv1 a0
  cases a
  exact .inr ⟨b, rfl, q _ _ B H rfl (Stp.refl e) (.int _)⟩
theorem rc_abs {n : Int} : Rc K rAbs [.d (.int n)] (· = .d (.int n.natAbs)) := fun B H vs e a0 Q q => by
  obtain ⟨v, rfl, a⟩ := dv1 a0
  cases a
  refine ⟨n, rfl, ?_⟩
  rw [show (if n < 0 then -n else n) = (n.natAbs : Int) by omega]
  exact q _ _ B H rfl (Stp.refl e) (.int _)
theorem rc_tupL {ds : List PyData} : Rc K (rTupOf K) [.d (.list ds)] (· = .d (.tuple ds)) := fun B H vs e a0 Q q => by
  obtain ⟨v, rfl, a⟩ := dv1 a0
  cases a with
  | lst hs ha => exact ⟨_, _, rfl, .inl ⟨Same.seq e hs, fun p np => q _ _ _ _ rfl (Stp.new e np) (Dp.tup (SqT.of upd_same) (dpAllMono (same_upd (e.free np)) ha))⟩⟩
theorem rc_tupT {ds : List PyData} : Rc K (rTupOf K) [.d (.tuple ds)] (· = .d (.tuple ds)) := fun B H vs e a0 Q q => by
  obtain ⟨v, rfl, a⟩ := dv1 a0
  cases a with
  | tup hs ha => exact ⟨_, _, rfl, .inr ⟨sameT e hs, q _ _ B H rfl (Stp.refl e) (Dp.tup hs ha)⟩⟩
theorem rcl_lst {ds : List PyData} (h : x = .d (.list ds) ∨ x = .d (.tuple ds)) : RcL K (rLstOf K) [x] (· = ds) := fun B H vs e a0 Q q => by
  obtain ⟨v, rfl, a⟩ := dv1 a0
  rcases h with rfl | rfl
  · cases a with
    | lst hs ha => exact ⟨_, _, rfl, .inl (Same.seq e hs), fun p np => q _ p _ B _ rfl (Stp.open e np) np (e.free np) upd_same ha⟩
  · cases a with
    | tup hs ha => exact ⟨_, _, rfl, .inr (sameT e hs), fun p np => q _ p _ B _ rfl (Stp.open e np) np (e.free np) upd_same ha⟩
theorem rc_divmod {i j : Int} (h : 0 < j) (h2 : j < 1073741824) : Rc K rDivmod [.d (.int i), .d (.int j)] (· = .d (.tuple [.int (i / j), .int (i % j)])) := fun B H vs e a0 Q q => by
  obtain ⟨v, w, rfl, a, b⟩ := dv2 a0
  cases a; cases b
  exact ⟨i, j, rfl, ⟨h, h2⟩, fun p np => q _ _ _ _ rfl (Stp.new e np) (Dp.tup (SqT.of upd_same) (.cons (.int _) (.cons (.int _) .nil)))⟩
theorem rc_isa {c : String} {d : PyData} {b : Bool} (h : Rd1 x d) (hb : isa c d = some b) : Rc K (rIsaD K) [x, .raw (.ty c)] (· = .d (.bool b)) := fun B H vs e a0 Q q => by
  obtain ⟨v, w, rfl, a, rfl⟩ := dv2 a0
  exact ⟨v, d, c, b, rfl, h.dp e a, hb, q _ _ B H rfl (Stp.refl e) (.bl _)⟩
/-- sorted, by its one list -/
theorem rcl_sorted {ns : List Int} (h : IsD x ns) : RcL K (rSortedX K) [x] (fun l => ∃ ms : List Int, l = ms.map .int ∧ ms.Perm ns ∧ ms.Pairwise (· ≤ ·)) := fun B H vs e a0 Q q => by
  obtain ⟨v, rfl, a⟩ := dv1 a0
  exact ⟨v, ns, rfl, h.is e a, fun ms p pm od np => q _ p _ B _ ⟨ms, rfl, pm, od⟩ (Stp.open e np) np (e.free np) upd_same (dpAll_of_ints ms)⟩
end
/-- a call with keywords -/
theorem ev_kwL {K : PySem.W.Frag} {es : List Sl} {b : Bool} {ns : List Int} {x : Dv} {t tk : TA} (ht : EvA K t es (· = [x])) (hk : EvA K tk es (· = [.d (.bool b)])) (h : IsD x ns) :
    EvL K (tCKw (rSortedR K b [.bl b]) t tk) es (fun l => ∃ ms : List Int, l = ms.map .int ∧ ms.Perm ns ∧ OrdB b ms) := fun B0 H0 B σ H o Q q =>
  ht B0 H0 B σ H o _ fun xs vs B1 H1 e s1 d1 => hk B0 H0 B1 σ H1 (o.mono s1) _ fun ys ws B2 H2 e2 s2 d2 => by
    subst e; subst e2
    obtain ⟨v, rfl, a⟩ := dv1 d1
    obtain ⟨w, rfl, b'⟩ := dv1 d2
    cases b'
    exact ⟨v, ns, rfl, rfl, h.is s2.bh (a.mono s2.bb s2.hh), fun ms p pm od np => q _ p _ B2 _ ⟨ms, rfl, pm, od⟩ ((s1.trans s2).trans (Stp.open s2.bh np)) (s1.hh.free (s2.hh.free np)) (s2.bh.free np) upd_same (dpAll_of_ints ms)⟩
end HM
end
section
/-! HM core 6: what the printed terms name -/
namespace HM
open PySem PySem.Spec PyProof.Rows L2 RZ

/-- a def that may be called by its name -/
structure Cl (P : Program) (w : World) (K : PySem.W.Frag) (mg : Str → Option Value) (base : Heap) (k : Nat) (x : Str) (sp : Sp) : Prop where
  ex : ∃ (f : Addr) (fd : FuncData) (ps : List Str), FnOk P w K mg base CX0 k f fd ps sp ∧ mg x = some (.ref f) ∧ PySem.W.keepIn K (.ref f) = true ∧ Binds K fd ps []
/-- the built-in names that stand -/
structure Blt (mg : Str → Option Value) : Prop where
  n_len : mg "len" = none
  n_tuple : mg "tuple" = none
  n_list : mg "list" = none
  n_range : mg "range" = none
  n_max : mg "max" = none
  n_min : mg "min" = none
  n_sum : mg "sum" = none
  n_all : mg "all" = none
  n_any : mg "any" = none
  n_sorted : mg "sorted" = none
  n_int : mg "int" = none
  n_bool : mg "bool" = none
  n_str : mg "str" = none
  n_abs : mg "abs" = none
  n_divmod : mg "divmod" = none
  n_isinstance : mg "isinstance" = none
  n_zip : mg "zip" = none
  n_enumerate : mg "enumerate" = none
  n_repr : mg "repr" = none
  n_set : mg "set" = none
section
variable {X : Cx} {k j : Nat} {x : Str} {sp : Sp} {p pos : Pos} {e : Expr} {es : List Expr} {t : TA} {te : TE}
theorem pe_cl (c : Cl X.prog X.w X.K X.mg X.base k x sp) (hr : Room j X.A) (hk : k ≤ j) (hg : Gl X x) (ha : PA X (e :: es) t)
    (hdb : (x == ("__debug__" : Str)) = false := by decide) (he : starEach (e :: es) X.env = (false, eval e X.env) :: starEach es X.env := by rfl) (hpl : (backTo pos (starEach es X.env)).any (·.1) = false := by rfl) :
    PE X (.Call (.Name x p) (e :: es) [] pos) (tCall sp [] E0 t) := by
  obtain ⟨f, fd, ps, F, hm, kp, b⟩ := c.ex
  exact pe_call F (hr.mono hk) hg hm kp b .nil pass0 ha hdb he hpl
def iSeq (K : PySem.W.Frag) (te : TE) : TI := fun σ H R => iList K te σ H R ∨ iTup K te σ H R
theorem pi_seq {tg l : Expr} (hl : PE X l te) : PI X tg l (iSeq X.K te) := ⟨fun pins s σ H R I h => by
  rcases h with h | h
  · exact (pi_list hl).run pins s σ H R I h
  · exact (pi_tup hl).run pins s σ H R I h⟩
/-- a slice -/
def rSlG (K : PySem.W.Frag) : V → Option Int → Option Int → Hp → VK → Prop := fun x lo hi H Q => rSlL K x lo hi H Q ∨ rSlA K x lo hi H Q
theorem sl_seq : SlR X (rSlG X.K) := sl_list.or sl_tupA
end
section
variable {K : PySem.W.Frag} {es : List Sl} {te : TE}
theorem EvI.imp {wi : TI} {P P' : Nat → (Nat → Dv) → Prop} (h : EvI K wi es P) (k : ∀ n f, P n f → P' n f) : EvI K wi es P' := fun B0 H0 B σ H o R r => h B0 H0 B σ H o R fun J n f B2 H2 p => r J n f B2 H2 (k n f p)
theorem ei_seqL {xs : List PyData} (h : Ev K te es (· = .d (.list xs))) : EvI K (iSeq K te) es (fun n f => n = xs.length ∧ f = fun i => .d (xs.getD i .none)) := fun B0 H0 B σ H o R r => .inl (ei_list h B0 H0 B σ H o R r)
theorem ei_seqT {xs : List PyData} (h : Ev K te es (· = .d (.tuple xs))) : EvI K (iSeq K te) es (fun n f => n = xs.length ∧ f = fun i => .d (xs.getD i .none)) := fun B0 H0 B σ H o R r => .inr (ei_tup h B0 H0 B σ H o R r)
theorem ei_zipL {ta : TA} {xs ys : List PyData} (h : EvA K ta es (· = [.d (.list xs), .d (.list ys)])) : EvI K (iZipA K ta) es (fun n f => n = min xs.length ys.length ∧ f = fun i => .d (.tuple [xs.getD i .none, ys.getD i .none])) := fun B0 H0 B σ H o R r =>
  h B0 H0 B σ H o _ fun x v B1 H1 e s1 d1 => by
    subst e
    obtain ⟨v, w, rfl, a, b⟩ := dv2 d1
    cases a with
    | lst ha da =>
      cases b with
      | lst hb db => exact ⟨_, _, _, _, rfl, .inl ⟨Same.seq s1.bh ha, Same.seq s1.bh hb, r _ _ _ B1 H1 ⟨rfl, rfl⟩ s1 (wk_zip ha da hb db)⟩⟩
/-- zip of two tuples -/
theorem wk_zipT {B : Hp} {a b : Addr} {vs ws : List V} {xs ys : List PyData} (hs : SqT K B a vs) (ha : DpAll K B vs xs) (hs' : SqT K B b ws) (ha' : DpAll K B ws ys) :
    Wk K B (ItzT K a b) (min xs.length ys.length) (fun i => .d (.tuple [xs.getD i .none, ys.getD i .none])) where
  go := fun i H e hi => by
    obtain ⟨v1, k1, _⟩ := dpAll_get ha (getD_some (xs := xs) (i := i) (by omega))
    obtain ⟨v2, k2, _⟩ := dpAll_get ha' (getD_some (xs := ys) (i := i) (by omega))
    exact ⟨vs, ws, v1, v2, sameT e hs, sameT e hs', k1, k2⟩
  stop := fun H e => ⟨vs, ws, sameT e hs, sameT e hs', by rw [dpAll_len ha, dpAll_len ha']; omega⟩
  yld := fun B1 i H x H' e e1 hi h => by
    obtain ⟨T, x1, y1, rfl, nT, rfl, g1, g2⟩ := h
    have g1 := g1 vs (sameT (e.trans e1) hs)
    have g2 := g2 ws (sameT (e.trans e1) hs')
    obtain ⟨v1, k1, r1⟩ := dpAll_get ha (getD_some (xs := xs) (i := i) (by omega))
    obtain ⟨v2, k2, r2⟩ := dpAll_get ha' (getD_some (xs := ys) (i := i) (by omega))
    rw [k1] at g1
    rw [k2] at g2
    cases g1
    cases g2
    have sb : Same B1 (upd B1 T (.tup [x1, y1])) := same_upd (e1.free nT)
    exact ⟨_, Stp.new e1 nT, Dp.tup (SqT.of upd_same) (.cons (dpMono (e.trans sb) r1) (.cons (dpMono (e.trans sb) r2) .nil))⟩
theorem ei_zipT {ta : TA} {xs ys : List PyData} (h : EvA K ta es (· = [.d (.tuple xs), .d (.tuple ys)])) : EvI K (iZipA K ta) es (fun n f => n = min xs.length ys.length ∧ f = fun i => .d (.tuple [xs.getD i .none, ys.getD i .none])) := fun B0 H0 B σ H o R r =>
  h B0 H0 B σ H o _ fun x v B1 H1 e s1 d1 => by
    subst e
    obtain ⟨v, w, rfl, a, b⟩ := dv2 d1
    cases a with
    | tup ha da =>
      cases b with
      | tup hb db => exact ⟨_, _, _, _, rfl, .inr ⟨sameT s1.bh ha, sameT s1.bh hb, r _ _ _ B1 H1 ⟨rfl, rfl⟩ s1 (wk_zipT ha da hb db)⟩⟩
/-! comprehensions whose parts are known -/
/-- [elt for target in iter] -/
theorem ev_lcAll {wi : TI} {g : TG} {vs js : List Nat} {n : Nat} {f : Nat → Dv} (h : EvI K wi es (fun m h => m = n ∧ h = f)) (v : Nat → PyData) (hn : n ≤ 8000000) (hj : ∀ j ∈ js, j ∈ vs)
    (k : ∀ i, i < n → ∃ es2, Tg K js g (wipeS es vs) (f i) es2 ∧ Ev K te es2 (· = .d (v i))) : EvL K (tLc wi g tYes te vs) es (· = (List.range n).map v) :=
  ev_lc (Pi := fun m h => m = n ∧ h = f) h (fun i ys => ys = (List.range i).map v) (fun _ b => b = true) (fun i d => d = v i) rfl hj fun m f' ⟨em, ef⟩ => by
    subst em; subst ef
    refine ⟨hn, fun i hi => ?_, fun i ys d hi hy _ hd => ?_, fun i ys _ _ hb => (nomatch hb), fun ys hy => hy⟩
    · obtain ⟨es2, tg, ev⟩ := k i hi
      exact ⟨es2, tg, et_yes, fun _ => ev.imp fun x e => ⟨v i, e, rfl⟩⟩
    · rw [hy, hd, List.range_succ, List.map_append]
      rfl
/-- .. if a test, whose answer is known -/
theorem ev_lcIf {wi : TI} {g : TG} {tt : TT} {vs js : List Nat} {n : Nat} {f : Nat → Dv} (h : EvI K wi es (fun m h => m = n ∧ h = f)) (b : Nat → Bool) (v : Nat → PyData) (hn : n ≤ 8000000) (hj : ∀ j ∈ js, j ∈ vs)
    (k : ∀ i, i < n → ∃ es2, Tg K js g (wipeS es vs) (f i) es2 ∧ EvT K tt es2 (· = b i) ∧ (b i = true → Ev K te es2 (· = .d (v i)))) : EvL K (tLc wi g tt te vs) es (· = ((List.range n).filter b).map v) :=
  ev_lc (Pi := fun m h => m = n ∧ h = f) h (fun i ys => ys = ((List.range i).filter b).map v) (fun i c => c = b i) (fun i d => d = v i) rfl hj fun m f' ⟨em, ef⟩ => by
    subst em; subst ef
    refine ⟨hn, fun i hi => ?_, fun i ys d hi hy hb hd => ?_, fun i ys hi hy hb => ?_, fun ys hy => hy⟩
    · obtain ⟨es2, tg, et, ev⟩ := k i hi
      exact ⟨es2, tg, et, fun e => (ev e.symm).imp fun x e => ⟨v i, e, rfl⟩⟩
    · rw [hy, hd, List.range_succ, List.filter_append, List.map_append, List.filter_cons, ← hb]
      rfl
    · rw [hy, List.range_succ, List.filter_append, List.filter_cons, ← hb]
      simp
/-- over a list of things told in Lean -/
theorem range_map {α β : Type} (xs : List α) (d : α) (v : α → β) : (List.range xs.length).map (fun i => v (xs.getD i d)) = xs.map v := by
  apply List.ext_getElem
  · simp
  · intro i h1 h2
    simp at h1
    simp [List.getD_eq_getElem?_getD, h1]
theorem range_filter {α β : Type} (d : α) (b : α → Bool) (v : α → β) : ∀ (xs : List α), ((List.range xs.length).filter fun i => b (xs.getD i d)).map (fun i => v (xs.getD i d)) = (xs.filter b).map v := by
  intro xs
  have e : ((List.range xs.length).map fun i => xs.getD i d) = xs := by
    have := range_map xs d (fun x => x)
    simpa using this
  conv => rhs; rw [← e]
  rw [List.filter_map, List.map_map]
  rfl
end
end HM
end
section
/-! HM core 7: forms that one uses -/
namespace HM
open PySem PySem.Spec PyProof.Rows L2 RZ
section
variable {K : PySem.W.Frag} {es : List Sl} {te ta : TE} {t u : TS} {p : Pst} {P : Dv → Prop}
/-- e' forgets some slots of e -/
def Less (e e' : List Sl) : Prop := e'.length = e.length ∧ ∀ (i : Nat) s, e'[i]? = some s → s = .no ∨ e[i]? = some s
theorem Ok.less {B0 H0 B H : Hp} {σ : L2.St} {e e' : List Sl} (o : Ok K B0 H0 B e σ H) (h : Less e e') : Ok K B0 H0 B e' σ H := by
  refine ⟨o.st, h.1.trans o.len, fun i s hs => ?_, fun i j xs ys a b hij h1 h2 => ?_⟩
  · rcases h.2 i s hs with rfl | hs'
    · have hl : i < σ.length := by
        have := (List.getElem?_eq_some_iff.mp hs).1
        rw [h.1, o.len] at this
        exact this
      exact ⟨σ[i], List.getElem?_eq_getElem hl, trivial⟩
    · exact o.sl i s hs'
  · rcases h.2 i _ h1 with z | h1
    · cases z
    · rcases h.2 j _ h2 with z | h2
      · cases z
      · exact o.ne i j xs ys a b hij h1 h2
theorem Less.refl (e : List Sl) : Less e e := ⟨rfl, fun _ _ h => .inr h⟩
theorem less_nil : Less [] [] := Less.refl _
theorem less_same {s : Sl} {e e' : List Sl} (h : Less e e') : Less (s :: e) (s :: e') := ⟨by simp [h.1], fun i s' hs => by
  cases i with
  | zero => exact .inr hs
  | succ i => exact h.2 i s' (by simpa using hs)⟩
theorem less_no {s : Sl} {e e' : List Sl} (h : Less e e') : Less (s :: e) (.no :: e') := ⟨by simp [h.1], fun i s' hs => by
  cases i with
  | zero => exact .inl (by simpa using hs.symm)
  | succ i => exact h.2 i s' (by simpa using hs)⟩
theorem sx_weak {N : List Sl → Prop} (h : Sx K t es { p with nx := N }) (k : ∀ e, N e → ∃ e', Less e e' ∧ p.nx e') : Sx K t es p := fun B0 H0 B σ H D o g =>
  h B0 H0 B σ H D o ⟨fun e B1 σ1 H1 m q o1 => by
    obtain ⟨e', l, m'⟩ := k e m
    exact g.nx e' B1 σ1 H1 m' q (o1.less l), g.rt, g.rl, g.rx, g.bk, g.ct⟩
theorem sx_less {es' : List Sl} (l : Less es es') (h : Sx K t es' p) : Sx K t es p := fun B0 H0 B σ H D o g => h B0 H0 B σ H D (o.less l) g
/-! comprehensions -/
section
variable {α β : Type}
theorem getD_map (xs : List α) (enc : α → PyData) (i : Nat) (h : i < xs.length) : (xs.map enc).getD i .none = enc xs[i] := by
  simp [List.getD_eq_getElem?_getD, h]
/-- [elt for j in xs] -/
theorem ev_lcMap {wi : TI} {j : Nat} {vs : List Nat} (xs : List α) (enc : α → PyData) (v : α → PyData) (h : EvI K wi es (fun n f => n = (xs.map enc).length ∧ f = fun i => .d ((xs.map enc).getD i .none))) (hn : xs.length ≤ 8000000) (hj : j ∈ vs)
    (k : ∀ x, x ∈ xs → Ev K te ((wipeS es vs).set j (.im (.d (enc x)))) (· = .d (v x))) : EvL K (tLc wi (gName j) tYes te vs) es (· = xs.map v) :=
  ev_lc (js := [j]) (Pi := fun n f => n = (xs.map enc).length ∧ f = fun i => .d ((xs.map enc).getD i .none)) h (fun i ys => ys = (xs.take i).map v) (fun _ b => b = true) (fun i d => ∃ x, xs[i]? = some x ∧ d = v x) (by simp) (fun i hi => by rw [List.mem_singleton.mp hi]; exact hj) fun n f ⟨en, ef⟩ => by
    subst en; subst ef
    rw [List.length_map]
    refine ⟨hn, fun i hi => ⟨_, tg_name trivial, et_yes, fun _ => ?_⟩, fun i ys d hi hy _ ⟨x, hx, hd⟩ => ?_, fun i ys _ _ hb => (nomatch hb), fun ys hy => by rw [hy, List.take_length]⟩
    · show Ev K te ((wipeS es vs).set j (.im (.d ((xs.map enc).getD i .none)))) _
      rw [getD_map xs enc i hi]
      exact (k _ (List.getElem_mem hi)).imp fun z e => ⟨_, e, xs[i], List.getElem?_eq_getElem hi, rfl⟩
    · rw [hy, hd, List.take_add_one, hx, List.map_append]
      rfl
/-- [elt for j in xs if test] -/
theorem ev_lcFil {wi : TI} {j : Nat} {vs : List Nat} {tt : TT} (xs : List α) (enc : α → PyData) (b : α → Bool) (v : α → PyData) (h : EvI K wi es (fun n f => n = (xs.map enc).length ∧ f = fun i => .d ((xs.map enc).getD i .none))) (hn : xs.length ≤ 8000000) (hj : j ∈ vs)
    (k : ∀ x, x ∈ xs → EvT K tt ((wipeS es vs).set j (.im (.d (enc x)))) (· = b x) ∧ (b x = true → Ev K te ((wipeS es vs).set j (.im (.d (enc x)))) (· = .d (v x)))) : EvL K (tLc wi (gName j) tt te vs) es (· = (xs.filter b).map v) :=
  ev_lc (js := [j]) (Pi := fun n f => n = (xs.map enc).length ∧ f = fun i => .d ((xs.map enc).getD i .none)) h (fun i ys => ys = ((xs.take i).filter b).map v) (fun i c => ∃ x, xs[i]? = some x ∧ c = b x) (fun i d => ∃ x, xs[i]? = some x ∧ d = v x) (by simp) (fun i hi => by rw [List.mem_singleton.mp hi]; exact hj) fun n f ⟨en, ef⟩ => by
    subst en; subst ef
    rw [List.length_map]
    refine ⟨hn, fun i hi => ⟨_, tg_name trivial, ?_, fun ⟨x, hx, hb⟩ => ?_⟩, fun i ys d hi hy ⟨x', hx', hb⟩ ⟨x, hx, hd⟩ => ?_, fun i ys hi hy ⟨x, hx, hb⟩ => ?_, fun ys hy => by rw [hy, List.take_length]⟩
    · show EvT K tt ((wipeS es vs).set j (.im (.d ((xs.map enc).getD i .none)))) _
      rw [getD_map xs enc i hi]
      exact (k _ (List.getElem_mem hi)).1.imp fun z e => ⟨xs[i], List.getElem?_eq_getElem hi, e⟩
    · show Ev K te ((wipeS es vs).set j (.im (.d ((xs.map enc).getD i .none)))) _
      rw [getD_map xs enc i hi]
      rw [List.getElem?_eq_getElem hi] at hx
      cases hx
      exact ((k _ (List.getElem_mem hi)).2 hb.symm).imp fun z e => ⟨_, e, xs[i], List.getElem?_eq_getElem hi, rfl⟩
    · rw [hx] at hx'
      cases hx'
      rw [hy, hd, List.take_add_one, hx, Option.toList_some, List.filter_append, List.map_append, List.filter_cons, ← hb]
      rfl
    · rw [hy, List.take_add_one, hx, Option.toList_some, List.filter_append, List.filter_cons, ← hb]
      simp
/-- [elt for j in range(..)] -/
theorem ev_lcRange {wi : TI} {j : Nat} {vs : List Nat} {n : Nat} {lo : Int} (v : Nat → PyData) (h : EvI K wi es (fun m f => m = n ∧ f = fun i => .d (.int (lo + (i : Nat))))) (hn : n ≤ 8000000) (hj : j ∈ vs)
    (k : ∀ i, i < n → Ev K te ((wipeS es vs).set j (.im (.d (.int (lo + (i : Nat)))))) (· = .d (v i))) : EvL K (tLc wi (gName j) tYes te vs) es (· = (List.range n).map v) :=
  ev_lcAll (js := [j]) h v hn (fun i hi => by rw [List.mem_singleton.mp hi]; exact hj) fun i hi => ⟨_, tg_name trivial, k i hi⟩
/-- for a, b in zip(xs, ys) -/
theorem tg_pair {i j : Nat} {a b : PyData} : Tg K [i, j] (gTup K 2 (gCons (gName i) (gCons (gName j) gNil))) es (.d (.tuple [a, b])) ((es.set i (.im (.d a))).set j (.im (.d b))) :=
  tg_tup (tgs_cons (js := [i]) (ks := [j]) (tg_name trivial) (tgs_cons (js := [j]) (ks := []) (tg_name trivial) tgs_nil)) rfl
theorem ev_lcZip {wi : TI} {i j : Nat} {vs : List Nat} (xs : List α) (ys : List β) (enc : α → PyData) (enc' : β → PyData) (v : α → β → PyData)
    (h : EvI K wi es (fun n f => n = min (xs.map enc).length (ys.map enc').length ∧ f = fun i => .d (.tuple [(xs.map enc).getD i .none, (ys.map enc').getD i .none]))) (hn : xs.length ≤ 8000000) (hi : i ∈ vs) (hj : j ∈ vs)
    (k : ∀ x y, (x, y) ∈ xs.zip ys → Ev K te (((wipeS es vs).set i (.im (.d (enc x)))).set j (.im (.d (enc' y)))) (· = .d (v x y))) :
    EvL K (tLc wi (gTup K 2 (gCons (gName i) (gCons (gName j) gNil))) tYes te vs) es (· = (xs.zip ys).map fun p => v p.1 p.2) :=
  ev_lc (js := [i, j]) (Pi := fun n f => n = min (xs.map enc).length (ys.map enc').length ∧ f = fun i => .d (.tuple [(xs.map enc).getD i .none, (ys.map enc').getD i .none])) h (fun m zs => zs = ((xs.zip ys).take m).map fun p => v p.1 p.2) (fun _ b => b = true) (fun m d => ∃ p, (xs.zip ys)[m]? = some p ∧ d = v p.1 p.2) (by simp)
    (fun q hq => by
      rcases List.mem_cons.mp hq with rfl | hq
      · exact hi
      · rw [List.mem_singleton.mp hq]; exact hj) fun n f ⟨en, ef⟩ => by
    subst en; subst ef
    rw [List.length_map, List.length_map]
    refine ⟨by omega, fun m hm => ⟨_, tg_pair, et_yes, fun _ => ?_⟩, fun m zs d hm hz _ ⟨p, hp, hd⟩ => ?_, fun m zs _ _ hb => (nomatch hb), fun zs hz => by
      rw [hz, List.take_of_length_le (by rw [List.length_zip]; exact Nat.le_refl _)]⟩
    · have h1 : m < xs.length := by omega
      have h2 : m < ys.length := by omega
      rw [getD_map xs enc m h1, getD_map ys enc' m h2]
      have hz : (xs.zip ys)[m]? = some (xs[m], ys[m]) := by
        rw [List.getElem?_eq_getElem (by rw [List.length_zip]; omega), List.getElem_zip]
      exact (k _ _ (List.mem_of_getElem? hz)).imp fun z e => ⟨_, e, _, hz, rfl⟩
    · rw [hz, hd, List.take_add_one, hp, List.map_append]
      rfl
end
end
theorem ordB_true {ms : List Int} (h : OrdB true ms) : ms.Pairwise (· ≥ ·) := by
  unfold OrdB at h
  rw [if_pos rfl] at h
  exact h
section
variable {K : PySem.W.Frag} {es : List Sl} {te ta tb : TE} {t u : TS} {p : Pst} {α : Type}
theorem rc_allM {xs : List α} {q : α → Bool} : Rc K (rAll K) [.d (.list (xs.map fun a => .bool (q a)))] (· = .d (.bool (xs.all q))) := by
  have e : (xs.map fun a => PyData.bool (q a)) = (xs.map q).map .bool := by rw [List.map_map]; rfl
  have e2 : xs.all q = (xs.map q).all id := by simp
  rw [e, e2]
  exact rc_all (.inl rfl)
theorem rc_anyM {xs : List α} {q : α → Bool} : Rc K (rAny K) [.d (.list (xs.map fun a => .bool (q a)))] (· = .d (.bool (xs.any q))) := by
  have e : (xs.map fun a => PyData.bool (q a)) = (xs.map q).map .bool := by rw [List.map_map]; rfl
  have e2 : xs.any q = (xs.map q).any id := by simp
  rw [e, e2]
  exact rc_any (.inl rfl)
/-- all([q(x) for j in xs]) -/
theorem ev_allMap {wi : TI} {j : Nat} {vs : List Nat} (xs : List α) (enc : α → PyData) (q : α → Bool) (h : EvI K wi es (fun n f => n = (xs.map enc).length ∧ f = fun i => .d ((xs.map enc).getD i .none))) (hn : xs.length ≤ 8000000) (hj : j ∈ vs)
    (k : ∀ x, x ∈ xs → Ev K te ((wipeS es vs).set j (.im (.d (enc x)))) (· = .d (.bool (q x)))) : Ev K (tCB (rAll K) (tCons (tLc wi (gName j) tYes te vs) tNil)) es (· = .d (.bool (xs.all q))) :=
  ev_cbd (ea_consd (ev_lcMap xs enc (fun x => .bool (q x)) h hn hj k).evd ea_nil) rc_allM
/-- a test whose answer is known: the rest -/
theorem sx_ifT {c : TT} (h : EvT K c es (· = true)) (k : Sx K t es p) : Sx K (tIfS c t u) es p := sx_if h (fun _ => k) fun e => (nomatch e)
theorem sx_ifF {c : TT} (h : EvT K c es (· = false)) (k : Sx K u es p) : Sx K (tIfS c t u) es p := sx_if h (fun e => (nomatch e)) fun _ => k
/-- if c: return ..; then the rest -/
theorem sx_ifRet {c : TT} (h : EvT K c es (· = true)) (k : Sx K t es { p with nx := fun _ => False }) : Sx K (tSeq (tIfS c t tNext) u) es p := sx_seq (M := fun _ => False) (sx_ifT h k) fun _ m => m.elim
theorem sx_ifGo {c : TT} (h : EvT K c es (· = false)) (k : Sx K u es p) : Sx K (tSeq (tIfS c t tNext) u) es p := sx_seqd (sx_ifF h (sx_next rfl)) k
theorem et_or1 {c d : TT} (h : EvT K c es (· = true)) : EvT K (tOr c d) es (· = true) := et_or h (fun _ => rfl) fun e => (nomatch e)
theorem et_or2 {c d : TT} {b : Bool} (h : EvT K c es (· = false)) (k : EvT K d es (· = b)) : EvT K (tOr c d) es (· = b) := et_or h (fun e => (nomatch e)) fun _ => k
theorem et_and0 {c d : TT} (h : EvT K c es (· = false)) : EvT K (tAnd c d) es (· = false) := et_and h (fun _ => rfl) fun e => (nomatch e)
theorem et_and1 {c d : TT} {b : Bool} (h : EvT K c es (· = true)) (k : EvT K d es (· = b)) : EvT K (tAnd c d) es (· = b) := et_and h (fun e => (nomatch e)) fun _ => k
theorem et_nb {c : TT} {a b : Bool} (h : EvT K c es (· = a)) (e : b = !a) : EvT K (tNot c) es (· = b) := by rw [e]; exact et_notd h
theorem Ev.to {x y : Dv} (h : Ev K te es (· = x)) (e : x = y) : Ev K te es (· = y) := by rw [← e]; exact h
theorem EvT.to {c : TT} {x y : Bool} (h : EvT K c es (· = x)) (e : x = y) : EvT K c es (· = y) := by rw [← e]; exact h
theorem EvL.to {x y : List PyData} (h : EvL K te es (· = x)) (e : x = y) : EvL K te es (· = y) := by rw [← e]; exact h
end
theorem map_int_inj {a b : List Int} (h : a.map PyData.int = b.map .int) : a = b := (List.map_inj_right fun x y e => PyData.int.inj e).mp h
theorem tI_inj {a b : List Int} (h : tI a = tI b) : a = b := map_int_inj (PyData.tuple.inj h)
theorem lI_inj {a b : List Int} (h : lI a = lI b) : a = b := map_int_inj (PyData.list.inj h)
theorem tI1 {a b : List Int} (h : [Dv.d (tI a)] = [.d (tI b)]) : a = b := tI_inj (Dv.d.inj (List.cons.inj h).1)
theorem lI1 {a b : List Int} (h : [Dv.d (lI a)] = [.d (lI b)]) : a = b := lI_inj (Dv.d.inj (List.cons.inj h).1)
theorem tI2 {a b c d : List Int} (h : [Dv.d (tI a), .d (tI c)] = [.d (tI b), .d (tI d)]) : a = b ∧ c = d := ⟨tI_inj (Dv.d.inj (List.cons.inj h).1), tI1 (List.cons.inj h).2⟩
theorem lI2 {a b c d : List Int} (h : [Dv.d (lI a), .d (lI c)] = [.d (lI b), .d (lI d)]) : a = b ∧ c = d := ⟨lI_inj (Dv.d.inj (List.cons.inj h).1), lI1 (List.cons.inj h).2⟩
section
variable {K : PySem.W.Frag}
theorem rv_eqI {i j : Int} : Rv K (rEqP K) (.d (.int i)) (.d (.int j)) (· = .d (.bool (decide (i = j)))) := by
  have := rv_eq (K := K) (x := .d (.int i)) (y := .d (.int j)) (.inl rfl) (.inl rfl) (flat_int _) (flat_int _)
  rwa [eqv_int] at this
theorem rv_neI {i j : Int} : Rv K (rNeP K) (.d (.int i)) (.d (.int j)) (· = .d (.bool (!decide (i = j)))) := by
  have := rv_ne (K := K) (x := .d (.int i)) (y := .d (.int j)) (.inl rfl) (.inl rfl) (flat_int _) (flat_int _)
  rwa [eqv_int] at this
theorem rv_eqT {a b : List Int} : Rv K (rEqP K) (.d (tI a)) (.d (tI b)) (· = .d (.bool (decide (a = b)))) := by
  have := rv_eq (K := K) (x := .d (tI a)) (y := .d (tI b)) (.inl rfl) (.inl rfl) (flat_tI _) (flat_tI _)
  rwa [eqv_tI] at this
theorem rv_neT {a b : List Int} : Rv K (rNeP K) (.d (tI a)) (.d (tI b)) (· = .d (.bool (!decide (a = b)))) := by
  have := rv_ne (K := K) (x := .d (tI a)) (y := .d (tI b)) (.inl rfl) (.inl rfl) (flat_tI _) (flat_tI _)
  rwa [eqv_tI] at this
end
section
variable {K : PySem.W.Frag} {es : List Sl} {tb : TS} {p : Pst} {α : Type}
/-- for j in xs -/
theorem sx_forMap {wi : TI} {j : Nat} (xs : List α) (enc : α → PyData) (h : EvI K wi es (fun n f => n = (xs.map enc).length ∧ f = fun i => .d ((xs.map enc).getD i .none))) (I : Nat → List Sl → Prop) (h0 : I 0 es)
    (k : ∀ (i : Nat) (hi : i < xs.length) es', I i es' → Sx K tb (es'.set j (.im (.d (enc xs[i])))) { p with nx := I (i + 1), ct := I (i + 1), bk := p.nx }) (hd : ∀ es', I xs.length es' → p.nx es') : Sx K (tFor wi (gName j) tb) es p :=
  sx_for (js := [j]) h I h0 fun n f ⟨en, ef⟩ => by
    subst en; subst ef
    rw [List.length_map]
    refine ⟨fun i es' hi hI => ⟨_, tg_name trivial, ?_⟩, hd⟩
    have := k i hi es' hI
    rw [← getD_map xs enc i hi] at this
    exact this
/-- for j in range(..) -/
theorem sx_forRange {wi : TI} {j : Nat} {n : Nat} {lo : Int} (h : EvI K wi es (fun m f => m = n ∧ f = fun i => .d (.int (lo + (i : Nat))))) (I : Nat → List Sl → Prop) (h0 : I 0 es)
    (k : ∀ (i : Nat) (hi : i < n) es', I i es' → Sx K tb (es'.set j (.im (.d (.int (lo + (i : Nat)))))) { p with nx := I (i + 1), ct := I (i + 1), bk := p.nx }) (hd : ∀ es', I n es' → p.nx es') : Sx K (tFor wi (gName j) tb) es p :=
  sx_for (js := [j]) h I h0 fun m f ⟨en, ef⟩ => by
    subst en; subst ef
    exact ⟨fun i es' hi hI => ⟨_, tg_name trivial, k i hi es' hI⟩, hd⟩
end
end HM
end
section
/-! HM core 8: pots, targets that write open lists -/
namespace HM
open PySem PySem.Spec PyProof.Rows L2
section
variable {K : PySem.W.Frag} {es es' : List Sl} {te ta tb : TE} {t u : TS} {p : Pst} {P : Dv → Prop}
/-! ### targets that write open lists -/
def TgW (K : PySem.W.Frag) (g : TG) (es : List Sl) (d : PyData) (es' : List Sl) : Prop := ∀ (B0 H0 B : Hp) (σ : L2.St) (H : Hp) (v : V), Ok K B0 H0 B es σ H → Dp K B v d → ∀ Q : L2.St → Hp → Prop,
  (∀ σ' B' H', Same B B' → Ok K B0 H0 B' es' σ' H' → Q σ' H') → g v σ H Q
def TgsW (K : PySem.W.Frag) (g : TGs) (es : List Sl) (ds : List PyData) (es' : List Sl) : Prop := ∀ (B0 H0 B : Hp) (σ : L2.St) (H : Hp) (vs : List V), Ok K B0 H0 B es σ H → DpAll K B vs ds → ∀ Q : L2.St → Hp → Prop,
  (∀ σ' B' H', Same B B' → Ok K B0 H0 B' es' σ' H' → Q σ' H') → g vs σ H Q
theorem tgw_of {js : List Nat} {g : TG} {d : PyData} (h : Tg K js g es (.d d) es') : TgW K g es d es' := fun B0 H0 B σ H v o r Q q => h B0 H0 B σ H v o r Q fun σ' o' _ _ => q σ' B H (Same.refl _) o'
theorem tgw_name {i : Nat} {d : PyData} : TgW K (gName i) es d (es.set i (.im (.d d))) := tgw_of (tg_name trivial)
theorem tgw_sub {i j : Nat} {xs : List PyData} {d : PyData} (e : es[i]? = some (.mu xs)) (hi : Ev K ta es (· = .d (.int (j : Int)))) (hj : j < xs.length) : TgW K (gSub (tVar i) ta rSetL) es d (es.set i (.mu (xs.set j d))) := fun B0 H0 B σ H v o r Q q => by
  obtain ⟨p, vs, e1, hb, h0, hp, ha⟩ := o.mu e
  refine ⟨_, e1, hi B0 H0 B σ H o _ fun y w B2 H2 py s2 d2 => ?_⟩
  subst py
  cases d2
  have o2 := o.mono s2
  obtain ⟨q', vs', e1', _, _, hp', ha'⟩ := o2.mu e
  rw [e1] at e1'
  cases e1'
  refine ⟨p, vs', (j : Int), j, rfl, rfl, hp', ?_, ?_⟩
  · have hl : j < vs'.length := by rw [dpAll_len ha']; exact hj
    unfold ixN
    rw [if_pos (Int.natCast_nonneg j), if_pos (Int.ofNat_lt.mpr hl)]
    rfl
  · exact q _ B2 _ s2.bb (o2.write e e1 (dpAll_set (dpMono s2.bb r) j ha'))
theorem tgsw_nil : TgsW K gNil es [] es := fun B0 H0 B σ H vs o d Q q => by
  cases d
  exact ⟨rfl, q σ B H (Same.refl _) o⟩
theorem tgsw_cons {g : TG} {gs : TGs} {d : PyData} {ds : List PyData} {es1 : List Sl} (h : TgW K g es d es1) (hs : TgsW K gs es1 ds es') : TgsW K (gCons g gs) es (d :: ds) es' := fun B0 H0 B σ H vs o da Q q => by
  cases da with
  | cons a b => exact ⟨_, _, rfl, h B0 H0 B σ H _ o a _ fun σ1 B1 H1 s1 o1 => hs B0 H0 B1 σ1 H1 _ o1 (dpAllMono s1 b) _ fun σ2 B2 H2 s2 o2 => q σ2 B2 H2 (s1.trans s2) o2⟩
theorem tgw_tup {g : TGs} {n : Nat} {ds : List PyData} (h : TgsW K g es ds es') (hn : ds.length = n) : TgW K (gTup K n g) es (.tuple ds) es' := fun B0 H0 B σ H v o d Q q => by
  cases d with
  | tup hs ha => exact ⟨_, _, rfl, sameT o.bh hs, by rw [dpAll_len ha, hn], h B0 H0 B σ H _ o ha Q q⟩
theorem sx_asgW {g : TG} {d : PyData} (h : Ev K te es (· = .d d)) (w : TgW K g es d es') (k : p.nx es') : Sx K (tAsg te g) es p := fun B0 H0 B σ H D o gg =>
  h B0 H0 B σ H o _ fun x v B1 H1 px s1 d1 => by
    subst px
    exact w B0 H0 B1 σ H1 v (o.mono s1) d1 _ fun σ' B' H' s' o' => gg.nx es' B' σ' H' k (s1.bb.trans s') o'
/-! ### rows: tuples of defs -/
theorem dvs_raw {K : PySem.W.Frag} {B H : Hp} : ∀ {rs vs : List V}, DVs K B H (rs.map .raw) vs → vs = rs
  | [], _, .nil => rfl
  | r :: rs, _, .cons a b => by rw [dvs_raw b]; exact congrArg (· :: rs) a
theorem ev_row {ta : TA} {rs : List V} (h : EvA K ta es (· = rs.map .raw)) (hl : rs.length ≤ 1000) : Ev K (tTup ta) es (· = .row rs) := fun B0 H0 B σ H o Q q =>
  h B0 H0 B σ H o _ fun l vs B1 H1 px s1 d1 => by
    subst px
    have e := dvs_raw d1
    subst e
    refine ⟨line_le (by omega), fun p hp => ?_⟩
    have hb : B1 p = none := s1.bh.free hp
    exact q (.row vs) (.ref p) (upd B1 p (.tup vs)) _ rfl (s1.trans (Stp.new s1.bh hp)) ⟨p, rfl, upd_same⟩
theorem dvs_rows {K : PySem.W.Frag} {B H : Hp} : ∀ {rows : List (List V)} {vs : List V}, DVs K B H (rows.map .row) vs → ∀ i, i < rows.length → ∃ a, vs[i]? = some (.ref a) ∧ B a = some (.tup (rows.getD i []))
  | [], _, .nil, i, h => by simp at h
  | r :: rs, _, .cons ⟨a, e1, e2⟩ b, 0, h => ⟨a, by rw [e1]; rfl, e2⟩
  | r :: rs, _, .cons a b, i + 1, h => by
    obtain ⟨c, e1, e2⟩ := dvs_rows b i (by simpa using h)
    exact ⟨c, by simpa using e1, by simpa using e2⟩
theorem ei_rows {ta : TA} {rows : List (List V)} (h : EvA K ta es (· = rows.map .row)) (hl : rows.length ≤ 1000) : EvI K (iSeq K (tTup ta)) es (fun n f => n = rows.length ∧ f = fun i => .row (rows.getD i [])) := fun B0 H0 B σ H o R r => .inr
  (h B0 H0 B σ H o _ fun l vs B1 H1 px s1 d1 => by
    subst px
    have hlen : vs.length = rows.length := by have := dvs_len d1; rw [List.length_map] at this; exact this.symm
    refine ⟨line_le (by omega), fun p hp => ?_⟩
    have hb : B1 p = none := s1.bh.free hp
    have sb : Same B1 (upd B1 p (.tup vs)) := same_upd hb
    refine ⟨p, rfl, ⟨vs, SqT.of upd_same⟩, r _ _ _ (upd B1 p (.tup vs)) _ ⟨rfl, rfl⟩ (s1.trans (Stp.new s1.bh hp)) ?_⟩
    refine ⟨fun i H e hi => ?_, fun H e => ⟨vs, SqT.of (e _ _ upd_same), by omega⟩, fun B2 i H x H' e e1 hi h => ?_⟩
    · obtain ⟨a, e1, e2⟩ := dvs_rows d1 i hi
      exact ⟨vs, _, SqT.of (e _ _ upd_same), e1⟩
    · obtain ⟨rfl, h⟩ := h
      obtain ⟨a, e2, e3⟩ := dvs_rows d1 i hi
      have := h vs (SqT.of (e1 _ _ (e _ _ upd_same)))
      rw [e2] at this
      cases this
      exact ⟨B2, Stp.refl e1, a, rfl, e _ _ (sb _ _ e3)⟩)
theorem tg_row2 {i j : Nat} {v u : V} : Tg K [i, j] (gTup K 2 (gCons (gName i) (gCons (gName j) gNil))) es (.row [v, u]) ((es.set i (.im (.raw v))).set j (.im (.raw u))) := fun B0 H0 B σ H x o ⟨a, e1, e2⟩ Q q => by
  subst e1
  refine ⟨a, _, rfl, SqT.of (o.bh _ _ e2), rfl, v, [u], rfl, u, [], rfl, rfl, ?_⟩
  refine q _ ((o.set i (x := .raw v) (v := v) rfl).set j (x := .raw u) (v := u) rfl) (by rw [List.length_set, List.length_set]) fun k hk => ?_
  rw [List.getElem?_set_ne (fun z => hk (by rw [z]; simp)), List.getElem?_set_ne (fun z => hk (by rw [z]; simp))]
/-- a local name that holds a def, called -/
theorem ev_cv1 {i : Nat} {f1 f2 : Addr} {Pre : List Dv → Prop} {Post : List Dv → Dv → Prop} {sp2 : Sp} {t : TA} {Pt : List Dv → Prop} (e : es[i]? = some (.im (.raw (.ref f1)))) (ht : EvA K t es Pt) (hp : ∀ xs, Pt xs → Pre xs ∧ ∀ z, Post xs z → P z) : Ev K (C8.tCallV i f1 f2 (spG K Pre Post) sp2 t) es P := fun B0 H0 B σ H o Q q => .inl (by
  obtain ⟨v, e1, e2⟩ := o.at e
  refine ⟨by rw [e1, e2], ht B0 H0 B σ H o _ fun xs vs B1 H1 px s1 d1 => ?_⟩
  exact ⟨B1, xs, s1.bh, d1, (hp xs px).1, fun z u B2 H2 hz s2 d2 => q z u B2 H2 ((hp xs px).2 z hz) (s1.trans s2) d2⟩)
theorem ev_cv2 {i : Nat} {f1 f2 : Addr} {Pre : List Dv → Prop} {Post : List Dv → Dv → Prop} {sp1 : Sp} {t : TA} {Pt : List Dv → Prop} (e : es[i]? = some (.im (.raw (.ref f2)))) (ht : EvA K t es Pt) (hp : ∀ xs, Pt xs → Pre xs ∧ ∀ z, Post xs z → P z) : Ev K (C8.tCallV i f1 f2 sp1 (spG K Pre Post) t) es P := fun B0 H0 B σ H o Q q => .inr (by
  obtain ⟨v, e1, e2⟩ := o.at e
  refine ⟨by rw [e1, e2], ht B0 H0 B σ H o _ fun xs vs B1 H1 px s1 d1 => ?_⟩
  exact ⟨B1, xs, s1.bh, d1, (hp xs px).1, fun z u B2 H2 hz s2 d2 => q z u B2 H2 ((hp xs px).2 z hz) (s1.trans s2) d2⟩)
end
/-! ### one draw -/
def tPotAt (K : PySem.W.Frag) (j : Int) : TE := tOp (rIx K) (tVar 0) (tC (.int j))
def tDraw (K : PySem.W.Frag) (c1 c2 m1 m2 dv : Int) : TS :=
  tSeq (tIfS (tTest (tOp rGtI (tPotAt K 0) (tC (.int 0)))) (tSeq (tAsg (tCB rDivmod (tCons (tPotAt K 0) (tCons (tVar 1) tNil))) (gTup K 2 (gCons (gSub (tVar 0) (tC (.int 0)) rSetL) (gCons (gName 2) gNil)))) (tRet (tVar 2))) tNext)
    (tSeq (tAsg (tOp rModI (tCB rInt1 (tCons (tOp (rAddG K) (tOp (rMulG K) (tPotAt K 1) (tC (.int c1))) (tC (.int c2))) tNil)) (tC (.int m1))) (gSub (tVar 0) (tC (.int 1)) rSetL))
      (tRet (tOp rModI (tCB rInt1 (tCons (tOp rDivI (tOp rModI (tCB rInt1 (tCons (tOp (rMulG K) (tPotAt K 1) (tPotAt K 1)) tNil)) (tC (.int m2))) (tC (.int dv))) tNil)) (tVar 1))))
section
variable {K : PySem.W.Frag}
theorem at_pot {p : Addr} {xs : List V} {H : Hp} {j : Int} {v : V} {Q : VK} (hp : H p = some (.lst xs)) (hj : atI xs j = some v) (q : Q v H) : rIx K (.ref p) (.int j) H Q := .inl ⟨p, xs, j, v, rfl, rfl, SqL.of hp, hj, q⟩
theorem draw_run {c1 c2 m1 m2 dv : Int} (k1 : 0 ≤ c1) (k2 : 0 ≤ c2) (k1' : c1 < 4294967296) (m1' : 0 < m1) (m1l : m1 ≤ 4294967296) (m2' : 0 < m2) (hd : 0 < dv) (hd2 : dv < 1073741824) {p : Addr} {a b n : Int} {H : Hp}
    (hp : H p = some (.lst [.int a, .int b])) (ok : PotOk a b) (hn : 0 < n) (hn2 : n < 1073741824) {D : Ends} (q : ∀ d a' b' H2, 0 ≤ d → d < n → PotOk a' b' → H2 p = some (.lst [.int a', .int b']) → (∀ x o, x ≠ p → H x = some o → H2 x = some o) → D.rt (.int d) H2) :
    tDraw K c1 c2 m1 m2 dv D [some (.ref p), some (.int n), none] H := by
  refine ⟨.ref p, rfl, at_pot hp rfl ⟨a, 0, rfl, rfl, _, rfl, ?_⟩⟩
  by_cases h : 0 < a
  · rw [decide_eq_true h]
    change (if true = true then _ else _)
    rw [if_pos rfl]
    refine ⟨.ref p, rfl, at_pot hp rfl ⟨.int n, rfl, ⟨a, n, rfl, ⟨hn, hn2⟩, fun t ht => ?_⟩⟩⟩
    have hp' : upd H t (.tup [.int (a / n), .int (a % n)]) p = some (.lst [.int a, .int b]) := by rw [upd_ne (ne_of_none hp ht)]; exact hp
    refine ⟨t, _, rfl, SqT.of upd_same, rfl, .int (a / n), [.int (a % n)], rfl, .ref p, rfl, p, _, 0, 0, rfl, rfl, hp', rfl, .int (a % n), [], rfl, rfl, .int (a % n), rfl, ?_⟩
    refine q (a % n) (a / n) b _ (Int.emod_nonneg _ (by omega)) (Int.emod_lt_of_pos _ hn) ⟨Int.ediv_nonneg (by omega) (by omega), ok.2⟩ (by rw [upd_same]; rfl) fun x o hx e => ?_
    rw [upd_ne hx, upd_ne (ne_of_none e ht)]
    exact e
  · rw [decide_eq_false h]
    change (if false = true then _ else _)
    rw [if_neg Bool.false_ne_true]
    have hb : 0 ≤ b ∧ b < 4294967296 := ok.2
    have lo := Int.emod_nonneg (b * c1 + c2) (show m1 ≠ 0 by omega)
    have hi := Int.emod_lt_of_pos (b * c1 + c2) m1'
    refine ⟨.ref p, rfl, at_pot hp rfl (.inl ⟨b, c1, rfl, rfl, .inl ⟨by omega, by omega⟩, .inl ⟨b * c1, c2, rfl, rfl, .inl ⟨_, rfl, _, m1, rfl, rfl, m1', .ref p, rfl, p, _, 1, 1, rfl, rfl, hp, rfl, ?_⟩⟩⟩)⟩
    have hp' : upd H p (.lst ([V.int a, .int b].set 1 (.int ((b * c1 + c2) % m1)))) p = some (.lst [.int a, .int ((b * c1 + c2) % m1)]) := by rw [upd_same]; rfl
    refine ⟨.ref p, rfl, at_pot hp' rfl ⟨.ref p, rfl, at_pot hp' rfl (.inl ⟨_, _, rfl, rfl, .inl ⟨by omega, by omega⟩, .inl ⟨_, rfl, _, m2, rfl, rfl, m2', _, dv, rfl, rfl, ⟨hd, hd2⟩, .inl ⟨_, rfl, .int n, rfl, _, n, rfl, rfl, hn, ?_⟩⟩⟩)⟩⟩
    refine q _ a _ _ (Int.emod_nonneg _ (by omega)) (Int.emod_lt_of_pos _ hn) ⟨ok.1, lo, by omega⟩ hp' fun x o hx e => ?_
    rw [upd_ne hx]
    exact e
def spDr : Sp := fun vs H Q _ => ∃ p a b n, vs = [.ref p, .int n] ∧ H p = some (.lst [.int a, .int b]) ∧ PotOk a b ∧ 0 < n ∧ n ≤ 1000000 ∧
  ∀ d a' b' H2, 0 ≤ d → d < n → PotOk a' b' → H2 p = some (.lst [.int a', .int b']) → (∀ x o, x ≠ p → H x = some o → H2 x = some o) → Q (.int d) H2
variable {Pg : Program} {w : World} {mg : Str → Option Value} {base : Heap}
theorem potIn {s : Heap} {H : Hp} {p : Addr} {a b : Int} (h : ObjOk Pg w H s p (.lst [.int a, .int b])) (ok : PotOk a b) {H' : Hp} : ObjOk Pg w H' s p (.ext (PotF p)) := by
  obtain ⟨_, its, n, r, e⟩ := h
  cases r with
  | cons r1 r2 =>
    cases r2 with
    | cons r2 r3 =>
      cases r3
      obtain ⟨t1, rfl⟩ := r1
      obtain ⟨t2, rfl⟩ := r2
      exact ⟨⟨a, b, t1, t2, n, ok, e⟩, ⟨_, e⟩, fun h1 h2 ⟨a, b, t, u, n, ok, e1⟩ k => ⟨a, b, t, u, n, ok, k _ e1⟩⟩
/-- a def over the pot's list is one over a pot -/
theorem FnOk.pot {f : Addr} {fd : FuncData} {ps : List Str} {k : Nat} {sp sp' : Sp} (F : FnOk Pg w K mg base CX0 k f fd ps sp)
    (h : ∀ vs H Q E, sp' vs H Q E → ∃ p, H p = some (.ext (PotF p)) ∧ ∀ a b, PotOk a b → sp vs (upd H p (.lst [.int a, .int b])) (fun u H2 => ∃ a' b', PotOk a' b' ∧ H2 p = some (.lst [.int a', .int b']) ∧ Q u (upd H2 p (.ext (PotF p)))) E) :
    FnOk Pg w K mg base CX0 k f fd ps sp' where
  len := fun vs H Q E q => by
    obtain ⟨p, _, q⟩ := h vs H Q E q
    exact F.len _ _ _ _ (q 0 0 ⟨by omega, by omega, by omega⟩)
  run := fun A outer s H args us vs Q E hr he hb hv hs => by
    obtain ⟨p, hp, q⟩ := h vs H Q E hs
    obtain ⟨⟨a, b, t1, t2, n, ok, e1⟩, _, _⟩ := he.hok p _ hp
    have ne : ∀ c, H c = none → c ≠ p := fun c z y => by rw [y, hp] at z; cases z
    have un1 : ∀ c, H c = none → upd H p (.lst [.int a, .int b]) c = none := fun c z => by rw [upd_ne (ne c z)]; exact z
    have hok1 : HOk Pg w (upd H p (.lst [.int a, .int b])) s.heap := he.hok.write (by rw [hp]; trivial) (.inl rfl) (fun _ _ _ z => z) ⟨_, e1⟩ ⟨line_le (by show 2 ≤ 16777216; omega), _, n, .cons ⟨t1, rfl⟩ (.cons ⟨t2, rfl⟩ .nil), e1⟩
    have he1 : Env0 Pg w K mg base A outer s (upd H p (.lst [.int a, .int b])) := ⟨he.frames, he.mod, fun c o z => ⟨(he.bs c o z).1, un1 c (he.bs c o z).2⟩, he.bsz, he.funs, fun c z => un1 c (he.frf c z), hok1, he.bare⟩
    refine codeAny_mono (F.run A outer s _ args us vs _ E hr he1 hb hv (q a b ok)) fun r s' hq => ?_
    match r, hq with
    | .ok (.ret u), ⟨v, H', os, bare, un, hok, rv, a', b', ok', hp', q'⟩ =>
      have ne' : ∀ c, H' c = none → c ≠ p := fun c z y => by rw [y, hp'] at z; cases z
      refine ⟨v, _, os, bare, ⟨fun c o e n => un.keep c o e (un1 c n), fun c o e n => un.slot c o e (un1 c n), fun c o e n x => ?_, fun c o e => un.there c o e, fun c xs e => ?_, fun c o u e => ?_, fun c ps e => ?_⟩, hok.write (by rw [hp']; trivial) (.inl rfl) (fun _ _ _ z => z) ?_ (potIn (hok p _ hp') ok'), rv, q'⟩
      · have := un.free c o e (un1 c n) x
        rw [upd_ne (ne' c this)]
        exact this
      · have nc : c ≠ p := fun z => by rw [z, hp] at e; cases e
        rw [upd_ne nc]
        exact un.tups c xs (by rw [upd_ne nc]; exact e)
      · have nc : c ≠ p := fun z => by rw [z, hp] at e; cases e
        rw [upd_ne nc]
        exact un.frzs c o u (by rw [upd_ne nc]; exact e)
      · have nc : c ≠ p := fun z => by rw [z, hp] at e; cases e
        rw [upd_ne nc]
        exact un.tbls c ps (by rw [upd_ne nc]; exact e)
      · obtain ⟨_, its, n, _, e⟩ := hok p _ hp'
        exact ⟨_, e⟩
/-- a def that gives a new list of two ints gives a pot -/
theorem FnOk.potNew {f : Addr} {fd : FuncData} {ps : List Str} {k : Nat} {sp sp' : Sp} (F : FnOk Pg w K mg base CX0 k f fd ps sp)
    (h : ∀ vs H Q E, sp' vs H Q E → sp vs H (fun u H2 => ∃ p a b, u = .ref p ∧ PotOk a b ∧ H2 p = some (.lst [.int a, .int b]) ∧ Q u (upd H2 p (.ext (PotF p)))) E) :
    FnOk Pg w K mg base CX0 k f fd ps sp' where
  len := fun vs H Q E q => F.len _ _ _ _ (h vs H Q E q)
  run := fun A outer s H args us vs Q E hr he hb hv hs => by
    refine codeAny_mono (F.run A outer s _ args us vs _ E hr he hb hv (h vs H Q E hs)) fun r s' hq => ?_
    match r, hq with
    | .ok (.ret u), ⟨v, H', os, bare, un, hok, rv, p, a', b', ev, ok', hp', q'⟩ =>
      have ne' : ∀ c, H' c = none → c ≠ p := fun c z y => by rw [y, hp'] at z; cases z
      refine ⟨v, _, os, bare, ⟨un.keep, un.slot, fun c o e n x => ?_, un.there, fun c xs e => ?_, fun c o u e => ?_, fun c ps e => ?_⟩, hok.write (by rw [hp']; trivial) (.inl rfl) (fun _ _ _ z => z) ?_ (potIn (hok p _ hp') ok'), rv, q'⟩
      · have := un.free c o e n x
        rw [upd_ne (ne' c this)]
        exact this
      · have := un.tups c xs e
        rw [upd_ne (fun z => by rw [z, hp'] at this; cases this)]
        exact this
      · have := un.frzs c o u e
        rw [upd_ne (fun z => by rw [z, hp'] at this; cases this)]
        exact this
      · obtain ⟨m, this⟩ := un.tbls c ps e
        rw [upd_ne (fun z => by rw [z, hp'] at this; cases this)]
        exact ⟨m, this⟩
      · obtain ⟨_, its, n, _, e⟩ := hok p _ hp'
        exact ⟨_, e⟩
/-- _law_draw: a number from 0 on, below the second argument -/
def DrawPre (xs : List Dv) : Prop := ∃ n : Int, xs = [.pot, .d (.int n)] ∧ 0 < n ∧ n ≤ 1000000
def DrawPost (xs : List Dv) (z : Dv) : Prop := ∀ n : Int, xs = [.pot, .d (.int n)] → ∃ d : Int, z = .d (.int d) ∧ 0 ≤ d ∧ d < n
theorem fnDraw {x qual : Str} {st : Stmt} {f : Addr} {fd : FuncData} {N ps : List Str} {k : Nat} {c1 c2 m1 m2 dv : Int} (F : Fun K x qual st f fd) (S : FnScope N ps (defScope st)) (len : ps.length = 2) (hN : N.length = 3)
    (k1 : 0 ≤ c1) (k2 : 0 ≤ c2) (k1' : c1 < 4294967296) (m1' : 0 < m1) (m1l : m1 ≤ 4294967296) (m2' : 0 < m2) (hd : 0 < dv) (hd2 : dv < 1073741824)
    (hb : ∀ (cdv : Value) (A : Around) (outer : List Env) (s : Shared) (H : Hp) (E : XK), Room k (A.deeper (envOfC qual (defScope st) s.heap.objs.size f cdv)) →
      PSs (cxOf CX0 Pg w K mg base N qual (defScope st) f cdv A outer s H E).nox (defBody st) (tDraw K c1 c2 m1 m2 dv)) :
    FnOk Pg w K mg base CX0 (k + 1) f fd ps (spG K DrawPre DrawPost) := by
  refine HM.FnOk.pot (sp := spDr) (F.ok S (fun vs H Q E ⟨p, a, b, n, e, _⟩ => by rw [e, len]; rfl) fun cdv A outer s H vs Q E hr hs => ⟨_, hb cdv A outer s H E hr, ?_⟩) ?_
  · obtain ⟨p, a, b, n, rfl, hp, ok, hn, hn2, q⟩ := hs
    have e : L2.start N [.ref p, .int n] = [some (.ref p), some (.int n), none] := by
      unfold L2.start
      rw [hN]
      rfl
    rw [e]
    exact draw_run k1 k2 k1' m1' m1l m2' hd hd2 hp ok hn (by omega) q
  · rintro vs H Q E ⟨B, xs, sb, dv, ⟨n, rfl, hn, hn2⟩, q⟩
    obtain ⟨v, u, rfl, ⟨p, rfl, bp⟩, d2⟩ := dv2 dv
    cases d2
    have hp := sb _ _ bp
    refine ⟨p, hp, fun a b ok => ⟨p, a, b, n, rfl, upd_same, ok, hn, hn2, fun d a' b' H2 h0 h1 ok' hp' kp => ⟨a', b', ok', hp', ?_⟩⟩⟩
    have hh : Same H (upd H2 p (.ext (PotF p))) := fun x o e => by
      by_cases z : x = p
      · subst z
        rw [upd_same, ← e, hp]
      · rw [upd_ne z]
        exact kp x o z (by rw [upd_ne z]; exact e)
    exact q (.d (.int d)) _ B _ (fun m e => by cases e; exact ⟨d, rfl, h0, h1⟩) ⟨Same.refl _, hh, sb.trans hh, fun _ z _ => z⟩ (.int d)
theorem fnPot {f : Addr} {fd : FuncData} {ps : List Str} {k : Nat} {Pre : List Dv → Prop} (F : FnOk Pg w K mg base CX0 k f fd ps (spL K Pre fun _ ys => ∃ a b, ys = [.int a, .int b] ∧ PotOk a b)) :
    FnOk Pg w K mg base CX0 k f fd ps (spG K Pre fun _ z => z = .pot) := by
  refine HM.FnOk.potNew F ?_
  rintro vs H Q E ⟨B, xs, sb, dv, pre, q⟩
  refine ⟨B, xs, sb, dv, pre, ?_⟩
  rintro ys p ws B1 H1 ⟨a, b, rfl, ok⟩ st h0 hb hp ha
  cases ha with
  | cons a1 a2 =>
    cases a2 with
    | cons a2 a3 =>
      cases a3
      cases a1
      cases a2
      refine ⟨p, a, b, rfl, ok, hp, q .pot _ (upd B1 p (.ext (PotF p))) _ rfl ⟨st.bb.trans (same_upd hb), fun x o e => ?_, fun x o e => ?_, fun x h1 h2 => ?_⟩ ⟨p, rfl, upd_same⟩⟩
      · rw [upd_ne (ne_of_none e h0)]
        exact st.hh _ _ e
      · by_cases z : x = p
        · subst z
          rw [upd_same] at e ⊢
          exact e
        · rw [upd_ne z] at e ⊢
          exact st.bh _ _ e
      · rw [upd_ne (fun z => h2 (by rw [z]; exact h0))]
        exact st.fr x h1 h2
end
end HM
end
section
/-! HM core 9: lists that are drawn -/
namespace HM
open PySem PySem.Spec PyProof.Rows L2
section
variable {K : PySem.W.Frag} {es es' : List Sl} {te ta tb : TE} {t u : TS} {p : Pst} {P : Dv → Prop}
/-- a comprehension over a range whose values are known by a predicate alone -/
theorem ev_lcDrawn {wi : TI} {j : Nat} {vs : List Nat} {n : Nat} {lo : Int} (Pd : PyData → Prop) (h : EvI K wi es (fun m f => m = n ∧ f = fun i => .d (.int (lo + (i : Nat))))) (hn : n ≤ 8000000) (hj : j ∈ vs)
    (k : ∀ i, i < n → Ev K te ((wipeS es vs).set j (.im (.d (.int (lo + (i : Nat)))))) (fun x => ∃ d, x = .d d ∧ Pd d)) : EvL K (tLc wi (gName j) tYes te vs) es (fun ys => ys.length = n ∧ ∀ d ∈ ys, Pd d) :=
  ev_lc (js := [j]) h (fun i ys => ys.length = i ∧ ∀ d ∈ ys, Pd d) (fun _ b => b = true) (fun _ d => Pd d) ⟨rfl, fun _ h => nomatch h⟩ (fun i hi => by rw [List.mem_singleton.mp hi]; exact hj) fun m f ⟨e1, e2⟩ => by
    subst e1
    subst e2
    refine ⟨hn, fun i hi => ⟨_, tg_name trivial, et_yes, fun _ => k i hi⟩, fun i ys d hi ⟨h1, h2⟩ _ hd => ⟨by rw [List.length_append, h1]; rfl, fun e he => ?_⟩, fun i ys hi hI hb => (nomatch hb), fun ys hI => hI⟩
    rcases List.mem_append.mp he with he | he
    · exact h2 e he
    · rw [List.mem_singleton.mp he]
      exact hd
theorem all_ints {q : Int → Prop} : ∀ {ys : List PyData}, (∀ d ∈ ys, ∃ x : Int, d = .int x ∧ q x) → ∃ a : List Int, ys = a.map .int ∧ ∀ x ∈ a, q x
  | [], _ => ⟨[], rfl, fun _ h => nomatch h⟩
  | y :: ys, h => by
    obtain ⟨x, e, hx⟩ := h y List.mem_cons_self
    obtain ⟨a, ea, ha⟩ := all_ints (ys := ys) fun d hd => h d (List.mem_cons_of_mem _ hd)
    exact ⟨x :: a, by rw [e, ea]; rfl, fun z hz => (List.mem_cons.mp hz).elim (fun e => by rw [e]; exact hx) (ha z)⟩
theorem sum_set : ∀ (l : List Int) (i : Nat) (v : Int) (h : i < l.length), (l.set i v).sum = l.sum - l[i] + v
  | x :: l, 0, v, _ => by simp [List.sum_cons]; omega
  | x :: l, i + 1, v, h => by
    rw [List.set_cons_succ, List.sum_cons, List.sum_cons, sum_set l i v (by simpa using h), List.getElem_cons_succ]
    omega
end
end HM
end
section
/-! HM core 10: defs that are called where no repr is under way; repr -/
namespace HM
open PySem PySem.Spec PyProof.Rows L2 RZ
/-- the promise of a def, kept where no repr is under way -/
structure FnG (P : Program) (w : World) (K : PySem.W.Frag) (mg : Str → Option Value) (base : Heap) (k : Nat) (f : Addr) (fd : FuncData) (ps : List Str) (sp : Sp) : Prop where
  ln : ∀ vs H Q E, sp vs H Q E → vs.length = ps.length
  go : ∀ (A : Around) (outer : List Env) (s : Shared) (H : Hp) (args : Args) (us : List Value) (vs : List V) (Q : VK) (E : XK), Room k A → A.guards = some [] → Env0 P w K mg base A outer s H →
    BindsTo s fd args (ps.zip us) → Vals vs us → sp vs H Q E → codeAny (model P w) A (.call (.ref f) args) (CR CX0 outer P w H s Q E) s
section
variable {P : Program} {w : World} {K : PySem.W.Frag} {mg : Str → Option Value} {base : Heap} {k : Nat} {f : Addr} {fd : FuncData} {ps : List Str} {sp : Sp}
theorem FnG.of (F : FnOk P w K mg base CX0 k f fd ps sp) : FnG P w K mg base k f fd ps sp := ⟨F.len, fun A outer s H args us vs Q E hr _ => F.run A outer s H args us vs Q E hr⟩
theorem FnG.made {x qual : Str} {st : Stmt} {N : List Str} (F : Fun K x qual st f fd) (S : FnScope N ps (defScope st)) (ln : ∀ vs H Q E, sp vs H Q E → vs.length = ps.length)
    (body : ∀ (cdv : Value) (A : Around) (outer : List Env) (s : Shared) (H : Hp) (vs : List V) (Q : VK) (E : XK), Room k (A.deeper (envOfC qual (defScope st) s.heap.objs.size f cdv)) → A.guards = some [] → sp vs H Q E →
      ∃ t, PSs (cxOf CX0 P w K mg base N qual (defScope st) f cdv A outer s H E).nox (defBody st) t ∧ t { nx := fun _ H' => Q .non H', rt := Q } (L2.start N vs) H) : FnG P w K mg base (k + 1) f fd ps sp := by
  obtain ⟨oc, od, kV, doc, pm, an, cdv, ct, osl, rfl, lk, hcd⟩ := F.ex
  constructor
  · exact ln
  intro A outer s H args us vs Q E room gd env0 binds rel want
  have same := fun b o (e : base.get? b = some o) => (env0.bs b o e).1
  have inK : K.In s.heap := env0.mod.kin.keeps same
  have noLim : s.heap.NoLimit := env0.mod.nolimit.keeps same
  have kinds : ∀ y ∈ ps.zip us, (defScope st).names.lookup y.1 = some .local ∨ ((defScope st).names.lookup y.1 = some .cell ∧ ((cellsFrom (s.heap.objs.size + 1) (defScope st).names []).lookup y.1).isSome = true) := by
    rintro ⟨n, v⟩ hy
    have hn := (List.of_mem_zip hy).1
    cases S.par n hn with
    | inl q => exact Or.inl q
    | inr q => exact Or.inr ⟨q, PySem.W.cellsFrom_some _ _ _ (Or.inl q)⟩
  refine codeAny_call_function room.depth (inK _ _ lk) rfl S.co S.gen rfl (PySem.W.codeRec_of inK hcd) (binds _ _ _ _ (wpAny_newFunctionEnv_cells S.kind kinds ?_))
  intro env he s1 inCall
  cases he
  refine ⟨noLim.keeps inCall.toInCall.keep, codeAny_func ?_⟩
  obtain ⟨t, ht, hq⟩ := body cdv A outer s H vs Q E (room.deeper _) gd want
  have lenV := ln _ _ _ _ want
  have I0 := inv_start (E := E) (CX := CX0) (qual := qual) (f := f) (cd := cdv) S room.hd env0 lenV rel inCall
  apply wpAny_mono (ht.nox.run [] s1 (L2.start N vs) H _ I0 hq)
  · intro fl s' got
    match fl, got with
    | .ret u, ⟨v, σ', H', J, rv, q⟩ => exact ⟨v, H', J.os, J.bare, J.base, J.hok, rv, q⟩
    | .next, ⟨σ', H', J, q⟩ => exact ⟨.non, H', J.os, J.bare, J.base, J.hok, rfl, q⟩
    | .brk, ⟨_, _, _, q⟩ => exact q.elim
    | .cont, ⟨_, _, _, q⟩ => exact q.elim
  · exact fun e s' got => got
/-- a def that may be called by its name where no repr is under way -/
structure ClG (P : Program) (w : World) (K : PySem.W.Frag) (mg : Str → Option Value) (base : Heap) (k : Nat) (x : Str) (sp : Sp) : Prop where
  ex : ∃ (f : Addr) (fd : FuncData) (ps : List Str), FnG P w K mg base k f fd ps sp ∧ mg x = some (.ref f) ∧ PySem.W.keepIn K (.ref f) = true ∧ Binds K fd ps []
end
section
variable {X : Cx} {k j : Nat} {x : Str} {sp : Sp} {p pos : Pos} {e : Expr} {es : List Expr} {t : TA} {te : TE}
theorem pe_clg (c : ClG X.prog X.w X.K X.mg X.base k x sp) (gd : X.A.guards = some []) (hr : Room j X.A) (hk : k ≤ j) (hg : Gl X x) (ha : PA X (e :: es) t)
    (hdb : (x == ("__debug__" : Str)) = false := by decide) (he : starEach (e :: es) X.env = (false, eval e X.env) :: starEach es X.env := by rfl) (hpl : (backTo pos (starEach es X.env)).any (·.1) = false := by rfl) :
    PE X (.Call (.Name x p) (e :: es) [] pos) (tCall sp [] E0 t) := by
  obtain ⟨f, fd, ps, F, hm, kp, b⟩ := c.ex
  constructor
  intro pins s σ H Q I h
  apply wpAny_Call_Name_kw
  refine ld_glob I hg hm (PySem.W.callWith_K (h₀ := X.base) I.ok.mod.kin kp (thn (ha.run pos pins s σ H _ I h) ?_) he hpl) hdb
  rintro us s1 ⟨vs, H1, I1, r, q⟩
  refine ⟨I1.kIn, wpAny_call (codeAny_mono (F.go X.A X.stack s1 H1 ⟨us, []⟩ us vs Q E0 (hr.mono hk) gd I1.env0 ?_ r (by simpa using q)) ?_)⟩
  · have := b s1 us I1.kIn (by rw [List.append_nil, ← r.length]; exact F.ln _ _ _ _ (by simpa using q))
    rwa [List.append_nil] at this
  · intro r s' hq
    match r, hq with
    | .ok (.ret u), hq => exact I1.after hq
/-! ### repr -/
/-- what may be shown -/
structure Shw (d : PyData) : Prop where
  sh : d.showable = true
  nd : d.hasDict = false
  dp : d.depth ≤ 60
  sz : d.shown.length ≤ sizeLine
def rRepr (K : PySem.W.Frag) : List V → Hp → VK → Prop := fun vs H Q => ∃ v d, vs = [v] ∧ Dp K H v d ∧ Shw d ∧ Q (.str d.shown) H
theorem call_reprG (gd : X.A.guards = some []) (hu : X.A.units + 64 < cLine) : CallR X (.builtin "repr") (rRepr X.K) := by
  intro pins s σ H vs us Q I r h
  obtain ⟨v, d, rfl, hd, sw, q⟩ := h
  obtain ⟨u, rfl, ru⟩ := vals1 r
  obtain ⟨as, rd⟩ := Dp.reads I d v u hd ru
  have fin : ∀ h' tk t, (∀ b o, s.heap.get? b = some o → h'.get? b = some o) → EP X pins σ Q (.str d.shown t) { s with heap := h', toks := tk } := fun h' tk t hk => ⟨.str d.shown, H, I.un (Un.kept hk) (I.hok.kept hk), ⟨t, rfl⟩, q⟩
  have go : ∀ a, u = .ref a → wpAny (model X.prog X.w) X.A (call (.builtin "repr") [u]) (EP X pins σ Q) X.xe s := fun a ea => by
    subst ea
    exact repr_of_reads' rd sw.sh (PyData.noDict_hsm sw.nd) gd (by have := sw.dp; omega) (fun _ _ e => e) (fun h' t tk hk => fin h' tk t hk) sw.sz
  cases hd with
  | non => cases ru; exact PySem.P.repr_of_none (fin _ _ _ fun _ _ e => e)
  | bl b => cases ru; exact PySem.P.repr_of_bool (fin _ _ _ fun _ _ e => e)
  | int i => obtain ⟨t, rfl⟩ := ru; exact PySem.P.repr_of_int (of_decide_eq_true (by simpa [PyData.showable] using sw.sh)) (fin _ _ _ fun _ _ e => e)
  | str z => obtain ⟨t, rfl⟩ := ru; exact PySem.P.repr_of_str (fin _ _ _ fun _ _ e => e) sw.sz
  | lst h1 h2 => exact go _ ru
  | tup h1 h2 => exact go _ ru
end
/-! ### the end: the law's own call, where no repr is under way -/
section
variable {P : Program} {w : World} {K : PySem.W.Frag} {mg mb : Str → Option Value} {k : Nat} {fa a : Addr} {fd : FuncData} {x : Str} {sp : Sp} {s₁ : Shared} {vs : List Value} {ns : List Int}
theorem law_goes (KX : K.In s₁.heap) (hns : s₁.heap.Ns mainGlobals mg) (hb : s₁.heap.Ns builtinsNs mb) (hbb : ∀ x : Str, x ≠ "__name__" → mb x = bootBuiltins x) (hlim : s₁.heap.NoLimit) (hg : s₁.gens = #[])
    (ha : s₁.heap.get? a = some { cls := .type "list", data := .seq vs.toArray }) (hi : IntsAre vs ns) (hl : ns.length ≤ sizeLine) (hr : Room k callerA)
    (F : ∀ base : Heap, K.In base → base.Ns mainGlobals mg → FnG P w K mg base k fa fd [x] sp) (hbind : ∀ (s : Shared) (u : Value), BindsTo s fd ⟨[u], []⟩ [(x, u)])
    (hsp : ∀ H : Hp, Only H → SqL K H a (ns.map V.int) → sp [.ref a] H (fun v _ => v = .bl true) fun _ _ _ => False) :
    codeAny (model P w) callerA (.call (.ref fa) ⟨[.ref a], []⟩) (fun r s' => r = .ok (.ret (.bool true)) ∧ OldK s₁.heap s'.heap ∧ s'.os = s₁.os ∧ AllBare s'.gens) s₁ := by
  have main : ∀ H : Hp, (∀ b, H b = none ∨ (b = a ∧ K.lookup a = none ∧ ∃ ob xs, H b = some (.frz ob (.lst xs)))) → SqL K H a (ns.map V.int) → HOk P w H s₁.heap →
      codeAny (model P w) callerA (.call (.ref fa) ⟨[.ref a], []⟩) (fun r s' => r = .ok (.ret (.bool true)) ∧ OldK s₁.heap s'.heap ∧ s'.os = s₁.os ∧ AllBare s'.gens) s₁ := by
    intro H one seq held
    have kept : ∀ {b : Addr} {o : Obj}, s₁.heap.get? b = some o → H b = none → (hidT s₁.heap H).get? b = some o := fun e n => hidT_get e n
    have spaces : ∀ {b : Addr} {m : Str → Option Value}, s₁.heap.Ns b m → (hidT s₁.heap H).Ns b m := by
      rintro b m ⟨o, es, ep, e, d, r⟩
      refine ⟨o, es, ep, kept e ?_, d, r⟩
      rcases one b with n | ⟨e', _, _⟩
      · exact n
      · subst e'
        rw [ha] at e
        cases e
        cases (show Data.seq vs.toArray _ = Data.dict es ep from d)
    have frag : K.In (hidT s₁.heap H) := by
      intro b o e
      refine kept (KX b o e) ?_
      rcases one b with n | ⟨e', n, _⟩
      · exact n
      · rw [e', n] at e
        cases e
    obtain ⟨mc, l1, l2⟩ := hlim
    have mod : Mod K mg (hidT s₁.heap H) := ⟨frag, spaces hns, ⟨mb, spaces hb, hbb⟩, ⟨mc, spaces l1, l2⟩⟩
    have nobody : ∀ b : Addr, b ∉ ([] : List Addr) := fun b h => nomatch h
    have env0 : Env0 P w K mg (hidT s₁.heap H) callerA [] s₁ H := ⟨rfl, mod, fun _ _ e => of_hidT e, Nat.le_of_eq (hidT_size _ _), trivial, fun b h => absurd h (nobody b), held, .of_eq hg⟩
    have only : Only H := fun b => (one b).elim Or.inl fun ⟨_, _, z⟩ => Or.inr z
    refine codeAny_mono ((F _ frag (spaces hns)).go callerA [] s₁ H ⟨[.ref a], []⟩ [.ref a] [.ref a] _ _ hr rfl env0 (hbind s₁ (.ref a)) (.cons rfl .nil) (hsp H only seq)) ?_
    intro r s' h
    match r, h with
    | .ok (.ret u), ⟨v, H', os, bare, un, held', rv, q⟩ =>
      subst q
      cases rv
      refine ⟨rfl, OldK.of_keep ?_, os, bare⟩
      intro b o e
      rcases one b with n | ⟨_, _, ob, xs, z⟩
      · exact un.keep b o e n (nobody b) (nobody b)
      · have e1 := (held b _ z).1
        have e2 := (held' b _ (un.frzs b ob _ z)).1
        rw [e1] at e
        rw [← e]
        exact e2
  have rel := vals_ints hi
  cases hk : K.lookup a with
  | none =>
    refine main (upd (fun _ => none) a (.frz { cls := .type "list", data := .seq vs.toArray } (.lst (ns.map V.int)))) (fun b => ?_) (.inl (.inr ⟨_, upd_same⟩)) fun b u z => ?_
    · by_cases e : b = a
      · subst e
        exact Or.inr ⟨rfl, hk, _, _, upd_same⟩
      · exact Or.inl (by rw [upd_ne e])
    · by_cases e : b = a
      · subst e
        rw [upd_same] at z
        cases z
        exact ⟨ha, by rw [List.length_map]; exact hl, vs, _, rel, ha⟩
      · rw [upd_ne e] at z
        cases z
  | some o =>
    have e := KX a o hk
    rw [ha] at e
    cases e
    exact main (fun _ => none) (fun _ => Or.inl rfl) (.inr ⟨_, vs.toArray, _, hk, rfl, rfl, rfl, by rw [List.size_toArray, hi.length]; exact hl, by simpa using rel⟩) fun b u z => nomatch z
end
theorem walk_G {l : PySem.W.OpenLaw} {n k : Nat} {q : Program} {loose : List Str} {XP : (Str → Option Value) → Heap → Prop} {YP : World → Heap → Prop} {d : DefRec} {K : Params → PySem.W.Frag} {sp : World → Sp} {x : Str}
    (hn : l.most = some n) (hn2 : n ≤ sizeLine) (hdf : d.params.defaults = []) (hr : Room k callerA) (hY : ∀ (w : World) (h : Heap), YP w h → (K w.params).In h)
    (F : ∀ (w : World) (mg : Str → Option Value) (fa : Addr) (h : Heap), (K w.params).In h → h.Ns mainGlobals mg → mg d.name = some (.ref fa) → ∃ fd : FuncData, (∀ (s : Shared) (u : Value), BindsTo s fd ⟨[u], []⟩ [(x, u)]) ∧
      ∀ base : Heap, (K w.params).In base → base.Ns mainGlobals mg → FnG l.prog w (K w.params) mg base k fa fd [x] (sp w))
    (hsp : ∀ (w : World) (H : Hp) (a : Addr) (ns : List Int), ns.length ≤ n → Only H → SqL (K w.params) H a (ns.map V.int) → sp w [.ref a] H (fun v _ => v = .bl true) fun _ _ _ => False) :
    PySem.W.WalkO q loose XP YP l.row.toRowW d [] (fun f vs => PySem.call f vs) := by
  apply Att.attach_call hn hdf
  intro w s₀ s₁ mg mb fa o pm cd doc a vs ns G Y ho hd hcd hmg hobj hints hlen hg
  have inK := hY w _ Y
  obtain ⟨fd, hb, hF⟩ := F w mg fa _ inK G.T.g hmg
  exact law_goes inK G.T.g G.T.b G.T.builtins G.T.nolimit hg hobj hints (Nat.le_trans hlen hn2) hr hF hb fun H hO hS => hsp w H a ns hlen hO hS
end HM
end
section
/-! HM core 11: calls by keywords, turned lists, what is shown -/
namespace HM
open PySem PySem.Spec PyProof.Rows L2 RZ
/-- the values at the places is -/
def pick {α : Type} (is : List Nat) (l : List α) : List α := is.filterMap fun (i : Nat) => l[i]?
theorem pairGet {α β : Type} {F : α → β → Prop} : ∀ {l : List α} {m : List β}, Paired F l m → ∀ i : Nat, (l[i]? = none ∧ m[i]? = none) ∨ ∃ a b, l[i]? = some a ∧ m[i]? = some b ∧ F a b
  | _, _, .nil, i => .inl ⟨rfl, rfl⟩
  | _, _, .cons r _, 0 => .inr ⟨_, _, rfl, rfl, r⟩
  | _, _, .cons _ t, i + 1 => by simpa using pairGet t i
theorem paired_pick {α β : Type} {F : α → β → Prop} {l : List α} {m : List β} (h : Paired F l m) : ∀ is : List Nat, Paired F (pick is l) (pick is m)
  | [] => .nil
  | i :: is => by
    unfold pick
    rw [List.filterMap_cons, List.filterMap_cons]
    rcases pairGet h i with ⟨e1, e2⟩ | ⟨a, b, e1, e2, r⟩
    · rw [e1, e2]
      exact paired_pick h is
    · rw [e1, e2]
      exact .cons r (paired_pick h is)
theorem paired_append {α β : Type} {F : α → β → Prop} : ∀ {l l' : List α} {m m' : List β}, Paired F l m → Paired F l' m' → Paired F (l ++ l') (m ++ m')
  | _, _, _, _, .nil, h => h
  | _, _, _, _, .cons r t, h => .cons r (paired_append t h)
/-- how a call with keywords binds -/
def KB (K : PySem.W.Frag) (fd : FuncData) (ps : List Str) (n : Nat) (ks : List Str) (is : List Nat) : Prop := ∀ us ws : List Value, us.length = n → ws.length = ks.length → bindArgs fd ⟨us, ks.zip ws⟩ = pure (ps.zip (pick is (us ++ ws)))
structure ClK (P : Program) (w : World) (K : PySem.W.Frag) (mg : Str → Option Value) (base : Heap) (k : Nat) (x : Str) (n : Nat) (ks : List Str) (is : List Nat) (sp : Sp) : Prop where
  ex : ∃ (f : Addr) (fd : FuncData) (ps : List Str), FnG P w K mg base k f fd ps sp ∧ mg x = some (.ref f) ∧ PySem.W.keepIn K (.ref f) = true ∧ KB K fd ps n ks is
theorem kb_mk {K : PySem.W.Frag} {x qual : Str} {st : Stmt} {f : Addr} {fd : FuncData} {ps : List Str} {n : Nat} {ks : List Str} {is : List Nat} (F : Fun K x qual st f fd)
    (h : ∀ (kV doc pm : Value) (an : Option Addr) (cdv ct : Value) (us ws : List Value), us.length = n → ws.length = ks.length → bindArgs (PySem.W.fnOf x qual (defArgs st) (defBody st) (defScope st) .none kV doc pm an cdv ct) ⟨us, ks.zip ws⟩ = pure (ps.zip (pick is (us ++ ws)))) : KB K fd ps n ks is := by
  obtain ⟨oc, od, kV, doc, pm, an, cdv, ct, osl, rfl, lk, hcd⟩ := F.ex
  exact fun us ws => h kV doc pm an cdv ct us ws
def tCallP (n m : Nat) (is : List Nat) (sp : Sp) (t tk : TA) : TE := fun σ H Q => t σ H fun vs H1 => tk σ H1 fun zs H2 => vs.length = n ∧ zs.length = m ∧ sp (pick is (vs ++ zs)) H2 Q E0
section
variable {X : Cx} {k j n : Nat} {x : Str} {sp : Sp} {p pos : Pos} {e : Expr} {es : List Expr} {t tk : TA} {te : TE} {ks : List Str} {is : List Nat} {kws : List Keyword}
theorem run_clk {pins : List (Addr × Obj)} {σ : L2.St} {H : Hp} {s : Shared} {Q : VK} {f : Addr} {fd : FuncData} {ps : List Str} {us ws : List Value} {vs zs : List V} (F : FnG X.prog X.w X.K X.mg X.base k f fd ps sp) (gd : X.A.guards = some []) (hr : Room k X.A) (b : KB X.K fd ps n ks is)
    (I : Inv X pins σ H s) (r : Vals vs us) (rz : Vals zs ws) (l1 : vs.length = n) (l2 : zs.length = ks.length) (q : sp (pick is (vs ++ zs)) H Q E0) : wpAny (model X.prog X.w) X.A (call (.ref f) us (ks.zip ws)) (EP X pins σ Q) X.xe s := by
  refine wpAny_call (codeAny_mono (F.go X.A X.stack s H ⟨us, ks.zip ws⟩ (pick is (us ++ ws)) (pick is (vs ++ zs)) Q E0 hr gd I.env0 (.of_eq (b us ws (r.length.symm.trans l1) (rz.length.symm.trans l2))) (paired_pick (paired_append r rz) is) q) ?_)
  intro r' s' hq
  match r', hq with
  | .ok (.ret u), hq => exact I.after hq
theorem pe_clk0 (c : ClK X.prog X.w X.K X.mg X.base k x 0 ks is sp) (gd : X.A.guards = some []) (hr : Room j X.A) (hk : k ≤ j) (hg : Gl X x) (hkw : PK X kws tk)
    (hall : (backToKw pos (keywordEach kws X.env)).all (·.1.isSome) = true := by rfl) (hks : (backToKw pos (keywordEach kws X.env)).filterMap (·.1) = ks := by rfl) (hdb : (x == ("__debug__" : Str)) = false := by decide)
    (hpl : ((backTo pos (starEach [] X.env)).any (·.1) || (backToKw pos (keywordEach kws X.env)).any (·.1.isNone)) = false := by rfl) : PE X (.Call (.Name x p) [] kws pos) (tCallP 0 ks.length is sp tNil tk) := by
  obtain ⟨f, fd, ps, F, hm, kp, b⟩ := c.ex
  constructor
  intro pins s σ H Q I h
  apply wpAny_Call_Name_kw
  refine ld_glob I hg hm (PySem.W.callWith_KW0 (h₀ := X.base) I.ok.mod.kin kp hall (thn (hkw.run pos pins s σ H _ I h) ?_) hpl) hdb
  rintro ws s1 ⟨zs, H1, I1, rz, l1, l2, q⟩
  rw [hks]
  exact ⟨I1.kIn, run_clk (us := []) F gd (hr.mono hk) b I1 .nil rz l1 l2 q⟩
theorem pe_clk (c : ClK X.prog X.w X.K X.mg X.base k x n ks is sp) (gd : X.A.guards = some []) (hr : Room j X.A) (hk : k ≤ j) (hg : Gl X x) (ha : PA X (e :: es) t) (hkw : PK X kws tk)
    (hall : (backToKw pos (keywordEach kws X.env)).all (·.1.isSome) = true := by rfl) (hks : (backToKw pos (keywordEach kws X.env)).filterMap (·.1) = ks := by rfl) (hdb : (x == ("__debug__" : Str)) = false := by decide)
    (he : starEach (e :: es) X.env = (false, eval e X.env) :: starEach es X.env := by rfl)
    (hpl : ((backTo pos (starEach (e :: es) X.env)).any (·.1) || (backToKw pos (keywordEach kws X.env)).any (·.1.isNone)) = false := by rfl) : PE X (.Call (.Name x p) (e :: es) kws pos) (tCallP n ks.length is sp t tk) := by
  obtain ⟨f, fd, ps, F, hm, kp, b⟩ := c.ex
  constructor
  intro pins s σ H Q I h
  apply wpAny_Call_Name_kw
  refine ld_glob I hg hm (PySem.W.callWith_KW (h₀ := X.base) I.ok.mod.kin kp hall (thn (ha.run pos pins s σ H _ I h) ?_) hpl he) hdb
  rintro us s1 ⟨vs, H1, I1, r, q1⟩
  refine thn (hkw.run pos pins s1 σ H1 _ I1 q1) ?_
  rintro ws s2 ⟨zs, H2, I2, rz, l1, l2, q⟩
  rw [hks]
  exact ⟨I2.kIn, run_clk F gd (hr.mono hk) b I2 r rz l1 l2 q⟩
end
section
variable {K : PySem.W.Frag} {es es' : List Sl} {te ta tb : TE} {t tk : TA} {P : Dv → Prop}
theorem ev_kcall {Pre : List Dv → Prop} {Post : List Dv → Dv → Prop} {n m : Nat} {is : List Nat} {Pt Pk : List Dv → Prop} (ht : EvA K t es Pt) (hk : EvA K tk es Pk) (hp : ∀ xs zs, Pt xs → Pk zs → xs.length = n ∧ zs.length = m ∧ Pre (pick is (xs ++ zs)) ∧ ∀ z, Post (pick is (xs ++ zs)) z → P z) :
    Ev K (tCallP n m is (spG K Pre Post) t tk) es P := fun B0 H0 B σ H o Q q =>
  ht B0 H0 B σ H o _ fun xs vs B1 H1 px s1 d1 => hk B0 H0 B1 σ H1 (o.mono s1) _ fun zs ws B2 H2 pz s2 d2 => by
    obtain ⟨l1, l2, pre, post⟩ := hp xs zs px pz
    refine ⟨by rw [← dvs_len d1, l1], by rw [← dvs_len d2, l2], B2, pick is (xs ++ zs), s2.bh, paired_pick (paired_append (d1.mono s2.bb s2.hh) d2) is, pre, fun z u B3 H3 hz s3 d3 => ?_⟩
    exact q z u B3 H3 (post z hz) (s1.trans (s2.trans s3)) d3
theorem ev_kcalld {Pre : List Dv → Prop} {Post : List Dv → Dv → Prop} {n m : Nat} {is : List Nat} {xs zs : List Dv} (ht : EvA K t es (· = xs)) (hk : EvA K tk es (· = zs)) (l1 : xs.length = n) (l2 : zs.length = m) (hp : Pre (pick is (xs ++ zs))) (hq : ∀ z, Post (pick is (xs ++ zs)) z → P z) :
    Ev K (tCallP n m is (spG K Pre Post) t tk) es P := ev_kcall ht hk fun _ _ e1 e2 => by rw [e1, e2]; exact ⟨l1, l2, hp, hq⟩
theorem ev_kcallL {Pre : List Dv → Prop} {Post : List Dv → List PyData → Prop} {P : List PyData → Prop} {n m : Nat} {is : List Nat} {xs zs : List Dv} (ht : EvA K t es (· = xs)) (hk : EvA K tk es (· = zs)) (l1 : xs.length = n) (l2 : zs.length = m) (hp : Pre (pick is (xs ++ zs))) (hq : ∀ z, Post (pick is (xs ++ zs)) z → P z) :
    EvL K (tCallP n m is (spL K Pre Post) t tk) es P := fun B0 H0 B σ H o Q q =>
  ht B0 H0 B σ H o _ fun xs' vs B1 H1 px s1 d1 => hk B0 H0 B1 σ H1 (o.mono s1) _ fun zs' ws B2 H2 pz s2 d2 => by
    subst px; subst pz
    refine ⟨by rw [← dvs_len d1, l1], by rw [← dvs_len d2, l2], B2, pick is (xs' ++ zs'), s2.bh, paired_pick (paired_append (d1.mono s2.bb s2.hh) d2) is, hp, fun z p us B3 H3 hz s3 h0 hb h3 ha => ?_⟩
    exact q z p us B3 H3 (hq z hz) (s1.trans (s2.trans s3)) ((s1.trans s2).hh.free h0) hb h3 ha
/-! ### turned lists -/
theorem ev_revL {P : List PyData → Prop} (h : Ev K te es (fun x => ∃ xs, x = .d (.list xs) ∧ P xs)) : EvL K (tRevL K te) es (fun ys => ∃ xs, P xs ∧ ys = xs.reverse) := fun B0 H0 B σ H o Q q =>
  h B0 H0 B σ H o _ fun x v B1 H1 ⟨xs, e, px⟩ s1 d1 => by
    subst e
    cases d1 with
    | @lst a vs _ hs ha =>
      refine ⟨_, _, rfl, Same.seq s1.bh hs, fun p hp => ?_⟩
      exact q _ p _ B1 _ ⟨xs, px, rfl⟩ (s1.trans (Stp.open s1.bh hp)) (s1.hh.free hp) (s1.bh.free hp) upd_same (dpAll_rev ha)
theorem ev_revLd {xs : List PyData} (h : Ev K te es (· = .d (.list xs))) : EvL K (tRevL K te) es (· = xs.reverse) := (ev_revL (P := (· = xs)) (h.imp fun x e => ⟨xs, e, rfl⟩)).imp fun ys ⟨zs, e, e2⟩ => by rw [e2, e]
/-! ### what is shown -/
structure Sm (d : PyData) (k n : Nat) : Prop where
  sh : d.showable = true
  nd : d.hasDict = false
  dp : d.depth ≤ k
  lv : d.leavesShort 13 = true
  bk : d.bulk ≤ n
structure SmAll (ds : List PyData) (k n : Nat) : Prop where
  sh : PyData.showableAll ds = true
  nd : PyData.hasDictAll ds = false
  dp : PyData.depthAll ds ≤ k
  lv : PyData.leavesShortAll 13 ds = true
  bk : PyData.bulkAll ds ≤ n
theorem Sm.shw {d : PyData} {k n : Nat} (h : Sm d k n) (hk : k ≤ 60 := by omega) (hn : n ≤ 1048576 := by omega) : Shw d := ⟨h.sh, h.nd, by have := h.dp; omega, PyData.shown_fits_bulk (by decide) (by decide) h.lv (by have := h.bk; omega)⟩
theorem Sm.mono {d : PyData} {k n k' n' : Nat} (h : Sm d k n) (hk : k ≤ k' := by omega) (hn : n ≤ n' := by omega) : Sm d k' n' := ⟨h.sh, h.nd, by have := h.dp; omega, h.lv, by have := h.bk; omega⟩
theorem sm_int {i : Int} (h1 : -1000000 < i := by omega) (h2 : i < 1000000 := by omega) : Sm (.int i) 0 0 := by
  have hb : i.natAbs < 1000000 := by omega
  have e : i.natAbs.log2 < 1920 := by
    by_cases h0 : i.natAbs = 0
    · rw [h0]; decide
    · have : i.natAbs.log2 < 20 := (Nat.log2_lt h0).mpr (by omega)
      omega
  exact ⟨by simp only [PyData.showable]; exact decide_eq_true e, by simp [PyData.hasDict], by simp [PyData.depth], by simp only [PyData.leavesShort]; exact decide_eq_true (PyData.shown_int_le (by omega)), by simp [PyData.bulk]⟩
theorem sm_bool {b : Bool} : Sm (.bool b) 0 0 := ⟨by simp [PyData.showable], by simp [PyData.hasDict], by simp [PyData.depth], by simp [PyData.leavesShort], by simp [PyData.bulk]⟩
theorem sm_none : Sm .none 0 0 := ⟨by simp [PyData.showable], by simp [PyData.hasDict], by simp [PyData.depth], by simp [PyData.leavesShort], by simp [PyData.bulk]⟩
theorem sm_str {z : Str} (h : z.cps.toList.all (fun c => decide (c < 16 ^ 8)) = true) (hn : z.cps.size ≤ 1000) : Sm (.str z) 0 1000 := ⟨by simp [PyData.showable], by simp [PyData.hasDict], by simp [PyData.depth], by simpa only [PyData.leavesShort] using h, by simpa [PyData.bulk] using hn⟩
theorem sm_nil : SmAll [] 0 0 := ⟨by simp [PyData.showableAll], by simp [PyData.hasDictAll], by simp [PyData.depthAll], by simp [PyData.leavesShortAll], by simp [PyData.bulkAll]⟩
theorem sm_cons {d : PyData} {ds : List PyData} {k n k' n' : Nat} (h : Sm d k n) (hs : SmAll ds k' n') : SmAll (d :: ds) (max k k') (n + 1 + n') :=
  ⟨by simp [PyData.showableAll, h.sh, hs.sh], by simp [PyData.hasDictAll, h.nd, hs.nd], by simp only [PyData.depthAll]; have := h.dp; have := hs.dp; omega, by simp [PyData.leavesShortAll, h.lv, hs.lv], by simp only [PyData.bulkAll]; have := h.bk; have := hs.bk; omega⟩
theorem sm_list {ds : List PyData} {k n : Nat} (h : SmAll ds k n) : Sm (.list ds) (k + 1) n := ⟨by simp [PyData.showable, h.sh], by simp [PyData.hasDict, h.nd], by simp only [PyData.depth]; have := h.dp; omega, by simp [PyData.leavesShort, h.lv], by simp only [PyData.bulk]; exact h.bk⟩
theorem sm_tup {ds : List PyData} {k n : Nat} (h : SmAll ds k n) : Sm (.tuple ds) (k + 1) n := ⟨by simp [PyData.showable, h.sh], by simp [PyData.hasDict, h.nd], by simp only [PyData.depth]; have := h.dp; omega, by simp [PyData.leavesShort, h.lv], by simp only [PyData.bulk]; exact h.bk⟩
theorem smAll_map {α : Type} {xs : List α} {enc : α → PyData} {k n : Nat} (h : ∀ x ∈ xs, Sm (enc x) k n) : SmAll (xs.map enc) k (xs.length * (n + 1)) := by
  induction xs with
  | nil => exact ⟨by simp [PyData.showableAll], by simp [PyData.hasDictAll], by simp [PyData.depthAll], by simp [PyData.leavesShortAll], by simp [PyData.bulkAll]⟩
  | cons x xs ih =>
    have a := h x List.mem_cons_self
    have b := ih fun y hy => h y (List.mem_cons_of_mem _ hy)
    have c := sm_cons a b
    refine ⟨c.sh, c.nd, by have := c.dp; rw [List.map_cons]; omega, c.lv, ?_⟩
    have := c.bk
    rw [List.map_cons, List.length_cons, Nat.succ_mul]
    omega
theorem sm_tI {a : List Int} (h : ∀ x ∈ a, -1000000 < x ∧ x < 1000000) : Sm (tI a) 1 a.length := by
  have := sm_tup (smAll_map (enc := PyData.int) (k := 0) (n := 0) fun x hx => sm_int (h x hx).1 (h x hx).2)
  exact this.mono (by omega) (by omega)
theorem sm_lI {a : List Int} (h : ∀ x ∈ a, -1000000 < x ∧ x < 1000000) : Sm (lI a) 1 a.length := by
  have := sm_list (smAll_map (enc := PyData.int) (k := 0) (n := 0) fun x hx => sm_int (h x hx).1 (h x hx).2)
  exact this.mono (by omega) (by omega)
theorem rc_repr {x : Dv} {d : PyData} (h : Rd1 x d) (s : Shw d) : Rc K (rRepr K) [x] (· = .d (.str d.shown)) := fun B H vs e a0 Q q => by
  obtain ⟨v, rfl, a⟩ := dv1 a0
  exact ⟨v, d, rfl, h.dp e a, s, q _ _ B H rfl (Stp.refl e) (.str _)⟩
/-- repr(x) != repr(y) of the same data -/
theorem et_reprNe {d : PyData} (s : Shw d) (h1 : Ev K ta es (· = .d d)) (h2 : Ev K tb es (· = .d d)) : EvT K (tTest (tOp (rNeP K) (tCB (rRepr K) (tCons ta tNil)) (tCB (rRepr K) (tCons tb tNil)))) es (· = false) :=
  (et_testd (ev_opd (ev_cbd (ea_consd h1 ea_nil) (rc_repr (.inl rfl) s)) (ev_cbd (ea_consd h2 ea_nil) (rc_repr (.inl rfl) s)) (rv_ne (.inl rfl) (.inl rfl) (flat_str _) (flat_str _)))).to (by simp [PyData.eqv])
/-! ### a list, several times -/
theorem ev_repL {xs : List PyData} {k : Int} (h : EvL K te es (· = xs)) (hb : Ev K tb es (· = .d (.int k))) (hl : xs.length ≤ 1000) (h1 : k ≤ 1000) (h2 : -1000 ≤ k) : EvL K (tOp (rMulG K) te tb) es (· = (List.replicate k.toNat xs).flatten) := fun B0 H0 B σ H o Q q =>
  h B0 H0 B σ H o _ fun ys p vs B1 H1 e s1 h0 hb1 hp ha => hb B0 H0 B1 σ H1 (o.mono s1) _ fun y w B2 H2 ey s2 d2 => by
    subst e; subst ey
    cases d2
    have hp2 := s2.hh _ _ hp
    have hlen := dpAll_len ha
    refine .inr (.inr ⟨p, k, vs, rfl, rfl, hp2, by omega, by omega, ?_, fun r hr => ?_⟩)
    · have : vs.length * k.toNat ≤ 1000 * 1000 := Nat.mul_le_mul (by omega) (by omega)
      exact line_le (by omega)
    · have hB : B2 r = none := s2.bh.free hr
      exact q _ r _ B2 _ rfl ((s1.trans s2).trans (Stp.open s2.bh hr)) ((s1.trans s2).hh.free hr) hB upd_same (dpAll_rep (dpAllMono s2.bb ha) _)
end
section
variable {Pg : Program} {w : World} {K : PySem.W.Frag} {mg : Str → Option Value} {base : Heap}
theorem fgG {x qual : Str} {st : Stmt} {f : Addr} {fd : FuncData} {N ps : List Str} {k : Nat} {Pre : List Dv → Prop} {Post : List Dv → Dv → Prop} (F : Fun K x qual st f fd) (S : FnScope N ps (defScope st)) (len : ∀ xs, Pre xs → xs.length = ps.length)
    (hb : ∀ (cdv : Value) (A : Around) (outer : List Env) (s : Shared) (H : Hp) (E : XK), Room k (A.deeper (envOfC qual (defScope st) s.heap.objs.size f cdv)) → A.guards = some [] →
      ∃ t, PSs (cxOf CX0 Pg w K mg base N qual (defScope st) f cdv A outer s H E).nox (defBody st) t ∧ ∀ xs, Pre xs → Sx K t (startS N xs) { nx := fun _ => Post xs (.d .none), rt := Post xs, rl := fun ys => Post xs (.d (.list ys)) }) :
    FnG Pg w K mg base (k + 1) f fd ps (spG K Pre Post) :=
  FnG.made F S (len_G len) fun cdv A outer s H vs Q E hr hg hs => by
    obtain ⟨t, h1, h2⟩ := hb cdv A outer s H E hr hg
    exact ⟨t, h1, body_G h2 vs H Q E hs⟩
theorem fgL {x qual : Str} {st : Stmt} {f : Addr} {fd : FuncData} {N ps : List Str} {k : Nat} {Pre : List Dv → Prop} {Post : List Dv → List PyData → Prop} (F : Fun K x qual st f fd) (S : FnScope N ps (defScope st)) (len : ∀ xs, Pre xs → xs.length = ps.length)
    (hb : ∀ (cdv : Value) (A : Around) (outer : List Env) (s : Shared) (H : Hp) (E : XK), Room k (A.deeper (envOfC qual (defScope st) s.heap.objs.size f cdv)) → A.guards = some [] →
      ∃ t, PSs (cxOf CX0 Pg w K mg base N qual (defScope st) f cdv A outer s H E).nox (defBody st) t ∧ ∀ xs, Pre xs → Sx K t (startS N xs) { nx := fun _ => False, rl := Post xs }) :
    FnG Pg w K mg base (k + 1) f fd ps (spL K Pre Post) :=
  FnG.made F S (len_L len) fun cdv A outer s H vs Q E hr hg hs => by
    obtain ⟨t, h1, h2⟩ := hb cdv A outer s H E hr hg
    exact ⟨t, h1, body_L h2 vs H Q E hs⟩
end
end HM
end
section
/-! HM core 12: all that is true, walks over rows -/
namespace HM
open PySem PySem.Spec PyProof.Rows L2 RZ
section
variable {K : PySem.W.Frag} {es es' : List Sl} {te ta tb : TE} {t tk : TA} {P : Dv → Prop} {p : Pst} {α : Type}
theorem all_true {ys : List PyData} (h : ∀ d ∈ ys, d = .bool true) : ys = (List.replicate ys.length true).map .bool := by
  induction ys with
  | nil => rfl
  | cons y ys ih => rw [List.length_cons, List.replicate_succ, List.map_cons, ← ih fun d hd => h d (List.mem_cons_of_mem _ hd), h y List.mem_cons_self]
/-- all([.. for ..]) where each is True -/
theorem ev_allTrue {wi : TI} {g : TG} {js vs : List Nat} {Pi : Nat → (Nat → Dv) → Prop} (h : EvI K wi es Pi) (hj : ∀ j ∈ js, j ∈ vs)
    (k : ∀ n f, Pi n f → n ≤ 8000000 ∧ ∀ i, i < n → ∃ es2, Tg K js g (wipeS es vs) (f i) es2 ∧ Ev K te es2 (· = .d (.bool true))) : Ev K (tCB (rAll K) (tCons (tLc wi g tYes te vs) tNil)) es (· = .d (.bool true)) :=
  ev_cb (ea_cons (ev_lc (P := fun ys => ∀ d ∈ ys, d = .bool true) h (fun _ ys => ∀ d ∈ ys, d = .bool true) (fun _ b => b = true) (fun _ d => d = .bool true) (fun _ h => nomatch h) hj fun n f pi => ⟨(k n f pi).1, fun i hi => by
      obtain ⟨es2, tg, ev⟩ := (k n f pi).2 i hi
      exact ⟨es2, tg, et_yes, fun _ => ev.imp fun x e => ⟨_, e, rfl⟩⟩, fun i ys d hi hI _ hd e he => (List.mem_append.mp he).elim (hI e) fun he => by rw [List.mem_singleton.mp he]; exact hd, fun i ys hi hI hb => (nomatch hb), fun ys h => h⟩).ev ea_nil)
    fun xs ⟨x, ys, e, ⟨zs, ex, hz⟩, ey⟩ => by
      subst e; subst ex; subst ey
      rw [all_true hz]
      intro B H vs e a Q q
      refine rc_all (.inl rfl) B H vs e a Q fun x u B2 H2 ex => q x u B2 H2 ?_
      rw [ex]
      have : ∀ n : Nat, (List.replicate n true).all id = true := fun n => by
        rw [List.all_eq_true]
        intro b hb
        rw [(List.mem_replicate.mp hb).2]
        rfl
      rw [this]
/-- for over a walked list with any target: f gives the values -/
theorem sx_forG {wi : TI} {g : TG} {tb : TS} {js : List Nat} {n : Nat} {f : Nat → Dv} (h : EvI K wi es (fun m h => m = n ∧ h = f)) (I : Nat → List Sl → Prop) (h0 : I 0 es)
    (k : ∀ i es', i < n → I i es' → ∃ es2, Tg K js g es' (f i) es2 ∧ Sx K tb es2 { p with nx := I (i + 1), ct := I (i + 1), bk := p.nx }) (hd : ∀ es', I n es' → p.nx es') : Sx K (tFor wi g tb) es p :=
  sx_for h I h0 fun m f' ⟨e1, e2⟩ => by
    subst e1; subst e2
    exact ⟨k, hd⟩
/-- .. each of a list, by the list's own elements -/
theorem sx_forPair {wi : TI} {tb : TS} {i j : Nat} (xs : List α) (u v : α → PyData) (h : EvI K wi es (fun n f => n = (xs.map fun x => PyData.tuple [u x, v x]).length ∧ f = fun i => .d ((xs.map fun x => PyData.tuple [u x, v x]).getD i .none))) (I : Nat → List Sl → Prop) (h0 : I 0 es)
    (k : ∀ (a : Nat) (ha : a < xs.length) es', I a es' → Sx K tb ((es'.set i (.im (.d (u xs[a])))).set j (.im (.d (v xs[a])))) { p with nx := I (a + 1), ct := I (a + 1), bk := p.nx }) (hd : ∀ es', I xs.length es' → p.nx es') :
    Sx K (tFor wi (gTup K 2 (gCons (gName i) (gCons (gName j) gNil))) tb) es p :=
  sx_for (js := [i, j]) h I h0 fun n f ⟨en, ef⟩ => by
    subst en; subst ef
    rw [List.length_map]
    refine ⟨fun a es' ha hI => ?_, hd⟩
    have e := getD_map xs (fun x => PyData.tuple [u x, v x]) a ha
    refine ⟨_, by show Tg K [i, j] _ _ (Dv.d ((xs.map fun x => PyData.tuple [u x, v x]).getD a .none)) _; rw [e]; exact tg_pair, k a ha es' hI⟩
/-- [.. for u, v in xs if ..] -/
theorem ev_lcPair {wi : TI} {tt : TT} {i j : Nat} {vs : List Nat} (xs : List α) (u v : α → PyData) (b : α → Bool) (w : α → PyData) (h : EvI K wi es (fun n f => n = (xs.map fun x => PyData.tuple [u x, v x]).length ∧ f = fun i => .d ((xs.map fun x => PyData.tuple [u x, v x]).getD i .none)))
    (hn : xs.length ≤ 8000000) (hi : i ∈ vs) (hj : j ∈ vs)
    (k : ∀ x ∈ xs, EvT K tt (((wipeS es vs).set i (.im (.d (u x)))).set j (.im (.d (v x)))) (· = b x) ∧ (b x = true → Ev K te (((wipeS es vs).set i (.im (.d (u x)))).set j (.im (.d (v x)))) (· = .d (w x)))) :
    EvL K (tLc wi (gTup K 2 (gCons (gName i) (gCons (gName j) gNil))) tt te vs) es (· = (xs.filter b).map w) := by
  refine ev_lc (js := [i, j]) (Pd := fun i d => ∃ h : i < xs.length, d = w xs[i]) (Pb := fun i c => ∃ h : i < xs.length, c = b xs[i]) h (fun a ys => ys = ((xs.take a).filter b).map w) (by simp) (fun a ha => ?_) fun n f ⟨en, ef⟩ => ?_
  · rcases List.mem_cons.mp ha with rfl | ha
    · exact hi
    · rw [List.mem_singleton.mp ha]; exact hj
  · subst en; subst ef
    rw [List.length_map]
    refine ⟨hn, fun a ha => ?_, fun a ys d ha hI hb hd => ?_, fun a ys ha hI hb => ?_, fun ys hI => ?_⟩
    · have e := getD_map xs (fun x => PyData.tuple [u x, v x]) a ha
      have k' := k xs[a] (List.getElem_mem ha)
      exact ⟨_, by show Tg K [i, j] _ _ (Dv.d ((xs.map fun x => PyData.tuple [u x, v x]).getD a .none)) _; rw [e]; exact tg_pair, k'.1.imp fun c e => ⟨ha, e⟩, fun ⟨_, hb⟩ => (k'.2 hb.symm).imp fun x e => ⟨_, e, ha, rfl⟩⟩
    · obtain ⟨_, hb⟩ := hb
      obtain ⟨_, hd⟩ := hd
      rw [List.take_add_one, List.getElem?_eq_getElem ha, Option.toList_some, List.filter_append, List.map_append, hI, hd, List.filter_cons_of_pos hb.symm]
      rfl
    · obtain ⟨_, hb⟩ := hb
      rw [List.take_add_one, List.getElem?_eq_getElem ha, Option.toList_some, List.filter_append, List.map_append, hI, List.filter_cons_of_neg (by rw [← hb]; exact Bool.false_ne_true)]
      simp
    · rw [hI, List.take_of_length_le (Nat.le_refl _)]
theorem ev_neg {n : Int} (h : Ev K te es (· = .d (.int n))) : Ev K (tUn (rU fun i => .int (-i)) te) es (· = .d (.int (-n))) := fun B0 H0 B σ H o Q q => h B0 H0 B σ H o _ fun x v B1 H1 e s1 d1 => by
  subst e
  cases d1
  exact ⟨n, rfl, q _ _ B1 H1 rfl s1 (.int _)⟩
/-- a list that is known by a predicate, walked -/
theorem ei_seqE {P : List PyData → Prop} {R : Nat → (Nat → Dv) → Prop} (h : Ev K te es (fun x => ∃ xs, x = .d (.list xs) ∧ P xs)) (k : ∀ xs, P xs → R xs.length (fun i => .d (xs.getD i .none))) : EvI K (iSeq K te) es R := fun B0 H0 B σ H o Rr r => .inl
  (h B0 H0 B σ H o _ fun x v B1 H1 ⟨xs, e, px⟩ s1 d1 => by
    subst e
    cases d1 with
    | lst hs ha => exact ⟨_, rfl, ⟨_, Same.seq s1.bh hs⟩, r _ _ _ B1 H1 (k xs px) s1 (wk_list hs ha)⟩)
/-! ### slices -/
def cutD (xs : List PyData) (lo hi : Option Int) : List PyData := (xs.drop (HT.sIx xs.length 0 lo)).take (HT.sIx xs.length xs.length hi - HT.sIx xs.length 0 lo)
theorem dpAll_cut {H : Hp} {vs : List V} {xs : List PyData} (h : DpAll K H vs xs) (lo hi : Option Int) : DpAll K H (cutV vs lo hi) (cutD xs lo hi) := by
  unfold cutV cutD
  rw [dpAll_len h]
  exact dpAll_take _ (dpAll_drop _ h)
theorem ev_slT {xs : List PyData} {lo hi : Option Int} {tl th : TO} (h : Ev K te es (· = .d (.tuple xs))) (hl : EvO K tl es (· = lo)) (hh : EvO K th es (· = hi)) : Ev K (tSl (rSlG K) te tl th) es (· = .d (.tuple (cutD xs lo hi))) := fun B0 H0 B σ H o Q q =>
  h B0 H0 B σ H o _ fun x v B1 H1 e s1 d1 => hl B0 H0 B1 σ H1 (o.mono s1) _ fun l B2 H2 el s2 => hh B0 H0 B2 σ H2 ((o.mono s1).mono s2) _ fun u B3 H3 eu s3 => by
    subst e; subst el; subst eu
    have d3 : DV K B3 H3 (.d (.tuple xs)) v := DV.mono (s2.bb.trans s3.bb) (s2.hh.trans s3.hh) d1
    cases d3 with
    | @tup a vs _ hs ha =>
      have hs3 := sameT s3.bh hs
      have s13 := s1.trans (s2.trans s3)
      refine .inr ⟨a, vs, rfl, hs3, fun hw => ?_, fun hw p hp => ?_⟩
      · refine q _ _ B3 H3 rfl s13 (Dp.tup hs ?_)
        have : cutV vs l u = vs := by
          unfold cutV
          rw [hw.1, hw.2]
          simp
        have hc := dpAll_cut ha l u
        rw [this] at hc
        exact hc
      · have hb := s3.bh.free hp
        exact q _ _ (upd B3 p (.tup (cutV vs l u))) _ rfl (s13.trans (Stp.new s3.bh hp)) (Dp.tup (SqT.of upd_same) (dpAllMono (same_upd hb) (dpAll_cut ha l u)))
theorem ev_slL {xs : List PyData} {lo hi : Option Int} {tl th : TO} (h : Ev K te es (· = .d (.list xs))) (hl : EvO K tl es (· = lo)) (hh : EvO K th es (· = hi)) : EvL K (tSl (rSlG K) te tl th) es (· = cutD xs lo hi) := fun B0 H0 B σ H o Q q =>
  h B0 H0 B σ H o _ fun x v B1 H1 e s1 d1 => hl B0 H0 B1 σ H1 (o.mono s1) _ fun l B2 H2 el s2 => hh B0 H0 B2 σ H2 ((o.mono s1).mono s2) _ fun u B3 H3 eu s3 => by
    subst e; subst el; subst eu
    have d3 : DV K B3 H3 (.d (.list xs)) v := DV.mono (s2.bb.trans s3.bb) (s2.hh.trans s3.hh) d1
    cases d3 with
    | @lst a vs _ hs ha =>
      have s13 := s1.trans (s2.trans s3)
      exact .inl ⟨a, vs, rfl, Same.seq s3.bh hs, fun p hp => q _ p _ B3 _ rfl (s13.trans (Stp.open s3.bh hp)) (s13.hh.free hp) (s3.bh.free hp) upd_same (dpAll_cut ha l u)⟩
theorem cut_to {xs : List PyData} {k : Nat} : cutD xs none (some (k : Int)) = xs.take k := by
  unfold cutD
  rw [HT.sIx_none, HT.sIx_nat, Nat.sub_zero, List.drop_zero, ← List.take_eq_take_min]
theorem cut_from {xs : List PyData} {k : Nat} : cutD xs (some (k : Int)) none = xs.drop k := by
  unfold cutD
  rw [HT.sIx_none, HT.sIx_nat]
  by_cases h : k ≤ xs.length
  · rw [Nat.min_eq_left h, List.take_of_length_le (by rw [List.length_drop]; exact Nat.le_refl _)]
  · rw [Nat.min_eq_right (by omega), List.drop_of_length_le (Nat.le_refl _), List.drop_of_length_le (by omega)]
    simp
end
end HM
end
section
/-! HM core 13: enumerate of a tuple -/
namespace HM
open PySem PySem.Spec PyProof.Rows L2 RZ
set_option maxHeartbeats 1000000 in
theorem enum_meets {v : Value} {o : Obj} {H : Heap → Prop} (B : Begins v o H) :
    Meets (Builtin.«enumerate.__new__» ⟨[.type "enumerate", v], []⟩) (fun _ R s => H s.heap ∧
      R (.ok (.ret (.ref (s.heap.push o).objs.size))) { s with heap := (s.heap.push o).push { cls := .type "enumerate", data := .fields #[.none, .bool false, .ref s.heap.objs.size, rawInt 0, .none, .none] } }) :=
  .of_wp fun prog w A R s ⟨h1, h⟩ => by
    obtain ⟨hp, g, d, tk, os⟩ := s
    have hsub := sub_enumerate
    have started : ∀ {A' : Around} {E : Value → Shared → Prop} {Q : Value → Shared → Prop}, Q (.ref hp.objs.size) ⟨hp.push o, g, d, tk, os⟩ → wpAny (model prog w) A' (pyIter v) Q E ⟨hp, g, d, tk, os⟩ :=
      fun q => B.iter prog w _ _ ⟨hp, g, d, tk, os⟩ _ h1 q
    wp_walk using started
    first
      | exact ⟨_, rfl, h⟩
      | (refine wpAny_stack_any fun st => wpAny_pure ?_
         split
         · rename_i c _ _ _ _ _
           cases (c == Value.type "enumerate")
           · wp_walk using started
             exact ⟨_, rfl, h⟩
           · wp_walk using started
             exact ⟨_, rfl, h⟩
         · wp_walk using started
           exact ⟨_, rfl, h⟩)
section
variable {prog : Program} {w : World} {A : Around} {E : Value → Shared → Prop} {s : Shared}
theorem enum_starts {v : Value} {o : Obj} {H : Heap → Prop} {Q : Value → Shared → Prop} (B : Begins v o H) (h1 : H s.heap)
    (h : ∀ h', IsEnum h' (s.heap.objs.size + 1) s.heap.objs.size 0 .none → h'.get? s.heap.objs.size = some o → h'.objs.size = s.heap.objs.size + 2 →
      (∀ b o, s.heap.get? b = some o → h'.get? b = some o) → Q (.ref (s.heap.objs.size + 1)) { s with heap := h' }) :
    wpAny (model prog w) A (call (.type "enumerate") [v]) Q E s := by
  refine callType_new F.called_enumerate (by decide) (F.typeCall_enumerate_1 _) (F.newCall_enumerate_1 _) (fun obj => F.args_object_init_2 obj _) F.entry_enumerate_new (enum_meets B) ⟨h1, ?_⟩
  have one : (s.heap.push o).objs.size = s.heap.objs.size + 1 := Heap.size_push ..
  show _ ∧ _
  rw [one]
  have made := Heap.get?_push_size (s.heap.push o) (o := { cls := .type "enumerate", data := .fields #[.none, .bool false, .ref s.heap.objs.size, rawInt 0, .none, .none] }) rfl
  rw [one] at made
  exact ⟨⟨_, made, rfl⟩, h _ made (Heap.get?_push_of_some _ (Heap.get?_push_size _ B.free)) (by rw [Heap.size_push, one]) fun b o x => Heap.get?_push_of_some _ (Heap.get?_push_of_some _ x)⟩
end
/-- the tuple at a, each item in a new pair with its place -/
def IteT (K : PySem.W.Frag) (a : Addr) : It where
  go := fun i H => ∃ (xs : List V) (x : V), SqT K H a xs ∧ xs[i]? = some x
  yld := fun i H v H' => ∃ T x, v = .ref T ∧ H T = none ∧ H' = upd H T (.tup [.int (i : Nat), x]) ∧ ∀ xs, SqT K H a xs → xs[i]? = some x
  stop := fun i H => ∃ xs : List V, SqT K H a xs ∧ xs.length ≤ i
theorem turn_enumT {P : Program} {w : World} {K : PySem.W.Frag} {elts : List Expr} {kk : Nat} {tpos : Pos} (a e it : Addr) :
    Turn P w K (.Tuple elts kk tpos) (IteT K a) [e, it] e (fun i h => (∃ old, IsEnum h e it ((i : Nat) : Int) old) ∧ h.IsTupleIter it a i ∧ e ≠ it ∧ a ≠ it ∧ e ≠ a) where
  mem := by simp
  obj := by
    rintro i h ⟨⟨old, he⟩, ⟨o, ho, hc, hd⟩, _⟩ b hb
    rcases List.mem_cons.mp hb with rfl | hb
    · exact ⟨_, he, fun v q => nomatch q⟩
    · rw [List.mem_singleton.mp hb]
      exact ⟨o, ho, fun v q => by rw [hd] at q; cases q⟩
  keep := by
    rintro i h h' ⟨⟨old, he⟩, hi, hne⟩ k
    exact ⟨⟨old, k e (by simp) _ he⟩, hi.at fun o q => k it (by simp) o q, hne⟩
  item := by
    intro X hP hw hK hc i pins s σ H E I hf st hg
    subst hP hw hK
    obtain ⟨⟨old, he⟩, hit, hne, hai, hea⟩ := st
    obtain ⟨xs, x, hq, hx⟩ := hg
    obtain ⟨its, rv, pt, hz⟩ := I.tuple hq
    obtain ⟨u, hu, ru⟩ := rv.get hx
    have hel : e < s.heap.objs.size := Heap.lt_size he
    have hil : it < s.heap.objs.size := by obtain ⟨_, q, _⟩ := hit; exact Heap.lt_size q
    have hsz : i < its.toArray.size := by
      rw [List.size_toArray, ← rv.length]
      exact (List.getElem?_eq_some_iff.mp hx).1
    have hh : X.A.handled = none := I.ok.hd hc
    refine wpAny_pyNext_enum_itemC (Draws.tuple (A := X.A.in1) hh it a hai its.toArray) he ⟨hit, pt⟩ hsz hne (by simp [hne, hea]) fun y h' tk hy ho hst hT hsz' hk => ?_
    have ey : y = u := by
      have h1 : its.toArray[i]? = some y := hy
      have h2 : its.toArray[i]? = some u := by simpa using hu
      rw [h1] at h2
      exact Option.some.inj h2
    subst ey
    refine ⟨_, rfl, wpAny_letOwnedTupleGo_enum (s := { s with heap := h', toks := tk + 1 }) ho fun h'' he' sb => ?_⟩
    have hT2 : h''.get? s.heap.objs.size = some { cls := .type "tuple", data := .seq #[.int i tk, y] } := (sb.2 _ (Nat.ne_of_gt hel)).trans hT
    have new : ObjOk X.prog X.w (upd H s.heap.objs.size (.tup [.int (i : Nat), x])) h'' s.heap.objs.size (.tup [.int (i : Nat), x]) :=
      ⟨by show 2 ≤ sizeLine; decide, [.int i tk, y], .cons ⟨_, rfl⟩ (.cons ru .nil), ⟨_, hT2, rfl, _, rfl⟩⟩
    have same : ∀ b ob, b ∉ [e, it] → s.heap.get? b = some ob → h''.get? b = some ob := fun b ob hb q => by
      have n1 : b ≠ e := fun z => hb (by simp [z])
      have n2 : b ≠ it := fun z => hb (by simp [z])
      exact (sb.2 b n1).trans (hk b ob n1 n2 q)
    have I1 : Inv X pins σ (upd H s.heap.objs.size (.tup [.int (i : Nat), x])) { s with heap := h'', toks := tk + 1 } := I.turnedNew (ch := [e, it]) same hf (Nat.le_refl _) new
    refine ⟨.ref s.heap.objs.size, _, I1, rfl, ⟨_, x, rfl, I.hok.fresh (Nat.le_refl _), rfl, fun ys hy => by rw [I.tuple_inj hy hq]; exact hx⟩, ⟨⟨y, ?_⟩, hst.1.at fun o q => (sb.2 it (Ne.symm hne)).trans q, hne, hai, hea⟩, fun b hb => ?_⟩
    · rw [show ((i + 1 : Nat) : Int) = (i : Int) + 1 by omega]
      exact he'
    · have hb' : b < s.heap.objs.size := by
        rcases List.mem_cons.mp hb with rfl | hb
        · exact hel
        · rw [List.mem_singleton.mp hb]
          exact hil
      rw [upd_ne (Nat.ne_of_lt hb')]
      exact (hf b hb).1
  done := by
    intro X hP hw hK hc i pins s σ H E I hf st hg
    subst hP hw hK
    obtain ⟨⟨old, he⟩, hit, hne, hai, hea⟩ := st
    obtain ⟨xs, hq, hx⟩ := hg
    obtain ⟨its, rv, pt, hz⟩ := I.tuple hq
    have hh : X.A.handled = none := I.ok.hd hc
    obtain ⟨f0, f1, f2, f3, f4, f5⟩ := hf it (by simp)
    have hT : s.TypeIs (.ref e) "enumerate" := ⟨_, he, rfl⟩
    unfold pyNext
    refine wpAny_bind (wpAny_attempt (wpAny_callSpecial?_slot (name := Str.ofString "__next__") hT F.slot_enumerate_next (wpAny_call_entry F.slot_enumerate_next hT F.entry_enumerate_next ?_ (F.args_enumerate_next_1 _))))
    show wpAny _ _ (field (.ref e) 2 >>= _) _ _ _
    refine wpAny_bind (wpAny_field he rfl (x := .ref it) rfl ?_)
    have hn : its.toArray[i]? = none := by
      have := rv.length
      simp
      omega
    refine wpAny_bind (PySem.wpAny_nextOf_tuple_end (A := X.A.in1) hh hit pt hn fun h' x he' hx' => ?_)
    obtain ⟨o, ho, hc'⟩ := hx'
    refine wpAny_bind (wpAny_isInstance (T := "StopIteration") (b := true) ⟨o, ho, hc'⟩ isSubtype_stop ?_)
    exact wpAny_pure ⟨rfl, I.turned (t' := s.toks) (fun b o hb q => he' b o hb q) f0 f1 f3 f4 f5⟩
  self := fun A i s Q E st h => let ⟨⟨_, he⟩, _⟩ := st; wpAny_pyIter_enum he h
def iEnumS (K : PySem.W.Frag) (ta : TA) : TI := fun σ H R => ta σ H fun vs H1 => ∃ a xs, vs = [.ref a] ∧ ((SqL K H1 a xs ∧ R (Ite K a) H1) ∨ (SqT K H1 a xs ∧ R (IteT K a) H1))
theorem pi_enumS {X : Cx} {e : Expr} {ta : TA} {p pos tpos : Pos} {elts : List Expr} {kk : Nat} (hg : Gl X "enumerate") (hm : X.mg "enumerate" = none) (ha : PA X [e] ta) (hs : starEach [e] X.env = [(false, eval e X.env)] := by rfl) :
    PI X (.Tuple elts kk tpos) (.Call (.Name "enumerate" p) [e] [] pos) (iEnumS X.K ta) := by
  constructor
  intro pins s σ H R I h
  refine Call_ (ld_blt I hg hm boot_enumerate (PyProof.Rows.callWith_type1 (thn (ha.run pos pins s σ H _ I h) ?_) hs rfl))
  rintro us s1 ⟨vs, H1, I1, r1, a, xs, rfl, q⟩
  cases r1 with
  | cons r rr =>
    cases rr
    cases r
    have pair : ∀ b ∈ [s1.heap.objs.size + 1, s1.heap.objs.size], FpOk X pins H1 b := fun b hb => by
      have hle : s1.heap.objs.size ≤ b := by
        rcases List.mem_cons.mp hb with rfl | hb
        · exact Nat.le_add_right _ _
        · rw [List.mem_singleton.mp hb]
          exact Nat.le_refl _
      exact I1.fpOk hle (I1.hok.fresh hle)
    rcases q with ⟨hq, q⟩ | ⟨hq, q⟩
    · obtain ⟨its, rv, p', hz⟩ := I1.list hq
      refine call_enumerate_list p'.isList fun h' he hit hsz hk => wpAny_pyIter_enum he ?_
      have I2 : Inv X pins σ H1 { s1 with heap := h' } := I1.kept (t' := s1.toks) hk
      exact ⟨s1.heap.objs.size + 1, _, _, _, H1, rfl, I2, turn_enum a (s1.heap.objs.size + 1) s1.heap.objs.size, ⟨⟨.none, he⟩, hit, Nat.succ_ne_self _⟩, pair, q⟩
    · obtain ⟨its, rv, p', hz⟩ := I1.tuple hq
      refine enum_starts (begins_tuple a its.toArray) p' fun h' he hit hsz hk => wpAny_pyIter_enum he ?_
      have I2 : Inv X pins σ H1 { s1 with heap := h' } := I1.kept (t' := s1.toks) hk
      have hal : a < s1.heap.objs.size := p'.lt
      exact ⟨s1.heap.objs.size + 1, _, _, _, H1, rfl, I2, turn_enumT a (s1.heap.objs.size + 1) s1.heap.objs.size, ⟨⟨.none, he⟩, ⟨_, hit, rfl, rfl⟩, Nat.succ_ne_self _, Nat.ne_of_lt hal, Nat.ne_of_gt (Nat.lt_of_lt_of_le hal (Nat.le_succ _))⟩, pair, q⟩
section
variable {K : PySem.W.Frag} {es es' : List Sl} {te ta tb : TE} {t tk : TA} {P : Dv → Prop} {p : Pst} {α : Type}
theorem wk_enumL {B : Hp} {a : Addr} {vs : List V} {xs : List PyData} (hs : SqL K B a vs) (ha : DpAll K B vs xs) : Wk K B (Ite K a) xs.length (fun i => .d (.tuple [.int i, xs.getD i .none])) where
  go := fun i H e hi => by
    obtain ⟨v, e1, _⟩ := dpAll_get ha (getD_some hi)
    exact ⟨vs, v, Same.seq e hs, e1⟩
  stop := fun H e => ⟨vs, Same.seq e hs, by rw [dpAll_len ha]; exact Nat.le_refl _⟩
  yld := fun B1 i H x H' e e1 hi h => by
    obtain ⟨T, y, rfl, nT, rfl, h⟩ := h
    obtain ⟨v, e2, hd⟩ := dpAll_get ha (getD_some hi)
    have := h vs (Same.seq (e.trans e1) hs)
    rw [e2] at this
    cases this
    have sb : Same B1 (upd B1 T (.tup [.int (i : Nat), y])) := same_upd (e1.free nT)
    exact ⟨_, Stp.new e1 nT, Dp.tup (SqT.of upd_same) (.cons (.int _) (.cons (dpMono (e.trans sb) hd) .nil))⟩
theorem wk_enumT {B : Hp} {a : Addr} {vs : List V} {xs : List PyData} (hs : SqT K B a vs) (ha : DpAll K B vs xs) : Wk K B (IteT K a) xs.length (fun i => .d (.tuple [.int i, xs.getD i .none])) where
  go := fun i H e hi => by
    obtain ⟨v, e1, _⟩ := dpAll_get ha (getD_some hi)
    exact ⟨vs, v, sameT e hs, e1⟩
  stop := fun H e => ⟨vs, sameT e hs, by rw [dpAll_len ha]; exact Nat.le_refl _⟩
  yld := fun B1 i H x H' e e1 hi h => by
    obtain ⟨T, y, rfl, nT, rfl, h⟩ := h
    obtain ⟨v, e2, hd⟩ := dpAll_get ha (getD_some hi)
    have := h vs (sameT (e.trans e1) hs)
    rw [e2] at this
    cases this
    have sb : Same B1 (upd B1 T (.tup [.int (i : Nat), y])) := same_upd (e1.free nT)
    exact ⟨_, Stp.new e1 nT, Dp.tup (SqT.of upd_same) (.cons (.int _) (.cons (dpMono (e.trans sb) hd) .nil))⟩
theorem ei_enum {ta' : TA} {xs : List PyData} {x : Dv} (h : EvA K ta' es (· = [x])) (hx : x = .d (.list xs) ∨ x = .d (.tuple xs)) : EvI K (iEnumS K ta') es (fun n f => n = xs.length ∧ f = fun i => .d (.tuple [.int i, xs.getD i .none])) := fun B0 H0 B σ H o R r =>
  h B0 H0 B σ H o _ fun l vs B1 H1 e s1 d1 => by
    subst e
    obtain ⟨v, rfl, d2⟩ := dv1 d1
    rcases hx with rfl | rfl
    · cases d2 with
      | lst hs ha => exact ⟨_, _, rfl, .inl ⟨Same.seq s1.bh hs, r _ _ _ B1 H1 ⟨rfl, rfl⟩ s1 (wk_enumL hs ha)⟩⟩
    · cases d2 with
      | tup hs ha => exact ⟨_, _, rfl, .inr ⟨sameT s1.bh hs, r _ _ _ B1 H1 ⟨rfl, rfl⟩ s1 (wk_enumT hs ha)⟩⟩
/-- [.. for i, x in enumerate(xs) if ..], over encoded things -/
theorem ev_lcEnum {wi : TI} {tt : TT} {i j : Nat} {vs : List Nat} (xs : List α) (enc : α → PyData) (b : Nat → α → Bool) (w : Nat → α → PyData) (h : EvI K wi es (fun n f => n = (xs.map enc).length ∧ f = fun i => .d (.tuple [.int i, (xs.map enc).getD i .none])))
    (hn : xs.length ≤ 8000000) (hi : i ∈ vs) (hj : j ∈ vs)
    (k : ∀ (a : Nat) (ha : a < xs.length), EvT K tt (((wipeS es vs).set i (.im (.d (.int a)))).set j (.im (.d (enc xs[a])))) (· = b a xs[a]) ∧ (b a xs[a] = true → Ev K te (((wipeS es vs).set i (.im (.d (.int a)))).set j (.im (.d (enc xs[a])))) (· = .d (w a xs[a])))) :
    EvL K (tLc wi (gTup K 2 (gCons (gName i) (gCons (gName j) gNil))) tt te vs) es (· = (xs.zipIdx.filter fun q => b q.2 q.1).map fun q => w q.2 q.1) := by
  have zl : xs.zipIdx.length = xs.length := List.length_zipIdx
  have zg : ∀ a (ha : a < xs.length), xs.zipIdx[a]? = some (xs[a], a) := fun a ha => by simp [List.getElem?_zipIdx, List.getElem?_eq_getElem ha]
  refine ev_lc (js := [i, j]) (Pd := fun a d => ∃ h : a < xs.length, d = w a xs[a]) (Pb := fun a c => ∃ h : a < xs.length, c = b a xs[a]) h (fun a ys => ys = ((xs.zipIdx.take a).filter fun q => b q.2 q.1).map fun q => w q.2 q.1) (by simp) (fun a ha => ?_) fun n f ⟨en, ef⟩ => ?_
  · rcases List.mem_cons.mp ha with rfl | ha
    · exact hi
    · rw [List.mem_singleton.mp ha]; exact hj
  · subst en; subst ef
    rw [List.length_map]
    refine ⟨hn, fun a ha => ?_, fun a ys d ha hI hb hd => ?_, fun a ys ha hI hb => ?_, fun ys hI => ?_⟩
    · have e := getD_map xs enc a ha
      have k' := k a ha
      refine ⟨((wipeS es vs).set i (.im (.d (.int a)))).set j (.im (.d (enc xs[a]))), ?_, k'.1.imp fun c e => ⟨ha, e⟩, fun ⟨_, hb⟩ => (k'.2 hb.symm).imp fun x e => ⟨_, e, ha, rfl⟩⟩
      show Tg K [i, j] _ _ (Dv.d (.tuple [.int a, (xs.map enc).getD a .none])) _
      rw [e]
      exact tg_pair
    · obtain ⟨_, hb⟩ := hb
      obtain ⟨_, hd⟩ := hd
      rw [List.take_add_one, zg a ha, Option.toList_some, List.filter_append, List.map_append, hI, hd, List.filter_cons_of_pos (p := fun q : α × Nat => b q.2 q.1) (a := (xs[a], a)) hb.symm]
      rfl
    · obtain ⟨_, hb⟩ := hb
      rw [List.take_add_one, zg a ha, Option.toList_some, List.filter_append, List.map_append, hI, List.filter_cons_of_neg (p := fun q : α × Nat => b q.2 q.1) (a := (xs[a], a)) (by show ¬ b a xs[a] = true; rw [← hb]; exact Bool.false_ne_true)]
      simp
    · rw [hI, List.take_of_length_le (by rw [zl]; exact Nat.le_refl _)]
end
end HM
end
section
/-! HM core 14: sorted over rows, index in a tuple, pops, several targets with new lists -/
namespace HM
open PySem PySem.Spec PyProof.Rows L2 RZ
/-! ### sorted(list) of data -/
def rSortedD (K : PySem.W.Frag) : List V → Hp → VK → Prop := fun vs H Q => ∃ B v ds, vs = [v] ∧ Same B H ∧ Dp K B v (.list ds) ∧ PySem.W.AllAlike ds ∧ PySem.W.Sortable ds ∧ (∀ d ∈ ds, d.depth ≤ 40) ∧
  ∀ (ws : List V) (p : Addr), DpAll K B ws (ds.mergeSort (PySem.W.dataLe false id)) → H p = none → Q (.ref p) (upd H p (.lst ws))
theorem each_of {K : PySem.W.Frag} {H : Hp} : ∀ {vs : List V} {ds : List PyData} {its : List Value}, DpAll K H vs ds → Vals vs its → PySem.W.EachIs (fun u d => ∃ v, RelV v u ∧ Dp K H v d) its ds
  | _, _, _, .nil, .nil => .nil
  | _, _, _, .cons a b, .cons r t => .cons ⟨_, r, a⟩ (each_of b t)
theorem of_each {K : PySem.W.Frag} {H : Hp} : ∀ {ds : List PyData} {its : List Value}, PySem.W.EachIs (fun u d => ∃ v, RelV v u ∧ Dp K H v d) its ds → ∃ vs, DpAll K H vs ds ∧ Vals vs its
  | _, _, .nil => ⟨[], .nil, .nil⟩
  | _, _, .cons ⟨v, r, a⟩ t => by
    obtain ⟨vs, h1, h2⟩ := of_each t
    exact ⟨v :: vs, .cons a h1, .cons r h2⟩
theorem cr_sortedD {X : Cx} (hu : X.A.units + 64 < cLine) : CallR X (.builtin "sorted") (rSortedD X.K) := by
  intro pins s σ H vs us Q I r h
  obtain ⟨B, v, ds, rfl, sb, hd, hal, hso, hdp, q⟩ := h
  obtain ⟨u, rfl, ru⟩ := vals1 r
  cases hd with
  | @lst a xs _ hs ha =>
    cases ru
    obtain ⟨its, rv, pl, hz⟩ := I.list (Same.seq sb hs)
    have e := each_of ha rv
    have er : PySem.W.EachIs (fun u d => ∃ as, Reads s.heap u (id d) as) its ds := e.mono fun u d ⟨v, r1, r2⟩ => Dp.reads I d v u (dpMono sb r2) r1
    refine PySem.W.sorted_data (enc := id) pl.isList e er (by rw [List.map_id]; exact hal) (by rw [List.map_id]; exact hso) (by rw [← dpAll_len ha]; exact hz) (fun d h => by have := hdp d h; show X.A.units + 2 + d.depth < cLine; omega) fun out hl ho => ?_
    obtain ⟨ws, h1, h2⟩ := of_each ho
    obtain ⟨ep, he'⟩ := PyProof.Rows.sortedAll_at s.heap its (List.toArray out)
    have hlen : ws.length ≤ sizeLine := by rw [h2.length, hl, ← dpAll_len ha]; exact hz
    exact ⟨.ref _, upd H (s.heap.objs.size + 1) (.lst ws), I.laid (t' := s.toks) (fun _ _ => PyProof.Rows.sortedAll_old) (Nat.le_succ _) ⟨hlen, out, ep, h2, he'⟩, rfl, q ws _ h1 (I.hok.fresh (Nat.le_succ _))⟩
def rSortedG (K : PySem.W.Frag) := cOr (rSortedX K) (rSortedD K)
theorem cr_sortedG {X : Cx} (hu : X.A.units + 64 < cLine) : CallR X (.builtin "sorted") (rSortedG X.K) := cr_sortedX.or (cr_sortedD hu)
section
variable {K : PySem.W.Frag} {es es' : List Sl} {te ta tb : TE} {t tk : TA} {P : Dv → Prop} {p : Pst} {α : Type}
theorem rcl_sortedI {x : Dv} {ns : List Int} (h : IsD x ns) : RcL K (rSortedG K) [x] (fun l => ∃ ms : List Int, l = ms.map .int ∧ ms.Perm ns ∧ ms.Pairwise (· ≤ ·)) := fun B H vs e a Q q => .inl (rcl_sorted h B H vs e a Q q)
/-- rows of ints, all not empty -/
theorem rcl_sortedD {xs : List α} {enc : α → PyData} (h1 : ∀ a b, PySem.W.alike (enc a) (enc b) = true) (h2 : PySem.W.Sortable (xs.map enc)) (h3 : ∀ a, (enc a).depth ≤ 40) : RcL K (rSortedG K) [.d (.list (xs.map enc))] (· = (xs.mergeSort (PySem.W.dataLe false enc)).map enc) := fun B H vs e a Q q => .inr (by
  obtain ⟨v, rfl, d⟩ := dv1 a
  refine ⟨B, v, xs.map enc, rfl, e, d, PySem.W.AllAlike.of h1, h2, fun d hd => ?_, fun ws p ha hp => ?_⟩
  · obtain ⟨x, _, rfl⟩ := List.mem_map.mp hd
    exact h3 x
  · have em : (xs.map enc).mergeSort (PySem.W.dataLe false id) = (xs.mergeSort (PySem.W.dataLe false enc)).map enc := by
      rw [List.map_mergeSort (r := PySem.W.dataLe false enc) (s := PySem.W.dataLe false id) fun a _ b _ => rfl]
    rw [em] at ha
    have hb := e.free hp
    exact q _ p ws B _ rfl (Stp.open e hp) hp hb upd_same ha)
/-! ### isinstance(x, (list, tuple)) -/
theorem rc_isSeq {x : Dv} {d : PyData} {ds : List PyData} (h : Rd1 x d) (hd : d = .list ds ∨ d = .tuple ds) : Rc K (rIsiT K) [x, .row [.ty "list", .ty "tuple"]] (· = .d (.bool true)) := fun B H vs e a Q q => by
  obtain ⟨v, w, rfl, d1, tp, rfl, d2⟩ := dv2 a
  have dp := h.dp e d1
  have ho := e _ _ d2
  have fin : Q (.bl true) H := q _ _ B H rfl (Stp.refl e) (.bl true)
  have k1 : ∀ {t : String}, kitB t "list" = some true → PySem.W.kitAny K (.type t) [.type "list", .type "tuple"] = some true := fun h => kitAny_cons (kit_ty h) (fun z => nomatch z) fun _ => rfl
  have k2 : PySem.W.kitAny K (.type "tuple") [.type "list", .type "tuple"] = some true := kitAny_cons (b := false) (kit_ty (by decide +kernel)) (fun _ => kitAny_cons (b := true) (kit_ty (by decide +kernel)) (fun z => nomatch z) fun _ => rfl) fun z => nomatch z
  rcases hd with rfl | rfl
  · cases dp with
    | lst hs ha =>
      refine ⟨_, tp, _, .type "list", [.type "list", .type "tuple"], true, rfl, ho, .cons (.ty _) (.cons (.ty _) .nil), ?_, k1 (by decide +kernel), fin⟩
      rcases hs with (hs | ⟨o, hs⟩) | ⟨o, its, n, hk, hc, _⟩
      · exact .base (.lst hs)
      · exact .base (.frz hs)
      · exact .kList hk hc
  · cases dp with
    | tup hs ha =>
      refine ⟨_, tp, _, .type "tuple", [.type "list", .type "tuple"], true, rfl, ho, .cons (.ty _) (.cons (.ty _) .nil), ?_, k2, fin⟩
      rcases hs with (hs | ⟨o, hs⟩) | ⟨o, its, n, hk, hc, _⟩
      · exact .base (.tup hs)
      · exact .fTuple hs
      · exact .kTuple hk hc
/-! ### pops -/
theorem tyL {H : Hp} {q : Addr} {vs : List V} (h : H q = some (.lst vs)) : tyV K "list" (.ref q) H := .inl ⟨rfl, _, SqL.of h⟩
theorem sx_popSet {i j : Nat} {xs : List PyData} {d : PyData} (e : es[i]? = some (.mu (xs ++ [d]))) (k : p.nx ((es.set i (.mu xs)).set j (.im (.d d)))) : Sx K (tAsg (tBM0 K "list" rPop (tVar i)) (gName j)) es p := fun B0 H0 B σ H D o g => by
  obtain ⟨q, vs, e1, hb, h0, hp, ha⟩ := o.mu e
  have hl := dpAll_len ha
  obtain ⟨v, hv, dv⟩ := dpAll_get ha (i := xs.length) (by rw [List.getElem?_append_right (Nat.le_refl _), Nat.sub_self]; rfl)
  have hl' : vs.length - 1 = xs.length := by rw [hl, List.length_append]; rfl
  have hd : DpAll K B vs.dropLast xs := by
    rw [List.dropLast_eq_take]
    have := dpAll_take (vs.length - 1) ha
    rw [hl'] at this ⊢
    rwa [List.take_left] at this
  refine ⟨.ref q, e1, tyL hp, q, vs, v, rfl, rfl, hp, by rw [hl']; exact hv, ?_⟩
  exact g.nx _ B _ _ k (Same.refl _) (((o.write e e1 hd).set j (x := .d d) dv))
theorem dpAll_erase {H : Hp} : ∀ {vs : List V} {ds : List PyData} (k : Nat), DpAll K H vs ds → DpAll K H (vs.eraseIdx k) (ds.eraseIdx k)
  | _, _, _, .nil => .nil
  | _, _, 0, .cons _ b => b
  | _, _, k + 1, .cons a b => .cons a (dpAll_erase k b)
/-- found.append(left.pop(k)) -/
theorem sx_popApp {i j : Nat} {xs ys : List PyData} (ei : es[i]? = some (.mu xs)) (ej : es[j]? = some (.mu ys)) (hij : i ≠ j) (h : Ev K te es (fun x => ∃ k : Nat, x = .d (.int k) ∧ k < xs.length)) (hy : ys.length < 1000000) (hx : xs.length < 1000000)
    (kk : ∀ (k : Nat) d, xs[k]? = some d → p.nx ((es.set i (.mu (xs.eraseIdx k))).set j (.mu (ys ++ [d])))) : Sx K (tDrop (tBM K "list" rAppend (tVar j) (tCons (tBM K "list" rPopAt (tVar i) (tCons te tNil)) tNil))) es p := fun B0 H0 B σ H D o g => by
  obtain ⟨a, vs, ea, ha0, hA0, hpa, haD⟩ := o.mu ej
  obtain ⟨b, ws, eb, hb0, hB0, hpb, hbD⟩ := o.mu ei
  refine ⟨.ref a, ea, tyL hpa, .ref b, eb, tyL hpb, h B0 H0 B σ H o _ fun y v B1 H1 ⟨k, ey, hkl⟩ s1 d1 => ?_⟩
  subst ey
  cases d1
  have o1 := o.mono s1
  have hpb1 := s1.hh _ _ hpb
  have hl := dpAll_len hbD
  have hk := List.getElem?_eq_getElem hkl
  obtain ⟨u, hu, du⟩ := dpAll_get hbD hk
  have si : seqIndex? (k : Int) ws.length = some k := seqIndex_of (Int.natCast_nonneg k) (by omega)
  refine ⟨b, ws, (k : Int), k, u, rfl, rfl, hpb1, by omega, by omega, si, hu, ?_⟩
  have hne : a ≠ b := (o.ne j i ys xs a b (Ne.symm hij) ej ei ea eb)
  have hpa1 : upd H1 b (.lst (ws.eraseIdx k)) a = some (.lst vs) := by rw [upd_ne hne]; exact s1.hh _ _ hpa
  have o2 := o1.write ei eb (dpAll_erase k (dpAllMono s1.bb hbD))
  refine ⟨a, vs, u, rfl, rfl, hpa1, line_lt (by rw [dpAll_len haD]; omega), ?_⟩
  have ej2 : (es.set i (.mu (xs.eraseIdx k)))[j]? = some (.mu ys) := by rw [List.getElem?_set_ne hij]; exact ej
  exact g.nx _ B1 σ _ (kk k _ hk) s1.bb (o2.write ej2 ea (dpAll_app (dpAllMono s1.bb haD) (.cons (dpMono s1.bb du) .nil)))
/-! ### several targets, new lists among the values -/
inductive Im where
  | v (x : Dv) | l (xs : List PyData)
def Im.sl : Im → Sl
  | .v x => .im x
  | .l xs => .mu xs
/-- H: the heap ahead of the values -/
def ImV (K : PySem.W.Frag) (H B1 H1 : Hp) : Im → V → Prop
  | .v x, v => Stay x ∧ DV K B1 H1 x v
  | .l xs, v => ∃ p ws, v = .ref p ∧ H p = none ∧ B1 p = none ∧ H1 p = some (.lst ws) ∧ DpAll K B1 ws xs
inductive ImVs (K : PySem.W.Frag) (H B1 H1 : Hp) : List Im → List V → Prop
  | nil : ImVs K H B1 H1 [] []
  | cons {m : Im} {v : V} {ms : List Im} {vs : List V} (a : ImV K H B1 H1 m v) (n : ∀ xs, m = .l xs → ∀ (k : Nat) ys, ms[k]? = some (.l ys) → vs[k]? ≠ some v) (b : ImVs K H B1 H1 ms vs) : ImVs K H B1 H1 (m :: ms) (v :: vs)
def EvM (K : PySem.W.Frag) (ta : TA) (es : List Sl) (ms : List Im) : Prop := ∀ (B0 H0 B : Hp) (σ : L2.St) (H : Hp), Ok K B0 H0 B es σ H → ∀ Q : List V → Hp → Prop,
  (∀ vs B2 H2, Stp B H B2 H2 → ImVs K H B2 H2 ms vs → Q vs H2) → ta σ H Q
theorem em_nil : EvM K tNil es [] := fun B0 H0 B σ H o Q q => q [] B H (Stp.refl o.bh) .nil
theorem ImVs.fresh {H H1 B2 H2 : Hp} (e : Same H H1) : ∀ {ms : List Im} {vs : List V}, ImVs K H1 B2 H2 ms vs → ImVs K H B2 H2 ms vs
  | _, _, .nil => .nil
  | .v _ :: _, _, .cons a n b => .cons a n (ImVs.fresh e b)
  | .l _ :: _, _, .cons ⟨p, ws, e1, h0, r⟩ n b => .cons ⟨p, ws, e1, e.free h0, r⟩ n (ImVs.fresh e b)
theorem ImVs.at {H B2 H2 : Hp} : ∀ {ms : List Im} {vs : List V}, ImVs K H B2 H2 ms vs → ∀ (k : Nat) ys, ms[k]? = some (.l ys) → ∃ p, vs[k]? = some (.ref p) ∧ H p = none
  | _, _, .nil, k, ys, h => by simp at h
  | m :: _, _, .cons a n b, 0, ys, h => by
    simp at h
    subst h
    obtain ⟨p, ws, e1, h0, _⟩ := a
    exact ⟨p, by rw [e1]; rfl, h0⟩
  | m :: _, _, .cons a n b, k + 1, ys, h => by
    obtain ⟨p, e, h0⟩ := ImVs.at b k ys (by simpa using h)
    exact ⟨p, by simpa using e, h0⟩
theorem em_v {x : Dv} {ms : List Im} (s : Stay x) (h : Ev K te es (· = x)) (ht : EvM K t es ms) : EvM K (tCons te t) es (.v x :: ms) := fun B0 H0 B σ H o Q q =>
  h B0 H0 B σ H o _ fun y v B1 H1 e s1 d1 => ht B0 H0 B1 σ H1 (o.mono s1) _ fun vs B2 H2 s2 d2 => by
    subst e
    exact q _ B2 H2 (s1.trans s2) (.cons ⟨s, DV.mono s2.bb s2.hh d1⟩ (fun xs z => nomatch z) (d2.fresh s1.hh))
theorem em_l {xs : List PyData} {ms : List Im} (h : EvL K te es (· = xs)) (ht : EvM K t es ms) : EvM K (tCons te t) es (.l xs :: ms) := fun B0 H0 B σ H o Q q =>
  h B0 H0 B σ H o _ fun ys r ws B1 H1 e s1 h0 hb hp ha => ht B0 H0 B1 σ H1 (o.mono s1) _ fun vs B2 H2 s2 d2 => by
    subst e
    have nz : H1 r ≠ none := by rw [hp]; exact fun z => nomatch z
    refine q _ B2 H2 (s1.trans s2) (.cons ⟨r, ws, rfl, h0, s2.fr r hb nz, s2.hh _ _ hp, dpAllMono s2.bb ha⟩ (fun _ _ k zs hk hv => ?_) (d2.fresh s1.hh))
    obtain ⟨r', e1, h1⟩ := d2.at k zs hk
    rw [e1] at hv
    cases hv
    exact nz h1
def setMs : List Nat → List Im → List Sl → List Sl
  | i :: is, m :: ms, es => setMs is ms (es.set i m.sl)
  | _, _, es => es
def setVs : List Nat → List V → L2.St → L2.St
  | i :: is, v :: vs, σ => setVs is vs (σ.set i (some v))
  | _, _, σ => σ
theorem ok_setMs {B0 H0 B H : Hp} {Ha : Hp} (f : Same H0 Ha) : ∀ {ms : List Im} {vs : List V} (is : List Nat) {es : List Sl} {σ : L2.St}, ImVs K Ha B H ms vs → Ok K B0 H0 B es σ H →
    (∀ (k : Nat) ys, ms[k]? = some (.l ys) → ∀ (j : Nat) zs u, vs[k]? = some u → es[j]? = some (.mu zs) → σ[j]? ≠ some (some u)) → Ok K B0 H0 B (setMs is ms es) (setVs is vs σ) H
  | _, _, [], es, σ, _, o, _ => o
  | _, _, i :: is, es, σ, .nil, o, _ => o
  | .v x :: ms, v :: vs, i :: is, es, σ, .cons a n b, o, fr => by
    refine ok_setMs f is b (o.set i (a.2.stay a.1)) fun k ys hk j zs u hu hj => ?_
    rcases set_get hj with ⟨_, z, _⟩ | ⟨hne, hj⟩
    · cases z
    · rw [List.getElem?_set_ne (Ne.symm hne)]
      exact fr (k + 1) ys (by simpa using hk) j zs u (by simpa using hu) hj
  | .l xs :: ms, v :: vs, i :: is, es, σ, .cons a n b, o, fr => by
    obtain ⟨p, ws, rfl, h0, hb, hp, ha⟩ := a
    have hn : ∀ (j : Nat) ys, es[j]? = some (.mu ys) → σ[j]? ≠ some (some (.ref p)) := fun j ys hj => fr 0 xs rfl j ys (.ref p) rfl hj
    refine ok_setMs f is b (o.setMu i hn hb (f.free h0) hp ha) fun k ys hk j zs u hu hj => ?_
    rcases set_get hj with ⟨e1, _, hl⟩ | ⟨hne, hj⟩
    · subst e1
      rw [List.getElem?_set_self (by rw [← o.len]; exact hl)]
      intro z
      cases z
      exact n xs rfl k ys hk hu
    · rw [List.getElem?_set_ne (Ne.symm hne)]
      exact fr (k + 1) ys (by simpa using hk) j zs u (by simpa using hu) hj
theorem old_mu {B0 H0 B H B2 H2 : Hp} {σ : L2.St} {ms : List Im} {vs : List V} (o : Ok K B0 H0 B es σ H) (d : ImVs K H B2 H2 ms vs) (k : Nat) (ys : List PyData) (hk : ms[k]? = some (.l ys)) (j : Nat) (zs : List PyData) (u : V) (hu : vs[k]? = some u) (hj : es[j]? = some (.mu zs)) : σ[j]? ≠ some (some u) := fun z => by
  obtain ⟨p, e1, h1⟩ := d.at k ys hk
  obtain ⟨q, ws, e2, _, _, e4, _⟩ := o.mu hj
  rw [e1] at hu
  cases hu
  rw [e2] at z
  cases z
  rw [h1] at e4
  cases e4
theorem sx_parM {i j : Nat} {ta : TA} {a b : Im} (h : EvM K ta es [a, b]) (k : p.nx (setMs [i, j] [a, b] es)) : Sx K (tPar i j ta) es p := fun B0 H0 B σ H D o g =>
  h B0 H0 B σ H o _ fun vs B1 H1 s1 d1 => by
    have ok := ok_setMs (is := [i, j]) o.st.hh d1 (o.mono s1) (old_mu o d1)
    cases d1 with
    | cons a1 n1 b1 =>
      cases b1 with
      | cons a2 n2 b2 =>
        cases b2
        exact ⟨_, _, rfl, g.nx _ B1 _ H1 k s1.bb ok⟩
def gNames : List Nat → TGs
  | [] => gNil
  | i :: is => gCons (gName i) (gNames is)
theorem names_run : ∀ (is : List Nat) (vs : List V) (σ : L2.St) (H : Hp) (Q : L2.St → Hp → Prop), is.length = vs.length → Q (setVs is vs σ) H → gNames is vs σ H Q
  | [], [], σ, H, Q, _, q => ⟨rfl, q⟩
  | i :: is, v :: vs, σ, H, Q, h, q => ⟨v, vs, rfl, names_run is vs _ H Q (by simpa using h) q⟩
theorem imVs_len {H B H1 : Hp} : ∀ {ms : List Im} {vs : List V}, ImVs K H B H1 ms vs → ms.length = vs.length
  | _, _, .nil => rfl
  | _, _, .cons _ _ b => by simp [imVs_len b]
/-- a, b, .. = (.., ..): a tuple that is made and taken apart -/
theorem sx_tupM {ta : TA} {ms : List Im} (is : List Nat) {n : Nat} (h : EvM K ta es ms) (hl : is.length = ms.length) (hn : ms.length = n) (h2 : ms.length ≤ 100) (k : p.nx (setMs is ms es)) : Sx K (tAsg (tTup ta) (gTup K n (gNames is))) es p := fun B0 H0 B σ H D o g =>
  h B0 H0 B σ H o _ fun vs B1 H1 s1 d1 => by
    have lv := imVs_len d1
    refine ⟨line_le (by omega), fun q hq => ⟨q, vs, rfl, SqT.of upd_same, by omega, names_run is vs σ _ _ (by omega) ?_⟩⟩
    have st := Stp.open (o := .tup vs) s1.bh hq
    have d2 : ImVs K H B1 (upd H1 q (.tup vs)) ms vs := by
      have go : ∀ {ms : List Im} {vs' : List V}, ImVs K H B1 H1 ms vs' → ImVs K H B1 (upd H1 q (.tup vs)) ms vs' := fun {ms vs'} d => by
        induction d with
        | nil => exact .nil
        | @cons m v ms vs a n b ih =>
          refine .cons ?_ n ih
          cases m with
          | v x => exact ⟨a.1, DV.mono (Same.refl _) st.hh a.2⟩
          | l xs =>
            obtain ⟨r, ws, e1, h0, hb, hp, ha⟩ := a
            exact ⟨r, ws, e1, h0, hb, st.hh _ _ hp, ha⟩
      exact go d1
    exact g.nx _ B1 _ _ k s1.bb (ok_setMs (is := is) o.st.hh d2 ((o.mono s1).mono st) (old_mu o d2))
end
end HM
end
section
/-! HM core 15: the place of an int in a tuple, None, in, while with a number of its own -/
namespace HM
open PySem PySem.Spec PyProof.Rows L2 RZ
theorem flat_ints (ns : List Int) : (ns.map V.int).all flatV = true := by
  rw [List.all_map]
  exact List.all_eq_true.mpr fun _ _ => rfl
def rTupIx (K : PySem.W.Frag) : V → List V → Hp → VK → Prop := fun x xs H Q => ∃ (p : Addr) (ns : List Int) (z : Int) (j : Nat), x = .ref p ∧ xs = [.int z] ∧ SqT K H p (ns.map V.int) ∧ ns[j]? = some z ∧ (∀ m, m < j → ns[m]? ≠ some z) ∧ Q (.int (j : Nat)) H
theorem mt_tupIx {X : Cx} : MtR X "tuple.index" (rTupIx X.K) := by
  intro pins s σ H x xs v us Q I rx rs h
  obtain ⟨p, ns, z, j, rfl, rfl, hq, hy, hno, q⟩ := h
  cases rx
  obtain ⟨u, rfl, t, rfl⟩ := vals1 rs
  obtain ⟨its, r, pl, hz⟩ := I.tuple hq
  obtain ⟨⟨cls, dd, dt, sl⟩, ho, hc, n, hd⟩ := pl
  simp only at hc hd
  subst hc
  subst hd
  have hl : its.toArray.size = ns.length := by rw [List.size_toArray, ← r.length, List.length_map]
  have each : ∀ (m : Nat) (hm : m < its.toArray.size), ∃ y t', ns[m]? = some y ∧ its.toArray[m] = Value.int y t' := fun m hm => by
    have hm' : m < ns.length := hl ▸ hm
    obtain ⟨w, hw, t', hw'⟩ := r.get (i := m) (x := .int ns[m]) (by simp [hm'])
    refine ⟨ns[m], t', List.getElem?_eq_getElem hm', ?_⟩
    have e := (List.getElem?_eq_some_iff.mp hw).2
    rw [← hw', ← e]
    simp
  have hj : j < its.toArray.size := by
    rw [hl]
    exact (List.getElem?_eq_some_iff.mp hy).1
  refine call_meets PySem.F.slot_tuple_index ⟨_, ho, rfl⟩ PySem.F.entry_tuple_index (PySem.F.args_tuple_index_2 _ _) (TI.tuple_indexAt p its.toArray n dd sl (.int z t) (eqU (.int z)) j hj ?_ ?_)
    ⟨ho, fun w hw => mem_eqAt (x := .int z) ⟨t, rfl⟩ rfl r (flat_ints ns) w (by simpa using hw), ⟨.int (j : Nat), H, I.tok _, ⟨_, rfl⟩, q⟩⟩
  · obtain ⟨y, t', h1, h2⟩ := each j hj
    rw [hy] at h1
    cases h1
    rw [h2]
    show (z == z) = true
    exact beq_self_eq_true z
  · intro m hm hmj
    obtain ⟨y, t', h1, h2⟩ := each m hm
    rw [h2]
    show (y == z) = false
    exact beq_eq_false_iff_ne.mpr fun e => hno m hmj (e ▸ h1)
/-- tuple(list): its object is known to have no dict -/
def rTupZ (K : PySem.W.Frag) : List V → Hp → VK → Prop := fun xs H Q => ∃ p ys, xs = [.ref p] ∧ SqL K H p ys ∧ ∀ (l : Addr) (o : Obj), H l = none → o.dict = none → Q (.ref l) (upd H l (.frz o (.tup ys)))
theorem call_tupZ {X : Cx} : CallR X (.type "tuple") (rTupZ X.K) := by
  intro pins s σ H xs us Q I r h
  obtain ⟨p, ys, rfl, hq, q⟩ := h
  obtain ⟨u, rfl, rx⟩ := vals1 r
  cases rx
  obtain ⟨its, r', pl, hz⟩ := I.list hq
  have hlen := r'.length
  refine call_tuple_list pl.isList (fun h' kp => ?_) (by simp only [List.size_toArray] <;> omega)
  have I1 : Inv X pins σ H { s with heap := h' } := I.kept (t' := s.toks) kp
  have at' : (h'.push { cls := .type "tuple", data := .seq its.toArray }).get? h'.objs.size = some { cls := .type "tuple", data := .seq its.toArray } := Heap.get?_push_size _ rfl
  have I2 : Inv X pins σ (upd H h'.objs.size (.frz { cls := .type "tuple", data := .seq its.toArray } (.tup ys))) { s with heap := h'.push { cls := .type "tuple", data := .seq its.toArray } } :=
    I1.laid (t' := s.toks) (fun b o e => Heap.get?_push_of_some _ e) (Nat.le_refl _) ⟨at', hz, its, r', IsTup.new _ _⟩
  exact ⟨.ref h'.objs.size, _, I2, rfl, q _ _ (I1.hok.fresh (Nat.le_refl _)) rfl⟩
/-- a method of such a tuple -/
def tTM (r : V → List V → Hp → VK → Prop) (to : TE) (t : TA) : TE := fun σ H Q => to σ H fun x H1 => ∃ (p : Addr) (o : Obj) (xs : List V), x = .ref p ∧ H1 p = some (.frz o (.tup xs)) ∧ o.dict = none ∧ t σ H1 fun ys H2 => r x ys H2 Q
theorem pe_tm {X : Cx} {o e : Expr} {es : List Expr} {to : TE} {t : TA} {name : Str} {apos cpos : Pos} {id : String} {r : V → List V → Hp → VK → Prop} (pa : PlainAttrs "tuple") (slot : Slot "tuple" name id) (hty : typeOf (.builtin id) = pure (.type "method_descriptor")) (hm : MtR X id r) (ho : PE X o to) (ha : PA X (e :: es) t)
    (hbase : attributeBase o name X.env (eval o X.env) = eval o X.env := by rfl)
    (hfew : ((backTo cpos (starEach (e :: es) X.env)).all (fun x => !x.1) && (backToKw cpos (keywordEach [] X.env)).all (fun x => x.1.isSome)
      && decide ((e :: es).length + ([] : List Keyword).length + (if ([] : List Keyword).isEmpty then 0 else 1) < 30)) = true := by rfl)
    (hline : (apos.endLine == cpos.line) = true := by rfl) (hs : starEach (e :: es) X.env = (false, eval e X.env) :: starEach es X.env := by rfl) (hplain : (backTo cpos (starEach es X.env)).any (·.1) = false := by rfl) :
    PE X (.Call (.Attribute o name apos) (e :: es) [] cpos) (tTM r to t) := by
  constructor
  intro pins s σ H Q I h
  refine wpAny_Call_method_late hbase hfew hline rfl (thn (ho.run pins s σ H _ I h) ?_)
  rintro v s1 ⟨x, H1, I1, r1, p, ob, xs, rfl, hp, hd, q1⟩
  cases r1
  obtain ⟨he, hz, its, rv, hT⟩ := I1.hok p _ hp
  refine ⟨"tuple", id, pa, slot, hty, ?_, fun a e => ?_, ?_⟩
  · obtain ⟨o2, h2, hc, _⟩ := hT
    exact ⟨o2, h2, hc⟩
  · cases e
    exact ⟨ob, he, hd⟩
  · have hA := ha.run cpos pins s1 σ H1 _ I1 q1
    rw [hs] at hA ⊢
    refine Calls.callWith_builtin (by show (false || (backTo cpos (starEach es X.env)).any (·.1)) = false; rw [hplain] <;> rfl) (Calls.evalArgs_plain (thn hA ?_))
    rintro us s2 ⟨vs, H2, I2, r2, q2⟩
    exact hm pins s2 σ H2 (.ref p) vs (.ref p) us Q I2 rfl r2 q2
section
variable {K : PySem.W.Frag} {es es' : List Sl} {te ta tb : TE} {t tk : TA} {P : Dv → Prop} {p : Pst} {α : Type} {c : TT} {tb' : TS}
theorem DV.zd {B H : Hp} {ds : List PyData} {v : V} (h : DV K B H (.z ds) v) : DV K B H (.d (.tuple ds)) v := by
  obtain ⟨a, o, vs, rfl, e, _, ha⟩ := h
  exact Dp.tup (.inl (.inr ⟨o, e⟩)) ha
/-- a tuple without a dict is a tuple -/
theorem Ev.zd {ds : List PyData} (h : Ev K te es (· = .z ds)) : Ev K te es (· = .d (.tuple ds)) := fun B0 H0 B σ H o Q q =>
  h B0 H0 B σ H o Q fun x v B1 H1 e s1 d1 => by
    subst e
    exact q (.d (.tuple ds)) v B1 H1 rfl s1 (DV.zd d1)
theorem rc_tupZ {ds : List PyData} : Rc K (rTupZ K) [.d (.list ds)] (· = .z ds) := fun B H vs e a Q q => by
  obtain ⟨v, rfl, d⟩ := dv1 a
  cases d with
  | lst hs ha =>
    refine ⟨_, _, rfl, Same.seq e hs, fun l o hl ho => ?_⟩
    have hb := e.free hl
    exact q (.z ds) _ (upd B l (.frz o (.tup _))) _ rfl (Stp.new e hl) ⟨l, o, _, rfl, upd_same, ho, dpAllMono (same_upd hb) ha⟩
theorem ev_tupIx {ns : List Int} {z : Int} {j : Nat} (h : Ev K te es (· = .z (ns.map .int))) (ha : Ev K ta es (· = .d (.int z))) (hj : ns[j]? = some z) (hno : ∀ m, m < j → ns[m]? ≠ some z) : Ev K (tTM (rTupIx K) te (tCons ta tNil)) es (· = .d (.int (j : Nat))) := fun B0 H0 B σ H o Q q =>
  h B0 H0 B σ H o _ fun x v B1 H1 e s1 d1 => by
    subst e
    obtain ⟨a, ob, vs, rfl, eb, hd, hda⟩ := d1
    have ei := dpAll_ints hda
    subst ei
    refine ⟨a, ob, _, rfl, s1.bh _ _ eb, hd, ha B0 H0 B1 σ H1 (o.mono s1) _ fun y w B2 H2 ey s2 d2 => ?_⟩
    subst ey
    cases d2
    exact ⟨a, ns, z, j, rfl, rfl, .inl (.inr ⟨ob, s2.bh _ _ (s2.bb _ _ eb)⟩), hj, hno, q _ _ B2 H2 rfl (s1.trans s2) (.int _)⟩
def isNon : PyData → Bool
  | .none => true
  | _ => false
theorem dp_non {B : Hp} {v : V} {d : PyData} (h : Dp K B v d) : decide (v = .non) = isNon d := by
  cases h <;> simp [isNon]
theorem rv_isNon {d : PyData} : Rv K rIsG (.d d) (.d .none) (· = .d (.bool (isNon d))) := Rv.rgt fun B H v w e a b Q q => by
  cases b
  refine ⟨rfl, ?_⟩
  have := dp_non a
  rw [this]
  exact q _ _ B H rfl (Stp.refl e) (.bl _)
theorem any_int (L : List Int) (i : Int) : ((L.map PyData.int).any fun y => PyData.eqv y (.int i)) = decide (i ∈ L) := by
  induction L with
  | nil => simp
  | cons x L ih =>
    rw [List.map_cons, List.any_cons, ih, eqv_int]
    by_cases h : x = i
    · subst h; simp
    · have h' : ¬ i = x := fun e => h e.symm
      simp [h, h']
theorem rv_inT {L : List Int} {i : Int} : Rv K (rInP K) (.d (.int i)) (.d (tI L)) (· = .d (.bool (decide (i ∈ L)))) := by
  have := rv_in (K := K) (x := .d (.int i)) (y := .d (tI L)) (xs := L.map .int) (.inl rfl) (.inl rfl) (.inr rfl) (flat_int i) (flat_tI L)
  rw [any_int] at this
  exact this
/-- while, with a number that falls -/
theorem sx_whileN (I : Nat → List Sl → Prop) (Pb : Nat → List Sl → Bool → Prop) {m0 : Nat} (h0 : I m0 es) (hc : ∀ m es', I m es' → EvT K c es' (Pb m es'))
    (h1 : ∀ m es', I m es' → Pb m es' true → Sx K tb' es' { p with nx := fun e => ∃ m', m' < m ∧ I m' e, ct := fun e => ∃ m', m' < m ∧ I m' e, bk := p.nx }) (h2 : ∀ m es', I m es' → Pb m es' false → p.nx es') : Sx K (tWhile c tb') es p := fun B0 H0 B σ H D o gg => by
  refine ⟨fun m σ H => ∃ es' B', Same B B' ∧ I m es' ∧ Ok K B0 H0 B' es' σ H, ⟨m0, es, B, Same.refl _, h0, o⟩, ?_⟩
  rintro m σ H ⟨es', B', sb, ii, o'⟩
  refine hc m es' ii B0 H0 B' σ H o' _ fun b B1 H1 pb s1 => ?_
  have o1 := o'.mono s1
  cases b with
  | true =>
    rw [if_pos rfl]
    refine ⟨fun σ' H' => ∃ m' e2 B2, m' < m ∧ Same B B2 ∧ I m' e2 ∧ Ok K B0 H0 B2 e2 σ' H', fun σ' H' ⟨m', e2, B2, q0, q1, q2, q3⟩ => ⟨m', q0, e2, B2, q1, q2, q3⟩, ?_⟩
    exact h1 m es' ii pb B0 H0 B1 σ H1 _ o1 ⟨fun e2 B2 σ2 H2 ⟨m', k1, k2⟩ q o2 => ⟨m', e2, B2, k1, sb.trans (s1.bb.trans q), k2, o2⟩, gg.rt, gg.rl, gg.rx, fun e2 B2 σ2 H2 m q o2 => gg.nx e2 B2 σ2 H2 m (sb.trans (s1.bb.trans q)) o2, fun e2 B2 σ2 H2 ⟨m', k1, k2⟩ q o2 => ⟨m', e2, B2, k1, sb.trans (s1.bb.trans q), k2, o2⟩⟩
  | false =>
    rw [if_neg Bool.false_ne_true]
    exact gg.nx es' B1 σ H1 (h2 m es' ii pb) (sb.trans s1.bb) o1
end
end HM
end
section
/-! the mathematics of lists sorted down, their heads -/
set_option autoImplicit false
namespace MJ
/-- what the first i make -/
def P (l : List Int) (i : Nat) : Int := (l.take i).sum
theorem P_zero (l : List Int) : P l 0 = 0 := by simp [P]
theorem P_cons (x : Int) (l : List Int) (i : Nat) : P (x :: l) (i + 1) = x + P l i := by simp [P]
theorem P_nil (i : Nat) : P [] i = 0 := by simp [P]
theorem P_succ (l : List Int) (i : Nat) (h : i < l.length) : P l (i + 1) = P l i + l[i] := by
  unfold P
  rw [List.take_add_one, List.getElem?_eq_getElem h, List.sum_append]
  simp
theorem P_len (l : List Int) (i : Nat) (h : l.length ≤ i) : P l i = l.sum := by
  unfold P
  rw [List.take_of_length_le h]
/-- lists of one length with the same heads are one -/
theorem P_inj : ∀ (l m : List Int), l.length = m.length → (∀ i, i ≤ l.length → P l i = P m i) → l = m
  | [], [], _, _ => rfl
  | [], _ :: _, h, _ => by simp at h
  | _ :: _, [], h, _ => by simp at h
  | x :: l, y :: m, h, k => by
    have e : x = y := by
      have := k 1 (by simp)
      rw [P_cons, P_cons, P_zero, P_zero] at this
      omega
    subst e
    congr 1
    refine P_inj l m (by simpa using h) fun i hi => ?_
    have := k (i + 1) (by simp; omega)
    rw [P_cons, P_cons] at this
    omega
/-! heads and differences -/
def psum (t : Int) : List Int → List Int
  | [] => []
  | x :: r => (t + x) :: psum (t + x) r
def diffs (p : Int) : List Int → List Int
  | [] => []
  | x :: r => (x - p) :: diffs x r
theorem psum_len : ∀ (l : List Int) (t : Int), (psum t l).length = l.length
  | [], _ => rfl
  | x :: r, t => by simp [psum, psum_len r]
theorem diffs_len : ∀ (l : List Int) (t : Int), (diffs t l).length = l.length
  | [], _ => rfl
  | x :: r, t => by simp [diffs, diffs_len r]
theorem diffs_psum : ∀ (l : List Int) (t : Int), diffs t (psum t l) = l
  | [], _ => rfl
  | x :: r, t => by simp [psum, diffs, diffs_psum r]; omega
theorem psum_diffs : ∀ (l : List Int) (t : Int), psum t (diffs t l) = l
  | [], _ => rfl
  | x :: r, t => by
    have e : t + (x - t) = x := by omega
    simp [psum, diffs, e, psum_diffs r]
theorem psum_get : ∀ (l : List Int) (t : Int) (i : Nat) (h : i < l.length), (psum t l)[i]'(by rw [psum_len]; exact h) = t + P l (i + 1)
  | [], _, _, h => by simp at h
  | x :: r, t, 0, _ => by simp [psum, P_cons, P_zero]
  | x :: r, t, i + 1, h => by
    simp only [psum, List.getElem_cons_succ]
    rw [psum_get r (t + x) i (by simpa using h), P_cons]
    omega
/-- the value at i of a list of totals, 0 ahead of all -/
def T (l : List Int) (i : Nat) : Int := if i = 0 then 0 else l.getD (i - 1) 0
theorem T_zero (l : List Int) : T l 0 = 0 := rfl
theorem T_succ (l : List Int) (i : Nat) (h : i < l.length) : T l (i + 1) = l[i] := by
  simp [T, List.getD_eq_getElem?_getD, h]
theorem T_psum (l : List Int) (i : Nat) (h : i ≤ l.length) : T (psum 0 l) i = P l i := by
  cases i with
  | zero => rw [T_zero, P_zero]
  | succ i => rw [T_succ _ _ (by rw [psum_len]; omega), psum_get l 0 i (by omega)]; omega
theorem P_diffs (l : List Int) (i : Nat) (h : i ≤ l.length) : P (diffs 0 l) i = T l i := by
  rw [← T_psum (diffs 0 l) i (by rw [diffs_len]; exact h), psum_diffs]
/-! sorted down -/
def Dn (l : List Int) : Prop := l.Pairwise (· ≥ ·)
theorem dn_get {l : List Int} (h : Dn l) {i j : Nat} (hi : i ≤ j) (hj : j < l.length) : l[j] ≤ l[i]'(by omega) := by
  rcases Nat.lt_or_eq_of_le hi with h1 | rfl
  · exact List.pairwise_iff_getElem.mp h i j (by omega) hj h1
  · exact Int.le_refl _
/-- sorted down exactly if the heads are bent down -/
theorem dn_of_step : ∀ (l : List Int), (∀ i (h : i + 1 < l.length), l[i + 1] ≤ l[i]) → Dn l
  | [], _ => List.Pairwise.nil
  | [x], _ => List.pairwise_singleton _ _
  | x :: y :: r, h => by
    have ih : Dn (y :: r) := dn_of_step (y :: r) fun i hi => by
      have := h (i + 1) (by simp at hi ⊢; omega)
      simpa using this
    refine List.pairwise_cons.mpr ⟨fun z hz => ?_, ih⟩
    have h0 : y ≤ x := by simpa using h 0 (by simp)
    rcases List.mem_cons.mp hz with rfl | hz
    · exact h0
    · have := (List.pairwise_cons.mp ih).1 z hz
      show x ≥ z
      omega
/-- T is bent down up to n -/
def Bend (f : Nat → Int) (n : Nat) : Prop := ∀ i, i + 2 ≤ n → f i + f (i + 2) ≤ 2 * f (i + 1)
theorem bend_P {l : List Int} (h : Dn l) : Bend (P l) l.length := fun i hi => by
  have h1 := P_succ l i (by omega)
  have h2 : P l (i + 2) = _ := P_succ l (i + 1) (by omega)
  have h3 := dn_get h (i := i) (j := i + 1) (by omega) (by omega)
  omega
theorem dn_of_bend {l : List Int} (h : Bend (P l) l.length) : Dn l := dn_of_step l fun i hi => by
  have h0 := h i (by omega)
  have h1 := P_succ l i (by omega)
  have h2 : P l (i + 2) = _ := P_succ l (i + 1) (by omega)
  omega
theorem dn_diffs {t : List Int} (h : Bend (T t) t.length) : Dn (diffs 0 t) := dn_of_bend (by
  rw [diffs_len]
  intro i hi
  rw [P_diffs t i (by omega), P_diffs t (i + 2) (by omega), P_diffs t (i + 1) (by omega)]
  exact h i hi)
/-- the one list sorted down -/
def dn (a : List Int) : List Int := a.mergeSort fun x y => decide (y ≤ x)
theorem dn_perm (a : List Int) : (dn a).Perm a := List.mergeSort_perm a _
theorem dn_dn (a : List Int) : Dn (dn a) := by
  have := List.pairwise_mergeSort (le := fun x y : Int => decide (y ≤ x)) (by intro x y z h1 h2; simp at *; omega) (by intro x y; simp; omega) a
  exact this.imp fun h => by simpa using h
theorem dn_len (a : List Int) : (dn a).length = a.length := (dn_perm a).length_eq
theorem perm_sum {a b : List Int} (h : a.Perm b) : a.sum = b.sum := by
  induction h with
  | nil => rfl
  | cons x _ ih => simp [ih]
  | swap x y l => simp; omega
  | trans _ _ h1 h2 => exact h1.trans h2
theorem dn_sum (a : List Int) : (dn a).sum = a.sum := perm_sum (dn_perm a)
theorem dn_one : ∀ {a b : List Int}, a.Perm b → Dn a → Dn b → a = b := fun {a b} h ha hb =>
  List.Perm.eq_of_pairwise (fun x y _ _ h1 h2 => by omega) ha hb h
theorem dn_eq {a ms : List Int} (h : ms.Perm a) (hd : Dn ms) : ms = dn a := dn_one (h.trans (dn_perm a).symm) hd (dn_dn a)
theorem dn_self {a : List Int} (h : Dn a) : dn a = a := (dn_eq (List.Perm.refl a) h).symm
end MJ
end
section
set_option autoImplicit false
namespace MJ
/-! good lists -/
def Gd (a : List Int) : Prop := 1 ≤ a.length ∧ a.length ≤ 10 ∧ ∀ x ∈ a, 0 ≤ x ∧ x ≤ 40
theorem P_mono {l : List Int} (h : ∀ x ∈ l, 0 ≤ x) {i j : Nat} (hij : i ≤ j) : P l i ≤ P l j := by
  induction j with
  | zero =>
    have : i = 0 := by omega
    subst this
    exact Int.le_refl _
  | succ j ih =>
    rcases Nat.lt_or_eq_of_le hij with h1 | rfl
    · have := ih (by omega)
      by_cases hj : j < l.length
      · have e := P_succ l j hj
        have := h _ (List.getElem_mem hj)
        omega
      · rw [P_len l (j + 1) (by omega)]
        rw [P_len l j (by omega)] at this
        exact this
    · exact Int.le_refl _
theorem Gd.dn {a : List Int} (h : Gd a) : Gd (dn a) := ⟨by rw [dn_len]; exact h.1, by rw [dn_len]; exact h.2.1, fun x hx => h.2.2 x ((dn_perm a).mem_iff.mp hx)⟩
/-- a list sorted down by what its heads make -/
theorem gd_of {m : List Int} (hd : Dn m) (h1 : 1 ≤ m.length) (h2 : m.length ≤ 10) (h3 : P m 1 ≤ 40) (h4 : P m (m.length - 1) ≤ P m m.length) : Gd m := by
  refine ⟨h1, h2, fun x hx => ?_⟩
  obtain ⟨i, hi, rfl⟩ := List.getElem_of_mem hx
  have e0 := P_succ m 0 (by omega)
  have e1 := P_succ m (m.length - 1) (by omega)
  rw [show m.length - 1 + 1 = m.length by omega] at e1
  rw [P_zero] at e0
  have d0 := dn_get hd (i := 0) (j := i) (by omega) hi
  have d1 := dn_get hd (i := i) (j := m.length - 1) (by omega) (by omega)
  simp only [Nat.zero_add] at e0
  constructor <;> omega
theorem T_zipWith (g : Int → Int → Int) (a b : List Int) (i : Nat) (h1 : i + 1 ≤ a.length) (h2 : i + 1 ≤ b.length) : T (List.zipWith g a b) (i + 1) = g (T a (i + 1)) (T b (i + 1)) := by
  rw [T_succ _ _ (by rw [List.length_zipWith]; omega), T_succ _ _ (by omega), T_succ _ _ (by omega), List.getElem_zipWith]
theorem bend_min {f g : Nat → Int} {n : Nat} (hf : Bend f n) (hg : Bend g n) : Bend (fun i => min (f i) (g i)) n := fun i hi => by
  have h1 := hf i hi
  have h2 := hg i hi
  show min (f i) (g i) + min (f (i + 2)) (g (i + 2)) ≤ 2 * min (f (i + 1)) (g (i + 1))
  omega
theorem Bend.congr {f g : Nat → Int} {n : Nat} (hf : Bend f n) (e : ∀ i, i ≤ n → f i = g i) : Bend g n := fun i hi => by
  have h1 := hf i hi
  rw [← e i (by omega), ← e (i + 1) (by omega), ← e (i + 2) (by omega)]
  exact h1
/-! the meet -/
def lows (a b : List Int) : List Int := List.zipWith min (psum 0 (dn a)) (psum 0 (dn b))
def highs (a b : List Int) : List Int := List.zipWith max (psum 0 (dn a)) (psum 0 (dn b))
def meet (a b : List Int) : List Int := diffs 0 (lows a b)
/-- alike: good, of one length, of one sum -/
structure Al (a b : List Int) : Prop where
  ga : Gd a
  gb : Gd b
  ln : a.length = b.length
  sm : a.sum = b.sum
theorem Al.symm {a b : List Int} (h : Al a b) : Al b a := ⟨h.gb, h.ga, h.ln.symm, h.sm.symm⟩
theorem Al.trans {a b c : List Int} (h : Al a b) (k : Al b c) : Al a c := ⟨h.ga, k.gb, h.ln.trans k.ln, h.sm.trans k.sm⟩
theorem lows_len {a b : List Int} (h : a.length = b.length) : (lows a b).length = a.length := by
  unfold lows
  rw [List.length_zipWith, psum_len, psum_len, dn_len, dn_len]
  omega
theorem highs_len {a b : List Int} (h : a.length = b.length) : (highs a b).length = a.length := by
  unfold highs
  rw [List.length_zipWith, psum_len, psum_len, dn_len, dn_len]
  omega
theorem T_lows {a b : List Int} (h : a.length = b.length) (i : Nat) (hi : i ≤ a.length) : T (lows a b) i = min (P (dn a) i) (P (dn b) i) := by
  cases i with
  | zero => simp [T_zero, P_zero]
  | succ i =>
    unfold lows
    rw [T_zipWith _ _ _ _ (by rw [psum_len, dn_len]; omega) (by rw [psum_len, dn_len]; omega), T_psum _ _ (by rw [dn_len]; omega), T_psum _ _ (by rw [dn_len]; omega)]
theorem T_highs {a b : List Int} (h : a.length = b.length) (i : Nat) (hi : i ≤ a.length) : T (highs a b) i = max (P (dn a) i) (P (dn b) i) := by
  cases i with
  | zero => simp [T_zero, P_zero]
  | succ i =>
    unfold highs
    rw [T_zipWith _ _ _ _ (by rw [psum_len, dn_len]; omega) (by rw [psum_len, dn_len]; omega), T_psum _ _ (by rw [dn_len]; omega), T_psum _ _ (by rw [dn_len]; omega)]
theorem bend_dn (a : List Int) : Bend (P (dn a)) a.length := by
  have := bend_P (dn_dn a)
  rw [dn_len] at this
  exact this
theorem P_dn_full (a : List Int) : P (dn a) a.length = a.sum := by rw [P_len _ _ (by rw [dn_len]; exact Nat.le_refl _), dn_sum]
theorem P_dn_le {a : List Int} (h : Gd a) (i : Nat) : P (dn a) i ≤ a.sum := by
  by_cases hi : i ≤ a.length
  · rw [← P_dn_full a]
    exact P_mono (fun x hx => (h.dn.2.2 x hx).1) hi
  · rw [P_len _ _ (by rw [dn_len]; omega), dn_sum]
    exact Int.le_refl _
theorem P_dn_le40 {a : List Int} (h : Gd a) (i : Nat) : P (dn a) i ≤ 40 * i := by
  induction i with
  | zero => rw [P_zero]; omega
  | succ i ih =>
    by_cases hi : i < (dn a).length
    · have e := P_succ (dn a) i hi
      have := (h.dn.2.2 _ (List.getElem_mem hi)).2
      omega
    · rw [P_len _ _ (by omega)]
      rw [P_len _ _ (by omega)] at ih
      omega
theorem P_dn_nn {a : List Int} (h : Gd a) (i : Nat) : 0 ≤ P (dn a) i := by
  have := P_mono (fun x hx => (h.dn.2.2 x hx).1) (Nat.zero_le i)
  rw [P_zero] at this
  exact this
theorem meet_len {a b : List Int} (h : a.length = b.length) : (meet a b).length = a.length := by
  unfold meet
  rw [diffs_len, lows_len h]
theorem P_meet {a b : List Int} (h : a.length = b.length) (i : Nat) (hi : i ≤ a.length) : P (meet a b) i = min (P (dn a) i) (P (dn b) i) := by
  unfold meet
  rw [P_diffs _ _ (by rw [lows_len h]; exact hi), T_lows h i hi]
theorem meet_dn {a b : List Int} (h : a.length = b.length) : Dn (meet a b) := by
  refine dn_of_bend ?_
  rw [meet_len h]
  refine Bend.congr (bend_min (bend_dn a) (h ▸ bend_dn b)) fun i hi => ?_
  rw [P_meet h i hi]
theorem meet_sum {a b : List Int} (h : Al a b) : (meet a b).sum = a.sum := by
  have := P_meet h.ln a.length (Nat.le_refl _)
  have e2 := P_dn_full b
  rw [P_len _ _ (by rw [meet_len h.ln]; exact Nat.le_refl _), P_dn_full a, h.ln, e2, ← h.sm] at this
  omega
theorem meet_gd {a b : List Int} (h : Al a b) : Gd (meet a b) := by
  have hl := meet_len h.ln
  have h1 := h.ga.1
  have h2 := h.ga.2.1
  refine gd_of (meet_dn h.ln) (by omega) (by omega) ?_ ?_
  · rw [P_meet h.ln 1 (by omega)]
    have := P_dn_le40 h.ga 1
    omega
  · rw [hl, P_meet h.ln _ (by omega), P_meet h.ln _ (by omega), P_dn_full a, show a.length = b.length from h.ln, P_dn_full b, ← h.ln]
    have := P_dn_le h.ga (a.length - 1)
    have := P_dn_le h.gb (a.length - 1)
    have := h.sm
    omega
theorem meet_al {a b : List Int} (h : Al a b) : Al a (meet a b) := ⟨h.ga, meet_gd h, (meet_len h.ln).symm, (meet_sum h).symm⟩
/-- two lists sorted down are one if their heads are -/
theorem eq_of_P {a b : List Int} (hl : a.length = b.length) (h : ∀ i, i ≤ a.length → P a i = P b i) : a = b := P_inj a b hl h
theorem P_dn_meet {a b : List Int} (h : a.length = b.length) (i : Nat) (hi : i ≤ a.length) : P (dn (meet a b)) i = min (P (dn a) i) (P (dn b) i) := by
  rw [dn_self (meet_dn h), P_meet h i hi]
/-! the join -/
structure Bent (t f : List Int) : Prop where
  ln : f.length = t.length
  bd : Bend (T f) t.length
  ge : ∀ i, i ≤ t.length → T t i ≤ T f i
  last : T f t.length = T t t.length
  least : ∀ G : Nat → Int, G 0 = 0 → G t.length = T t t.length → Bend G t.length → (∀ i, i ≤ t.length → T t i ≤ G i) → ∀ i, i ≤ t.length → T f i ≤ G i
theorem T_inj {f g : List Int} (hl : f.length = g.length) (h : ∀ i, i ≤ f.length → T f i = T g i) : f = g := by
  apply List.ext_getElem hl
  intro i h1 h2
  have := h (i + 1) (by omega)
  rwa [T_succ _ _ h1, T_succ _ _ h2] at this
theorem Bent.uniq {t f g : List Int} (hf : Bent t f) (hg : Bent t g) : f = g := T_inj (hf.ln.trans hg.ln.symm) fun i hi => by
  rw [hf.ln] at hi
  have h1 := hf.least (T g) (T_zero g) hg.last hg.bd hg.ge i hi
  have h2 := hg.least (T f) (T_zero f) hf.last hf.bd hf.ge i hi
  omega
/-- c is what is above a and b -/
def IsJoin (a b c : List Int) : Prop := ∃ f, Bent (highs a b) f ∧ c = diffs 0 f
theorem IsJoin.uniq {a b c d : List Int} (h : IsJoin a b c) (k : IsJoin a b d) : c = d := by
  obtain ⟨f, hf, rfl⟩ := h
  obtain ⟨g, hg, rfl⟩ := k
  rw [hf.uniq hg]
section
variable {a b c : List Int}
theorem join_len (h : Al a b) (j : IsJoin a b c) : c.length = a.length := by
  obtain ⟨f, hf, rfl⟩ := j
  rw [diffs_len, hf.ln, highs_len h.ln]
theorem join_dn (h : Al a b) (j : IsJoin a b c) : Dn c := by
  obtain ⟨f, hf, rfl⟩ := j
  refine dn_diffs ?_
  rw [hf.ln]
  exact hf.bd
/-- its heads: bent down, none below those of a and b, the least such -/
theorem join_P (h : Al a b) (j : IsJoin a b c) : Bend (P c) a.length ∧ (∀ i, i ≤ a.length → max (P (dn a) i) (P (dn b) i) ≤ P c i) ∧ P c a.length = a.sum ∧
    ∀ G : Nat → Int, G 0 = 0 → G a.length = a.sum → Bend G a.length → (∀ i, i ≤ a.length → max (P (dn a) i) (P (dn b) i) ≤ G i) → ∀ i, i ≤ a.length → P c i ≤ G i := by
  obtain ⟨f, hf, rfl⟩ := j
  have hl := highs_len h.ln
  have hfl := hf.ln
  rw [hl] at hfl
  have eP : ∀ i, i ≤ a.length → T f i = P (diffs 0 f) i := fun i hi => (P_diffs f i (by omega)).symm
  have elast : T (highs a b) a.length = a.sum := by
    have := P_dn_full b
    rw [T_highs h.ln _ (Nat.le_refl _), P_dn_full a, h.ln, this, ← h.sm]
    omega
  have hb := hf.bd
  have hg := hf.ge
  have hla := hf.last
  have hle := hf.least
  rw [hl] at hb hg hla hle
  refine ⟨hb.congr eP, fun i hi => ?_, ?_, fun G g0 g1 gb gg i hi => ?_⟩
  · rw [← eP i hi, ← T_highs h.ln i hi]
    exact hg i hi
  · rw [← eP _ (Nat.le_refl _), hla, elast]
  · rw [← eP i hi]
    exact hle G g0 (by rw [g1, elast]) gb (fun i hi => by rw [T_highs h.ln i hi]; exact gg i hi) i hi
theorem join_sum (h : Al a b) (j : IsJoin a b c) : c.sum = a.sum := by
  have := (join_P h j).2.2.1
  rw [P_len _ _ (by rw [join_len h j]; exact Nat.le_refl _)] at this
  exact this
theorem bend_flat (s : Int) (hs : 0 ≤ s) (n : Nat) : Bend (fun i => if i = 0 then 0 else s) n := fun i hi => by
  show (if i = 0 then (0 : Int) else s) + (if i + 2 = 0 then 0 else s) ≤ 2 * (if i + 1 = 0 then 0 else s)
  rw [if_neg (show ¬ i + 2 = 0 by omega), if_neg (show ¬ i + 1 = 0 by omega)]
  split <;> omega
theorem bend_forty (n : Nat) : Bend (fun i => 40 * (i : Int)) n := fun i hi => by
  show 40 * (i : Int) + 40 * ((i + 2 : Nat) : Int) ≤ 2 * (40 * ((i + 1 : Nat) : Int))
  omega
theorem sum_nn {l : List Int} (h : ∀ x ∈ l, 0 ≤ x) : 0 ≤ l.sum := by
  induction l with
  | nil => simp
  | cons x r ih =>
    have h1 := h x (by simp)
    have h2 := ih fun y hy => h y (by simp [hy])
    rw [List.sum_cons]
    omega
theorem sum_le40 (h : Gd a) : a.sum ≤ 40 * a.length := by
  have := P_dn_le40 h a.length
  rwa [P_dn_full] at this
theorem join_gd (h : Al a b) (j : IsJoin a b c) : Gd c := by
  have hl := join_len h j
  have h1 := h.ga.1
  have h2 := h.ga.2.1
  obtain ⟨_, _, jl, jm⟩ := join_P h j
  have hs0 : 0 ≤ a.sum := sum_nn fun x hx => (h.ga.2.2 x hx).1
  have key := jm (fun i => min (40 * (i : Int)) (if i = 0 then 0 else a.sum)) (by simp) (by
    show min (40 * (a.length : Int)) (if a.length = 0 then 0 else a.sum) = a.sum
    rw [if_neg (by omega)]
    have := sum_le40 h.ga
    omega) (bend_min (bend_forty _) (bend_flat _ hs0 _)) fun i hi => by
      have q1 := P_dn_le40 h.ga i
      have q2 := P_dn_le40 h.gb i
      have q3 := P_dn_le h.ga i
      have q4 := P_dn_le h.gb i
      have := h.sm
      show max (P (dn a) i) (P (dn b) i) ≤ min (40 * (i : Int)) (if i = 0 then 0 else a.sum)
      split
      · rename_i e
        subst e
        rw [P_zero, P_zero]
        omega
      · omega
  refine gd_of (join_dn h j) (by omega) (by omega) ?_ ?_
  · have := key 1 (by omega)
    rw [if_neg (by omega)] at this
    omega
  · rw [hl, jl]
    have := key (a.length - 1) (by omega)
    split at this <;> omega
theorem join_al (h : Al a b) (j : IsJoin a b c) : Al a c := ⟨h.ga, join_gd h j, (join_len h j).symm, (join_sum h j).symm⟩
/-- more even: no head above -/
def Le (a b : List Int) : Prop := ∀ i, i ≤ a.length → P (dn a) i ≤ P (dn b) i
/-- the least list above both -/
theorem join_iff {d : List Int} (h : Al a b) (j : IsJoin a b c) (hd : Al a d) : Le c d ↔ Le a d ∧ Le b d := by
  obtain ⟨_, jg, jl, jm⟩ := join_P h j
  have hc := dn_self (join_dn h j)
  have hl := join_len h j
  have hb := h.ln
  constructor
  · intro hcd
    refine ⟨fun i hi => ?_, fun i hi => ?_⟩
    · have := jg i hi
      have := hcd i (by omega)
      rw [hc] at this
      omega
    · have := jg i (by omega)
      have := hcd i (by omega)
      rw [hc] at this
      omega
  · rintro ⟨had, hbd⟩ i hi
    rw [hc]
    refine jm (P (dn d)) (P_zero _) ?_ ?_ (fun i hi => ?_) i (by omega)
    · rw [hd.ln, P_dn_full, hd.sm]
    · have := bend_dn d
      rw [← hd.ln] at this
      exact this
    · have := had i hi
      have := hbd i (by omega)
      omega
theorem meet_iff {d : List Int} (h : a.length = b.length) (hd : d.length = a.length) : Le d (meet a b) ↔ Le d a ∧ Le d b := by
  constructor
  · intro k
    refine ⟨fun i hi => ?_, fun i hi => ?_⟩ <;>
    · have := k i hi
      rw [P_dn_meet h i (by omega)] at this
      omega
  · rintro ⟨k1, k2⟩ i hi
    have := k1 i hi
    have := k2 i hi
    rw [P_dn_meet h i (by omega)]
    omega
theorem Le.refl (a : List Int) : Le a a := fun _ _ => Int.le_refl _
theorem Le.trans (h : Le a b) (k : Le b c) (hl : a.length = b.length) : Le a c := fun i hi => Int.le_trans (h i hi) (k i (by omega))
theorem Le.antisymm (h : Le a b) (k : Le b a) (hl : a.length = b.length) : dn a = dn b := eq_of_P (by rw [dn_len, dn_len, hl]) fun i hi => by
  rw [dn_len] at hi
  have := h i hi
  have := k i (by omega)
  omega
end
end MJ
end
section
set_option autoImplicit false
namespace MJ
section
variable {a b c u v x y : List Int}
theorem eq_dn (hx : Dn x) (hy : Dn y) (hl : x.length = y.length) (h : Le x y) (k : Le y x) : x = y := by
  have := Le.antisymm h k hl
  rwa [dn_self hx, dn_self hy] at this
theorem le_dn_l (h : Le a b) : Le (dn a) b := fun i hi => by
  rw [dn_self (dn_dn a)]
  exact h i (by rwa [dn_len] at hi)
theorem le_dn_r (h : Le a b) : Le a (dn b) := fun i hi => by
  rw [dn_self (dn_dn b)]
  exact h i hi
theorem le_of_dn_l (h : Le (dn a) b) : Le a b := fun i hi => by
  have := h i (by rwa [dn_len])
  rwa [dn_self (dn_dn a)] at this
theorem le_of_dn_r (h : Le a (dn b)) : Le a b := fun i hi => by
  have := h i hi
  rwa [dn_self (dn_dn b)] at this
theorem meet_le1 (h : a.length = b.length) : Le (meet a b) a := ((meet_iff h (meet_len h)).mp (Le.refl _)).1
theorem meet_le2 (h : a.length = b.length) : Le (meet a b) b := ((meet_iff h (meet_len h)).mp (Le.refl _)).2
theorem meet_comm (h : a.length = b.length) : meet a b = meet b a := by
  unfold meet
  congr 1
  refine T_inj (by rw [lows_len h, lows_len h.symm, h]) fun i hi => ?_
  rw [lows_len h] at hi
  rw [T_lows h i hi, T_lows h.symm i (by omega)]
  omega
theorem meet_assoc (h : a.length = b.length) (k : b.length = c.length) : meet (meet a b) c = meet a (meet b c) := by
  have l1 : (meet a b).length = c.length := by rw [meet_len h]; omega
  have l2 : a.length = (meet b c).length := by rw [meet_len k]; omega
  refine eq_dn (meet_dn l1) (meet_dn l2) (by rw [meet_len l1, meet_len h, meet_len l2]) ?_ ?_
  · refine (meet_iff l2 (by rw [meet_len l1, meet_len h])).mpr ⟨?_, (meet_iff k (by rw [meet_len l1, meet_len h, h])).mpr ⟨?_, meet_le2 l1⟩⟩
    · exact Le.trans (meet_le1 l1) (meet_le1 h) (by rw [meet_len l1])
    · exact Le.trans (meet_le1 l1) (meet_le2 h) (by rw [meet_len l1])
  · refine (meet_iff l1 (by rw [meet_len l2, meet_len h])).mpr ⟨(meet_iff h (by rw [meet_len l2])).mpr ⟨meet_le1 l2, ?_⟩, ?_⟩
    · exact Le.trans (meet_le2 l2) (meet_le1 k) (by rw [meet_len l2, meet_len k, h])
    · exact Le.trans (meet_le2 l2) (meet_le2 k) (by rw [meet_len l2, meet_len k, h])
theorem join_ge1 (h : Al a b) (j : IsJoin a b c) : Le a c := ((join_iff h j (join_al h j)).mp (Le.refl _)).1
theorem join_ge2 (h : Al a b) (j : IsJoin a b c) : Le b c := ((join_iff h j (join_al h j)).mp (Le.refl _)).2
theorem join_comm (h : Al a b) (j : IsJoin a b u) (k : IsJoin b a v) : u = v := by
  have h1 := join_al h j
  have h2 := join_al h.symm k
  refine eq_dn (join_dn h j) (join_dn h.symm k) (by rw [← h1.ln, ← h2.ln, h.ln]) ?_ ?_
  · exact (join_iff h j (h.trans h2)).mpr ⟨join_ge2 h.symm k, join_ge1 h.symm k⟩
  · exact (join_iff h.symm k (h.symm.trans h1)).mpr ⟨join_ge2 h j, join_ge1 h j⟩
theorem join_assoc (h : Al a b) (k : Al b c) (j1 : IsJoin a b u) (j2 : IsJoin u c x) (j3 : IsJoin b c v) (j4 : IsJoin a v y) : x = y := by
  have a1 := join_al h j1
  have a2 : Al u c := a1.symm.trans (h.trans k)
  have a3 := join_al a2 j2
  have a4 := join_al k j3
  have a5 : Al a v := h.trans a4
  have a6 := join_al a5 j4
  refine eq_dn (join_dn a2 j2) (join_dn a5 j4) (by rw [← a3.ln, ← a6.ln, ← a1.ln]) ?_ ?_
  · refine (join_iff a2 j2 (a1.symm.trans a6)).mpr ⟨(join_iff h j1 a6).mpr ⟨join_ge1 a5 j4, ?_⟩, ?_⟩
    · exact Le.trans (join_ge1 k j3) (join_ge2 a5 j4) a4.ln
    · exact Le.trans (join_ge2 k j3) (join_ge2 a5 j4) (k.symm.trans a4).ln
  · refine (join_iff a5 j4 (a1.trans a3)).mpr ⟨?_, (join_iff k j3 (h.symm.trans (a1.trans a3))).mpr ⟨?_, join_ge2 a2 j2⟩⟩
    · exact Le.trans (join_ge1 h j1) (join_ge1 a2 j2) a1.ln
    · exact Le.trans (join_ge2 h j1) (join_ge1 a2 j2) (h.symm.trans a1).ln
theorem meet_join (h : Al a b) (j : IsJoin a b u) : meet a u = dn a := by
  have a1 := join_al h j
  refine eq_dn (meet_dn a1.ln) (dn_dn a) (by rw [meet_len a1.ln, dn_len]) (le_dn_r (meet_le1 a1.ln)) ?_
  exact (meet_iff a1.ln (by rw [dn_len])).mpr ⟨le_dn_l (Le.refl a), le_dn_l (join_ge1 h j)⟩
theorem join_meet (h : Al a b) (j : IsJoin a (meet a b) u) : u = dn a := by
  have a1 := meet_al h
  have a2 := join_al a1 j
  refine eq_dn (join_dn a1 j) (dn_dn a) (by rw [← a2.ln, dn_len]) (le_dn_r ?_) (le_dn_l (join_ge1 a1 j))
  exact (join_iff a1 j ⟨h.ga, h.ga, rfl, rfl⟩).mpr ⟨Le.refl a, meet_le1 h.ln⟩
theorem Al.refl (h : Gd a) : Al a a := ⟨h, h, rfl, rfl⟩
theorem meet_self : meet a a = dn a := by
  refine eq_dn (meet_dn rfl) (dn_dn a) (by rw [meet_len rfl, dn_len]) (le_dn_r (meet_le1 rfl)) ?_
  exact (meet_iff rfl (by rw [dn_len])).mpr ⟨le_dn_l (Le.refl a), le_dn_l (Le.refl a)⟩
theorem join_self (h : Gd a) (j : IsJoin a a u) : u = dn a := by
  have a2 := join_al (Al.refl h) j
  refine eq_dn (join_dn (Al.refl h) j) (dn_dn a) (by rw [← a2.ln, dn_len]) (le_dn_r ?_) (le_dn_l (join_ge1 (Al.refl h) j))
  exact (join_iff (Al.refl h) j (Al.refl h)).mpr ⟨Le.refl a, Le.refl a⟩
theorem le_iff_meet (h : a.length = b.length) : Le a b ↔ meet a b = dn a := by
  constructor
  · intro k
    refine eq_dn (meet_dn h) (dn_dn a) (by rw [meet_len h, dn_len]) (le_dn_r (meet_le1 h)) ?_
    exact (meet_iff h (by rw [dn_len])).mpr ⟨le_dn_l (Le.refl a), le_dn_l k⟩
  · intro e
    refine le_of_dn_l ?_
    rw [← e]
    exact meet_le2 h
theorem le_iff_join (h : Al a b) (j : IsJoin a b u) : Le a b ↔ u = dn b := by
  have a2 := join_al h j
  constructor
  · intro k
    refine eq_dn (join_dn h j) (dn_dn b) (by rw [← a2.ln, dn_len, h.ln]) (le_dn_r ?_) (le_dn_l (join_ge2 h j))
    exact (join_iff h j h).mpr ⟨k, Le.refl b⟩
  · intro e
    refine le_of_dn_r ?_
    rw [← e]
    exact join_ge1 h j
end
/-! what stands above a height -/
def exc (a : List Int) (j : Int) : Int := (a.map fun x => x - min x j).sum
theorem exc_nil (j : Int) : exc [] j = 0 := by simp [exc]
theorem exc_cons (x : Int) (l : List Int) (j : Int) : exc (x :: l) j = (x - min x j) + exc l j := by simp [exc]
theorem exc_nn (a : List Int) (j : Int) : 0 ≤ exc a j := sum_nn fun x hx => by
  obtain ⟨y, _, rfl⟩ := List.mem_map.mp hx
  omega
theorem exc_perm {a b : List Int} (h : a.Perm b) (j : Int) : exc a j = exc b j := perm_sum (h.map _)
theorem P_le_exc (j : Int) (hj : 0 ≤ j) : ∀ (a : List Int) (i : Nat), P a i ≤ i * j + exc a j
  | [], i => by
    rw [P_nil, exc_nil]
    have := Int.mul_nonneg (Int.natCast_nonneg i) hj
    omega
  | x :: l, 0 => by
    rw [P_zero]
    have := exc_nn (x :: l) j
    omega
  | x :: l, i + 1 => by
    rw [P_cons, exc_cons]
    have ih := P_le_exc j hj l i
    have e : ((i + 1 : Nat) : Int) * j = i * j + j := by rw [Int.natCast_add, Int.add_mul]; simp
    omega
theorem exc_low {l : List Int} {j : Int} (h : ∀ x ∈ l, x ≤ j) : exc l j = 0 := by
  induction l with
  | nil => exact exc_nil j
  | cons x r ih =>
    rw [exc_cons, ih fun y hy => h y (by simp [hy])]
    have := h x (by simp)
    omega
/-- met at some i -/
theorem exc_met (j : Int) : ∀ (a : List Int), Dn a → ∃ i : Nat, i ≤ a.length ∧ P a i = i * j + exc a j
  | [], _ => ⟨0, Nat.le_refl _, by rw [P_zero, exc_nil]; omega⟩
  | x :: l, h => by
    obtain ⟨h1, h2⟩ := List.pairwise_cons.mp h
    by_cases hx : x ≤ j
    · exact ⟨0, Nat.zero_le _, by
        rw [P_zero, exc_low fun y hy => by
          rcases List.mem_cons.mp hy with rfl | hy
          · exact hx
          · have := h1 y hy
            omega]
        omega⟩
    · obtain ⟨i, hi, e⟩ := exc_met j l h2
      refine ⟨i + 1, by simp; omega, ?_⟩
      rw [P_cons, exc_cons, e]
      have e2 : ((i + 1 : Nat) : Int) * j = i * j + j := by rw [Int.natCast_add, Int.add_mul]; simp
      omega
/-- met at the height of the i-th -/
theorem P_met : ∀ (a : List Int), Dn a → ∀ (i : Nat) (hi : i < a.length), P a i = i * a[i] + exc a a[i]
  | x :: l, h, 0, _ => by
    obtain ⟨h1, _⟩ := List.pairwise_cons.mp h
    rw [P_zero, exc_low fun y hy => by
      rcases List.mem_cons.mp hy with rfl | hy
      · exact Int.le_refl _
      · have := h1 y hy
        simp
        omega]
    simp
  | x :: l, h, i + 1, hi => by
    obtain ⟨h1, h2⟩ := List.pairwise_cons.mp h
    have hi' : i < l.length := by simpa using hi
    have ih := P_met l h2 i hi'
    have hx := h1 l[i] (List.getElem_mem hi')
    rw [P_cons, exc_cons, List.getElem_cons_succ, ih]
    have e2 : ((i + 1 : Nat) : Int) * l[i] = i * l[i] + l[i] := by rw [Int.natCast_add, Int.add_mul]; simp
    omega
end MJ
end
section
set_option autoImplicit false
namespace MJ
/-- how many are at least 1, at least 2, .. L of them -/
def conj (a : List Int) (L : Nat) : List Int := (List.range L).map fun (k : Nat) => ((a.filter fun x => decide (1 + (k : Int) ≤ x)).length : Int)
theorem conj_len (a : List Int) (L : Nat) : (conj a L).length = L := by simp [conj]
theorem exc_step (j : Nat) : ∀ a : List Int, exc a (j : Int) = exc a ((j + 1 : Nat) : Int) + ((a.filter fun x => decide (1 + (j : Int) ≤ x)).length : Int)
  | [] => by simp [exc_nil]
  | x :: l => by
    rw [exc_cons, exc_cons, exc_step j l, List.filter_cons]
    by_cases h : 1 + (j : Int) ≤ x
    · rw [if_pos (decide_eq_true h), List.length_cons]
      omega
    · rw [if_neg (by simpa using h)]
      omega
theorem exc_zero {a : List Int} (h : ∀ x ∈ a, 0 ≤ x) : exc a 0 = a.sum := by
  induction a with
  | nil => simp [exc_nil]
  | cons x r ih =>
    rw [exc_cons, ih fun y hy => h y (by simp [hy]), List.sum_cons]
    have := h x (by simp)
    omega
theorem P_conj {a : List Int} (h : ∀ x ∈ a, 0 ≤ x) (L : Nat) : ∀ j : Nat, j ≤ L → P (conj a L) j = a.sum - exc a (j : Int)
  | 0, _ => by
    rw [P_zero]
    have := exc_zero h
    simp only [Int.natCast_zero]
    omega
  | j + 1, hj => by
    have ih := P_conj h L j (by omega)
    have e := P_succ (conj a L) j (by rw [conj_len]; omega)
    have e2 : (conj a L)[j]'(by rw [conj_len]; omega) = ((a.filter fun x => decide (1 + (j : Int) ≤ x)).length : Int) := by simp [conj]
    have e3 := exc_step j a
    omega
theorem exc_bend (j : Nat) : ∀ a : List Int, 2 * exc a ((j + 1 : Nat) : Int) ≤ exc a (j : Int) + exc a ((j + 2 : Nat) : Int)
  | [] => by simp [exc_nil]
  | x :: l => by
    have := exc_bend j l
    rw [exc_cons, exc_cons, exc_cons]
    omega
theorem conj_dn {a : List Int} (h : ∀ x ∈ a, 0 ≤ x) (L : Nat) : Dn (conj a L) := dn_of_bend fun i hi => by
  rw [conj_len] at hi
  rw [P_conj h L i (by omega), P_conj h L (i + 2) (by omega), P_conj h L (i + 1) (by omega)]
  have := exc_bend i a
  omega
theorem exc_top {a : List Int} {L : Nat} (h : ∀ x ∈ a, x ≤ (L : Int)) : exc a (L : Int) = 0 := exc_low h
theorem conj_sum {a : List Int} (h : ∀ x ∈ a, 0 ≤ x) {L : Nat} (hl : ∀ x ∈ a, x ≤ (L : Int)) : (conj a L).sum = a.sum := by
  have := P_conj h L L (Nat.le_refl _)
  rw [P_len _ _ (by rw [conj_len]; exact Nat.le_refl _), exc_top hl] at this
  omega
theorem conj_gd {a : List Int} (h : a.length ≤ 40) {L : Nat} (h1 : 1 ≤ L) (h2 : L ≤ 10) : Gd (conj a L) := by
  refine ⟨by rw [conj_len]; exact h1, by rw [conj_len]; exact h2, fun x hx => ?_⟩
  obtain ⟨k, _, rfl⟩ := List.mem_map.mp hx
  have := List.length_filter_le (fun x => decide (1 + (k : Int) ≤ x)) a
  constructor <;> omega
/-- a line above what is bent down -/
theorem bend_line {G : Nat → Int} {L j : Nat} (h : Bend G L) (hj : j < L) : ∀ k, k ≤ L → G k ≤ G j + (G (j + 1) - G j) * ((k : Int) - j) := by
  have step : ∀ k, k + 2 ≤ L → G (k + 2) - G (k + 1) ≤ G (k + 1) - G k := fun k hk => by
    have := h k hk
    omega
  have up : ∀ d k, j ≤ k → k = j + d → k < L → G (k + 1) - G k ≤ G (j + 1) - G j := by
    intro d
    induction d with
    | zero => intro k h1 h2 h3; subst h2; exact Int.le_refl _
    | succ d ih =>
      intro k h1 h2 h3
      have := ih (k - 1) (by omega) (by omega) (by omega)
      have s := step (k - 1) (by omega)
      rw [show k - 1 + 1 = k by omega] at this
      rw [show k - 1 + 2 = k + 1 by omega, show k - 1 + 1 = k by omega] at s
      omega
  have down : ∀ d k, k + d = j → G (j + 1) - G j ≤ G (k + 1) - G k := by
    intro d
    induction d with
    | zero => intro k h2; subst h2; exact Int.le_refl _
    | succ d ih =>
      intro k h2
      have : G (j + 1) - G j ≤ G (k + 2) - G (k + 1) := ih (k + 1) (by omega)
      have s := step k (by omega)
      omega
  have hi : ∀ d k, k = j + d → k ≤ L → G k ≤ G j + (G (j + 1) - G j) * (d : Int) := by
    intro d
    induction d with
    | zero => intro k h2 _; subst h2; simp
    | succ d ih =>
      intro k h2 h3
      have := ih (k - 1) (by omega) (by omega)
      have u := up d (k - 1) (by omega) (by omega) (by omega)
      rw [show k - 1 + 1 = k by omega] at u
      have e : (G (j + 1) - G j) * ((d + 1 : Nat) : Int) = (G (j + 1) - G j) * (d : Int) + (G (j + 1) - G j) := by rw [Int.natCast_add, Int.mul_add]; simp
      omega
  have lo : ∀ d k, k + d = j → G k ≤ G j - (G (j + 1) - G j) * (d : Int) := by
    intro d
    induction d with
    | zero => intro k h2; subst h2; simp
    | succ d ih =>
      intro k h2
      have := ih (k + 1) (by omega)
      have u := down (d + 1) k (by omega)
      have e : (G (j + 1) - G j) * ((d + 1 : Nat) : Int) = (G (j + 1) - G j) * (d : Int) + (G (j + 1) - G j) := by rw [Int.natCast_add, Int.mul_add]; simp
      omega
  intro k hk
  by_cases hjk : j ≤ k
  · have := hi (k - j) k (by omega) hk
    rwa [show ((k - j : Nat) : Int) = (k : Int) - j by omega] at this
  · have := lo (j - k) k (by omega)
    have e : (G (j + 1) - G j) * ((k : Int) - j) = - ((G (j + 1) - G j) * ((j - k : Nat) : Int)) := by
      rw [← Int.mul_neg]
      congr 1
      omega
    omega
section
variable {a b u : List Int}
theorem exc_le_of_le {m : List Int} (hm : Dn m) (h : Le m a) (hl : m.length = a.length) {j : Int} (hj : 0 ≤ j) : exc m j ≤ exc a j := by
  obtain ⟨i, hi, e⟩ := exc_met j m hm
  have h1 := h i hi
  rw [dn_self hm] at h1
  have h2 := P_le_exc j hj (dn a) i
  rw [exc_perm (dn_perm a) j] at h2
  omega
/-- the claim for one of both -/
theorem above {G : Nat → Int} {L j : Nat} {i : Nat} (ga : Gd a) (hl : ∀ x ∈ a, x ≤ (L : Int)) (hG : ∀ k, k ≤ L → G k ≤ G j + (i : Int) * ((k : Int) - j)) (g0 : G 0 = 0) (hg : ∀ k, k ≤ L → a.sum - exc a (k : Int) ≤ G k) :
    a.sum - G j + (i : Int) * j ≤ P (dn a) i := by
  by_cases hi : i < (dn a).length
  · have hm := P_met (dn a) (dn_dn a) i hi
    have hmem : (dn a)[i] ∈ a := (dn_perm a).mem_iff.mp (List.getElem_mem hi)
    have t0 := (ga.2.2 _ hmem).1
    have t1 := hl _ hmem
    rw [exc_perm (dn_perm a)] at hm
    generalize (dn a)[i] = t at hm t0 t1
    obtain ⟨k, rfl⟩ : ∃ k : Nat, t = (k : Int) := ⟨t.toNat, by omega⟩
    have h1 := hg k (by omega)
    have h2 := hG k (by omega)
    rw [Int.mul_sub] at h2
    omega
  · rw [P_len _ _ (by omega), dn_sum]
    have h2 := hG 0 (by omega)
    rw [g0, Int.mul_sub] at h2
    simp at h2
    omega
theorem across (h : Al a b) {L : Nat} (h1 : 1 ≤ L) (h2 : L ≤ 10) (ha : ∀ x ∈ a, x ≤ (L : Int)) (hb : ∀ x ∈ b, x ≤ (L : Int)) (j : IsJoin (conj a L) (conj b L) u) :
    Al (conj a L) (conj b L) ∧ (∀ x ∈ meet a b, x ≤ (L : Int)) ∧ u = conj (meet a b) L := by
  have na := fun x hx => (h.ga.2.2 x hx).1
  have nb := fun x hx => (h.gb.2.2 x hx).1
  have gm := meet_gd h
  have nm := fun x hx => (gm.2.2 x hx).1
  have A : Al (conj a L) (conj b L) := ⟨conj_gd (by have := h.ga.2.1; omega) h1 h2, conj_gd (by have := h.gb.2.1; omega) h1 h2, by rw [conj_len, conj_len], by rw [conj_sum na ha, conj_sum nb hb, h.sm]⟩
  have md := meet_dn h.ln
  have ml := meet_len h.ln
  have hm : ∀ x ∈ meet a b, x ≤ (L : Int) := fun x hx => by
    obtain ⟨i, hi, rfl⟩ := List.getElem_of_mem hx
    have d0 := dn_get md (i := 0) (j := i) (by omega) hi
    have e0 := P_succ (meet a b) 0 (by omega)
    have := h.ga.1
    rw [P_meet h.ln _ (by omega), P_zero] at e0
    simp only [Nat.zero_add] at e0
    have e1 := P_succ (dn a) 0 (by rw [dn_len]; omega)
    rw [P_zero] at e1
    have := ha _ ((dn_perm a).mem_iff.mp (List.getElem_mem (show 0 < (dn a).length by rw [dn_len]; omega)))
    simp only [Nat.zero_add] at e1
    omega
  refine ⟨A, hm, ?_⟩
  have au := join_al A j
  have cd := conj_dn nm L
  have sm : (meet a b).sum = a.sum := meet_sum h
  have M : Al (conj a L) (conj (meet a b) L) := ⟨A.ga, conj_gd (by have := gm.2.1; omega) h1 h2, by rw [conj_len, conj_len], by rw [conj_sum na ha, conj_sum nm hm, sm]⟩
  have hul : u.length = L := by rw [← au.ln, conj_len]
  refine eq_dn (join_dn A j) cd (by rw [hul, conj_len]) ?_ ?_
  · refine (join_iff A j M).mpr ⟨fun i hi => ?_, fun i hi => ?_⟩
    · rw [conj_len] at hi
      rw [dn_self (conj_dn na L), dn_self cd, P_conj na L i hi, P_conj nm L i hi, sm]
      have := exc_le_of_le md (meet_le1 h.ln) ml (Int.natCast_nonneg i)
      omega
    · rw [conj_len] at hi
      rw [dn_self (conj_dn nb L), dn_self cd, P_conj nb L i hi, P_conj nm L i hi, sm, ← h.sm]
      have := exc_le_of_le md (meet_le2 h.ln) (by rw [ml, h.ln]) (Int.natCast_nonneg i)
      omega
  · intro k hk
    rw [conj_len] at hk
    have ud := join_dn A j
    have ub := bend_P ud
    rw [hul] at ub
    have hj1 := join_ge1 A j
    have hj2 := join_ge2 A j
    have us : P u L = a.sum := by rw [P_len _ _ (by omega), ← au.sm, conj_sum na ha]
    have g1 : ∀ k, k ≤ L → a.sum - exc a (k : Int) ≤ P u k := fun k hk => by
      have := hj1 k (by rw [conj_len]; exact hk)
      rw [dn_self (conj_dn na L), dn_self ud, P_conj na L k hk] at this
      exact this
    have g2 : ∀ k, k ≤ L → b.sum - exc b (k : Int) ≤ P u k := fun k hk => by
      have := hj2 k (by rw [conj_len]; exact hk)
      rw [dn_self (conj_dn nb L), dn_self ud, P_conj nb L k hk] at this
      exact this
    rw [dn_self cd, dn_self ud, P_conj nm L k hk, sm]
    have e0 := exc_nn (meet a b) (k : Int)
    by_cases hkL : k = L
    · subst hkL
      omega
    have line := bend_line ub (show k < L by omega)
    by_cases hneg : P u (k + 1) - P u k < 0
    · have := line L (Nat.le_refl _)
      have m0 : (P u (k + 1) - P u k) * ((L : Int) - k) ≤ 0 := Int.mul_nonpos_of_nonpos_of_nonneg (by omega) (by omega)
      omega
    · obtain ⟨i, hi⟩ : ∃ i : Nat, P u (k + 1) - P u k = (i : Int) := ⟨(P u (k + 1) - P u k).toNat, by omega⟩
      rw [hi] at line
      have q1 := above h.ga ha line (P_zero u) g1
      have q2 := above h.gb hb line (P_zero u) g2
      rw [← h.sm] at q2
      have q3 := P_le_exc (k : Int) (Int.natCast_nonneg k) (meet a b) i
      by_cases hin : i ≤ a.length
      · rw [P_meet h.ln i hin] at q3
        omega
      · rw [P_len _ _ (by omega), sm] at q3
        have h0 := line 0 (by omega)
        rw [P_zero, Int.mul_sub] at h0
        simp at h0
        omega
end
/-! the most even list; all with one -/
theorem even_least {a b : List Int} (h : Al a b) {q : Int} (hq : 0 ≤ q) (hb : ∀ x ∈ b, x = q ∨ x = q + 1) : Le b a := fun i hi => by
  have u1 := P_le_exc (q + 1) (by omega) (dn b) i
  have u2 := P_le_exc q hq (dn b) i
  rw [exc_perm (dn_perm b)] at u1 u2
  have e1 : exc b (q + 1) = 0 := exc_low fun x hx => by rcases hb x hx with e | e <;> omega
  have e2 : exc b q = b.sum - b.length * q := by
    clear u1 u2 e1 h hi
    induction b with
    | nil => simp [exc_nil]
    | cons x r ih =>
      rw [exc_cons, ih fun y hy => hb y (by simp [hy]), List.sum_cons, List.length_cons, Int.natCast_add, Int.add_mul]
      have := hb x (by simp)
      simp
      omega
  rw [e1, Int.mul_add] at u1
  rw [e2, ← h.ln, ← h.sm] at u2
  have hla : i ≤ a.length := by rw [h.ln]; exact hi
  by_cases hia : i < (dn a).length
  · by_cases hv : q + 1 ≤ (dn a)[i]
    · -- the first i are all above
      have : ∀ k : Nat, k ≤ i → (k : Int) * q + k ≤ P (dn a) k := by
        intro k
        induction k with
        | zero => intro _; rw [P_zero]; simp
        | succ k ih =>
          intro hk
          have := ih (by omega)
          have e := P_succ (dn a) k (by omega)
          have := dn_get (dn_dn a) (i := k) (j := i) (by omega) hia
          rw [Int.natCast_add, Int.add_mul]
          simp
          omega
      have := this i (Nat.le_refl _)
      omega
    · -- the rest are all below
      have : ∀ d k : Nat, k + d = a.length → i ≤ k → a.sum - (d : Int) * q ≤ P (dn a) k := by
        intro d
        induction d with
        | zero => intro k h1 _; rw [show k = a.length by omega, P_dn_full]; simp
        | succ d ih =>
          intro k h1 h2
          have := ih (k + 1) (by omega) (by omega)
          have e := P_succ (dn a) k (by rw [dn_len]; omega)
          have := dn_get (dn_dn a) (i := i) (j := k) h2 (by rw [dn_len]; omega)
          rw [Int.natCast_add, Int.add_mul]
          simp
          omega
      have := this (a.length - i) i (by omega) (Nat.le_refl _)
      have e : ((a.length - i : Nat) : Int) * q = a.length * q - i * q := by rw [← Int.sub_mul]; congr 1; omega
      omega
  · rw [dn_len] at hia
    rw [show i = a.length by omega, P_dn_full, show a.length = b.length from h.ln, P_dn_full, h.sm]
    exact Int.le_refl _
theorem alone_above {a : List Int} (h : Gd a) (n : Nat) (hl : a.length = n + 1) : Dn (a.sum :: List.replicate n 0) ∧ Le a (a.sum :: List.replicate n 0) := by
  have hs : 0 ≤ a.sum := sum_nn fun x hx => (h.2.2 x hx).1
  have hd : Dn (a.sum :: List.replicate n 0) := List.pairwise_cons.mpr ⟨fun y hy => by rw [(List.mem_replicate.mp hy).2]; exact hs, List.pairwise_replicate.mpr (.inr (Int.le_refl _))⟩
  refine ⟨hd, fun i hi => ?_⟩
  rw [dn_self hd]
  cases i with
  | zero => rw [P_zero, P_zero]; exact Int.le_refl _
  | succ i =>
    rw [P_cons]
    have e : P (List.replicate n 0) i = 0 := by
      unfold P
      rw [List.take_replicate]
      simp
    have := P_dn_le h (i + 1)
    omega
end MJ
end
section
set_option autoImplicit false
namespace MJ
/-! bending down, turn by turn -/
theorem T_set (l : List Int) (i : Nat) (v : Int) (h : i < l.length) (k : Nat) : T (l.set i v) k = if k = i + 1 then v else T l k := by
  unfold T
  by_cases hk : k = 0
  · subst hk
    simp
  · rw [if_neg hk, if_neg hk]
    by_cases hi : k = i + 1
    · subst hi
      rw [if_pos rfl]
      simp [List.getD_eq_getElem?_getD, h]
    · rw [if_neg hi]
      simp [List.getD_eq_getElem?_getD, List.getElem?_set_ne (show i ≠ k - 1 by omega)]
structure Turn (f l : List Int) (i : Nat) : Prop where
  ln : l.length = f.length
  ge : ∀ k, k ≤ f.length → T f k ≤ T l k
  tail : ∀ k, i < k → T l k = T f k
  up : ∀ k, k ≤ f.length → T l k ≤ 1000
  mid : ∀ k, k < i → T l k + T f (k + 2) ≤ 2 * T l (k + 1)
  lst : ∀ G : Nat → Int, G 0 = 0 → Bend G f.length → (∀ k, k ≤ f.length → T f k ≤ G k) → ∀ k, k ≤ f.length → T l k ≤ G k
theorem turn_start {f : List Int} (h : ∀ k, k ≤ f.length → T f k ≤ 1000) : Turn f f 0 := ⟨rfl, fun _ _ => Int.le_refl _, fun _ _ => rfl, h, fun _ hk => absurd hk (by omega), fun _ _ _ h => h⟩
theorem turn_next {f l : List Int} {i : Nat} (t : Turn f l i) (hi : i + 1 < f.length) (hf : ∀ k, k ≤ f.length → T f k ≤ 1000) : Turn f (l.set i (max (T f (i + 1)) (0 - (0 - T l i - T f (i + 2)) / 2))) (i + 1) := by
  have hl := t.ln
  have ts := T_set l i (max (T f (i + 1)) (0 - (0 - T l i - T f (i + 2)) / 2)) (by omega)
  have h1 := t.up i (by omega)
  have h2 := hf (i + 1) (by omega)
  have h3 := hf (i + 2) (by omega)
  refine ⟨by rw [List.length_set, hl], fun k hk => ?_, fun k hk => ?_, fun k hk => ?_, fun k hk => ?_, fun G g0 gb gg k hk => ?_⟩
  · rw [ts]
    split
    · rename_i e
      subst e
      omega
    · exact t.ge k hk
  · rw [ts, if_neg (by omega)]
    exact t.tail k (by omega)
  · rw [ts]
    split
    · omega
    · exact t.up k hk
  · rw [ts, ts]
    by_cases e : k = i
    · subst e
      rw [if_neg (by omega), if_pos rfl]
      omega
    · rw [if_neg (by omega), if_neg (by omega)]
      exact t.mid k (by omega)
  · rw [ts]
    split
    · rename_i e
      subst e
      have q1 := t.lst G g0 gb gg i (by omega)
      have q2 := gg (i + 1) (by omega)
      have q3 := gg (i + 2) (by omega)
      have q4 := gb i (by omega)
      omega
    · exact t.lst G g0 gb gg k hk
theorem sum_lt : ∀ (f l : List Int), l.length = f.length → (∀ k, k ≤ f.length → T f k ≤ T l k) → f.sum ≤ l.sum ∧ (f.sum = l.sum → f = l)
  | [], [], _, _ => ⟨Int.le_refl _, fun _ => rfl⟩
  | [], _ :: _, h, _ => by simp at h
  | _ :: _, [], h, _ => by simp at h
  | x :: f, y :: l, h, k => by
    have h0 := k 1 (by simp)
    rw [T_succ _ 0 (by simp), T_succ _ 0 (by simp)] at h0
    simp at h0
    obtain ⟨i1, i2⟩ := sum_lt f l (by simpa using h) fun j hj => by
      cases j with
      | zero => exact Int.le_refl _
      | succ j =>
        have := k (j + 2) (by simp; omega)
        rw [T_succ _ (j + 1) (by simp; omega), T_succ _ (j + 1) (by simp at h ⊢; omega)] at this
        rw [T_succ _ j (by omega), T_succ _ j (by simp at h; omega)]
        simpa using this
    rw [List.sum_cons, List.sum_cons]
    refine ⟨by omega, fun e => ?_⟩
    have e1 : x = y := by omega
    rw [e1, i2 (by omega)]
/-- what holds of found between two rounds -/
structure Round (t f : List Int) (b : Bool) : Prop where
  ln : f.length = t.length
  ge : ∀ k, k ≤ t.length → T t k ≤ T f k
  up : ∀ k, k ≤ t.length → T f k ≤ 1000
  last : T f t.length = T t t.length
  lst : ∀ G : Nat → Int, G 0 = 0 → Bend G t.length → (∀ k, k ≤ t.length → T t k ≤ G k) → ∀ k, k ≤ t.length → T f k ≤ G k
  bd : b = false → Bend (T f) t.length
theorem round_start {t : List Int} (h : ∀ x ∈ t, x ≤ 1000) : Round t t true := ⟨rfl, fun _ _ => Int.le_refl _, fun k hk => by
  cases k with
  | zero => rw [T_zero]; omega
  | succ k => rw [T_succ _ _ (by omega)]; exact h _ (List.getElem_mem _), rfl, fun _ _ _ h => h, fun h => nomatch h⟩
theorem round_next {t f l : List Int} {b : Bool} (r : Round t f b) (u : Turn f l (f.length - 1)) (h1 : 1 ≤ t.length) : Round t l (!decide (l = f)) := by
  have hl := u.ln
  have hf := r.ln
  refine ⟨by omega, fun k hk => ?_, fun k hk => u.up k (by omega), ?_, fun G g0 gb gg k hk => ?_, fun hb => ?_⟩
  · have := r.ge k hk
    have := u.ge k (by omega)
    omega
  · rw [u.tail _ (by omega), r.last]
  · rw [← hf] at gb
    exact u.lst G g0 gb (fun k hk => r.lst G g0 (by rw [← hf]; exact gb) gg k (by omega)) k (by omega)
  · have e : l = f := by simpa using hb
    subst e
    intro k hk
    exact u.mid k (by omega)
theorem round_less {f l : List Int} (u : Turn f l (f.length - 1)) (hb : (!decide (l = f)) = true) : (1000 * (l.length : Int) - l.sum).toNat < (1000 * (f.length : Int) - f.sum).toNat := by
  have hne : f ≠ l := fun e => by
    subst e
    simp at hb
  obtain ⟨h1, h2⟩ := sum_lt f l u.ln u.ge
  have h3 : l.sum ≤ 1000 * (l.length : Int) := by
    have key : ∀ m : List Int, (∀ x ∈ m, x ≤ 1000) → m.sum ≤ 1000 * (m.length : Int) := by
      intro m
      induction m with
      | nil => intro _; simp
      | cons x r ih =>
        intro h
        have := ih fun y hy => h y (by simp [hy])
        have := h x (by simp)
        rw [List.sum_cons, List.length_cons]
        omega
    refine key l fun x hx => ?_
    obtain ⟨i, hi, rfl⟩ := List.getElem_of_mem hx
    have := u.up (i + 1) (by rw [← u.ln]; omega)
    rwa [T_succ _ _ hi] at this
  have h4 : f.sum ≠ l.sum := fun e => hne (h2 e)
  have := u.ln
  omega
theorem round_end {t f : List Int} (r : Round t f false) : Bent t f := ⟨r.ln, r.bd rfl, r.ge, r.last, fun G g0 _ gb gg => r.lst G g0 gb gg⟩
end MJ
end
section
set_option autoImplicit false
namespace MJ
/-! the least bent list is there -/
theorem turn_go {f : List Int} (h : ∀ k, k ≤ f.length → T f k ≤ 1000) : ∀ i, i ≤ f.length - 1 → ∃ l, Turn f l i
  | 0, _ => ⟨f, turn_start h⟩
  | i + 1, hi => by
    obtain ⟨l, t⟩ := turn_go h i (by omega)
    exact ⟨_, turn_next t (by omega) h⟩
theorem bent_go {t : List Int} (h1 : 1 ≤ t.length) : ∀ (m : Nat) (f : List Int), (1000 * (f.length : Int) - f.sum).toNat ≤ m → Round t f true → ∃ g, Bent t g
  | m, f, hm, r => by
    obtain ⟨l, u⟩ := turn_go (fun k hk => r.up k (by rw [← r.ln]; exact hk)) (f.length - 1) (Nat.le_refl _)
    have n := round_next r u h1
    by_cases hb : (!decide (l = f)) = true
    · have hlt := round_less u hb
      rw [hb] at n
      match m with
      | 0 => omega
      | m + 1 => exact bent_go h1 m l (by omega) n
    · rw [Bool.not_eq_true] at hb
      rw [hb] at n
      exact ⟨l, round_end n⟩
theorem bent_ex {t : List Int} (h1 : 1 ≤ t.length) (h : ∀ x ∈ t, x ≤ 1000) : ∃ g, Bent t g := bent_go h1 _ t (Nat.le_refl _) (round_start h)
theorem highs_thousand {a b : List Int} (h : Al a b) : ∀ x ∈ highs a b, x ≤ 1000 := fun x hx => by
  obtain ⟨i, hi, rfl⟩ := List.getElem_of_mem hx
  have e := T_succ (highs a b) i hi
  rw [highs_len h.ln] at hi
  have h1 := P_dn_le40 h.ga (i + 1)
  have h2 := P_dn_le40 h.gb (i + 1)
  have h3 := h.ga.2.1
  have := T_highs h.ln (i + 1) (by omega)
  omega
open Classical in
noncomputable def join (a b : List Int) : List Int := if h : ∃ c, IsJoin a b c then h.choose else []
theorem join_is {a b : List Int} (h : Al a b) : IsJoin a b (join a b) := by
  obtain ⟨f, hf⟩ := bent_ex (t := highs a b) (by rw [highs_len h.ln]; exact h.ga.1) (highs_thousand h)
  have e : ∃ c, IsJoin a b c := ⟨_, f, hf, rfl⟩
  unfold join
  rw [dif_pos e]
  exact e.choose_spec
theorem join_eq {a b c : List Int} (h : Al a b) (j : IsJoin a b c) : c = join a b := j.uniq (join_is h)
theorem al_join {a b : List Int} (h : Al a b) : Al a (join a b) := join_al h (join_is h)
/-- is more even -/
noncomputable def leB (a b : List Int) : Bool := @decide (Le a b) (Classical.propDecidable _)
theorem leB_iff {a b : List Int} : leB a b = true ↔ Le a b := @decide_eq_true_iff (Le a b) (Classical.propDecidable _)
theorem leB_of {a b : List Int} {r : Bool} (h : r = true ↔ Le a b) : r = leB a b := by
  rw [Bool.eq_iff_iff, h, leB_iff]
/-! three lists -/
section
variable {a b c : List Int}
theorem join_comm' (h : Al a b) : join a b = join b a := join_comm h (join_is h) (join_is h.symm)
theorem join_assoc' (h : Al a b) (k : Al b c) : join (join a b) c = join a (join b c) := by
  have h1 := al_join h
  have k1 := al_join k
  exact join_assoc h k (join_is h) (join_is (h1.symm.trans (h.trans k))) (join_is k) (join_is (h.trans k1))
theorem meet_join' (h : Al a b) : meet a (join a b) = dn a := meet_join h (join_is h)
theorem join_meet' (h : Al a b) : join a (meet a b) = dn a := join_meet h (join_is (meet_al h))
theorem join_self' (h : Gd a) : join a a = dn a := join_self h (join_is (Al.refl h))
theorem leB_meet (h : Al a b) : leB a b = decide (meet a b = dn a) := by
  rw [Bool.eq_iff_iff, leB_iff, decide_eq_true_iff]
  exact le_iff_meet h.ln
theorem leB_join (h : Al a b) : leB a b = decide (join a b = dn b) := by
  rw [Bool.eq_iff_iff, leB_iff, decide_eq_true_iff]
  exact le_iff_join h (join_is h)
end
/-! across -/
theorem conj_pad {a : List Int} {t L : Nat} (h : ∀ x ∈ a, x ≤ (t : Int)) (hL : t ≤ L) : conj a t ++ List.replicate (L - t) 0 = conj a L := by
  apply List.ext_getElem
  · rw [List.length_append, conj_len, conj_len, List.length_replicate]
    omega
  · intro i h1 h2
    rw [conj_len] at h2
    by_cases hi : i < t
    · rw [List.getElem_append_left (by rw [conj_len]; exact hi)]
      simp [conj]
    · rw [List.getElem_append_right (by rw [conj_len]; omega), List.getElem_replicate]
      simp only [conj, List.getElem_map, List.getElem_range]
      have : a.filter (fun x => decide (1 + (i : Int) ≤ x)) = [] := List.filter_eq_nil_iff.mpr fun x hx hd => by
        have := h x hx
        have := of_decide_eq_true hd
        omega
      rw [this]
      rfl
/-! flat -/
def flat (s : Int) (n : Nat) : List Int := (List.range n).map fun (i : Nat) => (s + (i : Int)) / (n : Int)
theorem flat_len (s : Int) (n : Nat) : (flat s n).length = n := by simp [flat]
theorem div_step {s n i : Int} (hn : 0 < n) (h0 : 0 ≤ i) (h1 : i < n) : (s + i) / n = s / n + if n - s % n ≤ i then 1 else 0 := by
  have hm := Int.emod_nonneg s (show n ≠ 0 by omega)
  have hl := Int.emod_lt_of_pos s hn
  have hd := Int.mul_ediv_add_emod s n
  generalize hq : s / n = q at *
  generalize hr : s % n = r at *
  have e : s + i = (r + i) + n * q := by omega
  rw [e, Int.add_mul_ediv_left _ _ (by omega)]
  have : (r + i) / n = if n - r ≤ i then 1 else 0 := by
    by_cases hc : n - r ≤ i
    · rw [if_pos hc]
      have e2 : r + i = (r + i - n) + n * 1 := by omega
      rw [e2, Int.add_mul_ediv_left _ _ (by omega), Int.ediv_eq_zero_of_lt (by omega) (by omega)]
      rfl
    · rw [if_neg hc]
      exact Int.ediv_eq_zero_of_lt (by omega) (by omega)
  rw [this]
  omega
theorem flat_sum (s : Int) (n : Nat) (hn : 0 < n) : (flat s n).sum = s := by
  have hm := Int.emod_nonneg s (show (n : Int) ≠ 0 by omega)
  have hl := Int.emod_lt_of_pos s (show (0 : Int) < n by omega)
  have hd := Int.mul_ediv_add_emod s n
  have go : ∀ k : Nat, k ≤ n → ((List.range k).map fun (i : Nat) => (s + (i : Int)) / (n : Int)).sum = (k : Int) * (s / n) + max 0 ((k : Int) - ((n : Int) - s % n)) := by
    intro k
    induction k with
    | zero => intro _; simp; omega
    | succ k ih =>
      intro hk
      rw [List.range_succ, List.map_append, List.sum_append, ih (by omega)]
      simp only [List.map_cons, List.map_nil, List.sum_cons, List.sum_nil]
      rw [div_step (by omega) (by omega) (by omega)]
      generalize s / (n : Int) = q
      have : ((k + 1 : Nat) : Int) * q = (k : Int) * q + q := by
        rw [Int.natCast_add, Int.add_mul]
        simp
      rw [this]
      split <;> omega
  unfold flat
  rw [go n (Nat.le_refl _)]
  omega
theorem flat_mem {s : Int} {n : Nat} (hn : 0 < n) : ∀ x ∈ flat s n, x = s / n ∨ x = s / n + 1 := fun x hx => by
  obtain ⟨i, hi, rfl⟩ := List.mem_map.mp hx
  have hi := List.mem_range.mp hi
  rw [div_step (by omega) (by omega) (by omega)]
  split
  · exact .inr rfl
  · exact .inl (by omega)
theorem flat_al {a : List Int} (h : Gd a) : Al (flat a.sum a.length) a := by
  have hn : 0 < a.length := h.1
  have s0 : 0 ≤ a.sum := sum_nn fun x hx => (h.2.2 x hx).1
  have s1 := sum_le40 h
  have q0 : 0 ≤ a.sum / (a.length : Int) := Int.ediv_nonneg s0 (by omega)
  refine ⟨⟨by rw [flat_len]; exact h.1, by rw [flat_len]; exact h.2.1, fun x hx => ?_⟩, h, flat_len _ _, flat_sum _ _ hn⟩
  obtain ⟨i, hi, rfl⟩ := List.mem_map.mp hx
  have hi := List.mem_range.mp hi
  refine ⟨Int.ediv_nonneg (by omega) (by omega), ?_⟩
  have : (a.sum + (i : Int)) / (a.length : Int) < 41 := Int.ediv_lt_of_lt_mul (by omega) (by omega)
  omega
theorem flat_le {a : List Int} (h : Gd a) : Le (flat a.sum a.length) a := by
  have hn : 0 < a.length := h.1
  have s0 : 0 ≤ a.sum := sum_nn fun x hx => (h.2.2 x hx).1
  exact even_least (flat_al h).symm (q := a.sum / (a.length : Int)) (Int.ediv_nonneg s0 (by omega)) (flat_mem hn)
theorem alone_al {a : List Int} (h : Gd a) {n : Nat} (hl : a.length = n + 1) (hs : a.sum ≤ 40) : Al a (a.sum :: List.replicate n 0) := by
  have s0 : 0 ≤ a.sum := sum_nn fun x hx => (h.2.2 x hx).1
  refine ⟨h, ⟨by simp, by have := h.2.1; simp; omega, fun x hx => ?_⟩, by simp [hl], ?_⟩
  · rcases List.mem_cons.mp hx with rfl | hx
    · exact ⟨s0, hs⟩
    · rw [(List.mem_replicate.mp hx).2]
      omega
  · rw [List.sum_cons]
    have : ∀ n : Nat, (List.replicate n (0 : Int)).sum = 0 := fun n => by
      induction n with
      | zero => rfl
      | succ n ih => rw [List.replicate_succ, List.sum_cons, ih]; rfl
    rw [this]
    omega
end MJ
end
section
set_option autoImplicit false
namespace MJ
/-! conjugates: the more even one's is less even; twice is the list -/
theorem le_iff_exc {a b : List Int} (h : Al a b) {L : Nat} (hb : ∀ x ∈ b, x ≤ (L : Int)) : Le a b ↔ ∀ j : Nat, j ≤ L → exc a (j : Int) ≤ exc b (j : Int) := by
  constructor
  · intro k j _
    have := exc_le_of_le (dn_dn a) (le_dn_l k) (by rw [dn_len, h.ln]) (j := (j : Int)) (by omega)
    rwa [exc_perm (dn_perm a)] at this
  · intro k i hi
    by_cases hl : i < a.length
    · have hb' : i < (dn b).length := by rw [dn_len, ← h.ln]; exact hl
      have hm := (dn_perm b).mem_iff.mp (List.getElem_mem hb')
      have h0 := (h.gb.2.2 _ hm).1
      have h1 := hb _ hm
      have e1 := P_met (dn b) (dn_dn b) i hb'
      have e2 := P_le_exc ((dn b)[i]) h0 (dn a) i
      have e3 := k ((dn b)[i]).toNat (by omega)
      rw [Int.toNat_of_nonneg h0] at e3
      rw [exc_perm (dn_perm a)] at e2
      rw [exc_perm (dn_perm b)] at e1
      omega
    · rw [P_len _ _ (by rw [dn_len]; omega), P_len _ _ (by rw [dn_len, ← h.ln]; omega), dn_sum, dn_sum, h.sm]
      exact Int.le_refl _
theorem conj_le {a b : List Int} (h : Al a b) {L : Nat} (ha : ∀ x ∈ a, x ≤ (L : Int)) (hb : ∀ x ∈ b, x ≤ (L : Int)) : Le (conj b L) (conj a L) ↔ Le a b := by
  have na := fun x hx => (h.ga.2.2 x hx).1
  have nb := fun x hx => (h.gb.2.2 x hx).1
  rw [le_iff_exc h hb]
  unfold Le
  rw [conj_len, dn_self (conj_dn na L), dn_self (conj_dn nb L)]
  constructor
  · intro k j hj
    have := k j hj
    rw [P_conj na L j hj, P_conj nb L j hj] at this
    have := h.sm
    omega
  · intro k j hj
    have := k j hj
    rw [P_conj na L j hj, P_conj nb L j hj]
    have := h.sm
    omega
theorem dn_filter : ∀ {d : List Int}, Dn d → ∀ v : Int, d.filter (fun x => decide (v ≤ x)) = d.take (d.filter fun x => decide (v ≤ x)).length ∧ ∀ (i : Nat) (h : i < d.length), v ≤ d[i] ↔ i < (d.filter fun x => decide (v ≤ x)).length
  | [], _, v => ⟨rfl, fun i h => absurd h (by simp)⟩
  | x :: r, hd, v => by
    obtain ⟨hx, hr⟩ := List.pairwise_cons.mp hd
    obtain ⟨e1, e2⟩ := dn_filter hr v
    by_cases hv : v ≤ x
    · rw [List.filter_cons_of_pos (by simpa using hv)]
      refine ⟨by rw [List.length_cons, List.take_succ_cons, ← e1], fun i h => ?_⟩
      cases i with
      | zero => simp [hv]
      | succ i => simpa using e2 i (by simpa using h)
    · have : r.filter (fun x => decide (v ≤ x)) = [] := List.filter_eq_nil_iff.mpr fun y hy hd => by
        have := hx y hy
        have := of_decide_eq_true hd
        omega
      rw [List.filter_cons_of_neg (by simpa using hv), this]
      refine ⟨rfl, fun i h => ?_⟩
      have : (x :: r)[i] ≤ x := by
        cases i with
        | zero => simp
        | succ i => simpa using hx _ (List.getElem_mem (by simpa using h))
      simp
      omega
theorem range_below (v : Int) : ∀ t : Nat, ((List.range t).filter fun (k : Nat) => decide (1 + (k : Int) ≤ v)).length = min t v.toNat
  | 0 => by simp
  | t + 1 => by
    rw [List.range_succ, List.filter_append, List.length_append, range_below v t]
    by_cases h : 1 + (t : Int) ≤ v
    · rw [List.filter_cons_of_pos (by simpa using h)]
      simp
      omega
    · rw [List.filter_cons_of_neg (by simpa using h)]
      simp
      omega
theorem conj_twice {a : List Int} (ha : ∀ x ∈ a, 0 ≤ x) {t : Nat} (ht : ∀ x ∈ a, x ≤ (t : Int)) : conj (conj a t) (a.filter fun x => decide (1 ≤ x)).length = (dn a).filter fun x => decide (1 ≤ x) := by
  have cnt : ∀ v : Int, (a.filter fun x => decide (v ≤ x)).length = ((dn a).filter fun x => decide (v ≤ x)).length := fun v => ((dn_perm a).filter _).length_eq.symm
  obtain ⟨e1, e2⟩ := dn_filter (dn_dn a) 1
  apply List.ext_getElem
  · rw [conj_len, cnt]
  · intro i h1 h2
    rw [conj_len, cnt] at h1
    have hi : i < (dn a).length := Nat.lt_of_lt_of_le h1 (List.length_filter_le _ _)
    have eR : ((dn a).filter fun x => decide (1 ≤ x))[i] = (dn a)[i] := by
      have : ((dn a).filter fun x => decide (1 ≤ x))[i]? = (dn a)[i]? := by
        rw [e1, List.getElem?_take, if_pos h1]
      rw [List.getElem?_eq_getElem h2, List.getElem?_eq_getElem hi] at this
      exact Option.some.inj this
    rw [eR]
    have hm := (dn_perm a).mem_iff.mp (List.getElem_mem hi)
    have h0 := ha _ hm
    have ht' := ht _ hm
    simp only [conj, List.getElem_map, List.getElem_range, List.filter_map, List.length_map]
    have : ((List.range t).filter ((fun x => decide (1 + (i : Int) ≤ x)) ∘ fun (k : Nat) => ((a.filter fun x => decide (1 + (k : Int) ≤ x)).length : Int))) = (List.range t).filter fun (k : Nat) => decide (1 + (k : Int) ≤ (dn a)[i]) := by
      apply List.filter_congr
      intro k _
      have c := cnt (1 + (k : Int))
      have := (dn_filter (dn_dn a) (1 + (k : Int))).2 i hi
      show decide (1 + (i : Int) ≤ ((a.filter fun x => decide (1 + (k : Int) ≤ x)).length : Int)) = _
      rw [decide_eq_decide, this]
      omega
    rw [this, range_below]
    omega
theorem psum_meet {a b : List Int} (h : a.length = b.length) : psum 0 (dn (meet a b)) = List.zipWith min (psum 0 (dn a)) (psum 0 (dn b)) := by
  rw [dn_self (meet_dn h)]
  exact psum_diffs _ _
theorem conj_take {a : List Int} {L M : Nat} (h : L ≤ M) : (conj a M).take L = conj a L := by
  unfold conj
  rw [← List.map_take, List.take_range, Nat.min_eq_left h]
end MJ
end
section
set_option autoImplicit false
namespace MJ
/-! rooms (Erdos, Gallai) -/
def cap (k : Int) (l : List Int) : Int := (l.map fun x => min x k).sum
def room (c : List Int) (k : Nat) : Int := (k : Int) * ((k : Int) - 1) + cap k ((dn c).drop k) - ((dn c).take k).sum
theorem cap_le (k : Int) : ∀ (l : List Int) (j : Nat), j ≤ l.length → cap k l ≤ k * j + (l.drop j).sum
  | [], j, h => by
    have : j = 0 := by simpa using h
    subst this
    simp [cap]
  | x :: l, 0, _ => by
    have := cap_le k l 0 (Nat.zero_le _)
    simp only [cap, List.map_cons, List.sum_cons, List.drop_zero] at *
    have h : k * ((0 : Nat) : Int) = 0 := by simp
    rw [h] at *
    omega
  | x :: l, j + 1, h => by
    have := cap_le k l j (by simpa using h)
    simp only [cap, List.map_cons, List.sum_cons, List.drop_succ_cons] at *
    have e : k * ((j + 1 : Nat) : Int) = k * (j : Int) + k := by rw [Int.natCast_add, Int.mul_add]; simp
    rw [e]
    omega
theorem cap_low {k : Int} : ∀ {l : List Int}, (∀ x ∈ l, x ≤ k) → cap k l = l.sum
  | [], _ => rfl
  | x :: l, h => by
    have h1 := h x List.mem_cons_self
    have := cap_low fun y hy => h y (List.mem_cons_of_mem _ hy)
    simp only [cap, List.map_cons, List.sum_cons] at *
    omega
theorem cap_met {k : Int} : ∀ {l : List Int}, Dn l → ∃ j : Nat, j ≤ l.length ∧ cap k l = k * j + (l.drop j).sum
  | [], _ => ⟨0, Nat.le_refl _, by simp [cap]⟩
  | x :: l, h => by
    obtain ⟨h1, h2⟩ := List.pairwise_cons.mp h
    by_cases hx : x ≤ k
    · refine ⟨0, Nat.zero_le _, ?_⟩
      rw [cap_low fun y hy => (List.mem_cons.mp hy).elim (fun e => by omega) fun hy => Int.le_trans (h1 y hy) hx]
      simp
    · obtain ⟨j, hj, e⟩ := cap_met (k := k) h2
      refine ⟨j + 1, by simpa using hj, ?_⟩
      have e2 : k * ((j + 1 : Nat) : Int) = k * (j : Int) + k := by rw [Int.natCast_add, Int.mul_add]; simp
      simp only [cap, List.map_cons, List.sum_cons, List.drop_succ_cons] at *
      rw [e2]
      omega
theorem sum_split (l : List Int) (k : Nat) : (l.take k).sum + (l.drop k).sum = l.sum := by
  rw [← List.sum_append, List.take_append_drop]
theorem take_sum (l : List Int) (k : Nat) : (l.take k).sum = P l k := rfl
theorem room_mono {m a : List Int} (h : Le m a) (hl : m.length = a.length) (hs : m.sum = a.sum) {k : Nat} (hk : k ≤ m.length) : room a k ≤ room m k := by
  unfold room
  have h1 := h k hk
  rw [take_sum, take_sum]
  have dm : Dn ((dn m).drop k) := (dn_dn m).drop
  obtain ⟨j, hj, e⟩ := cap_met (k := (k : Int)) dm
  rw [List.length_drop, dn_len] at hj
  have h2 := cap_le (k : Int) ((dn a).drop k) j (by rw [List.length_drop, dn_len, ← hl]; exact hj)
  rw [List.drop_drop] at e h2
  have s1 := sum_split (dn m) (k + j)
  have s2 := sum_split (dn a) (k + j)
  have h3 := h (k + j) (by omega)
  rw [take_sum, dn_sum] at s1 s2
  rw [e]
  omega
/-! ### webs by their neighbours -/
section
variable {a : Nat → Nat → Int}
theorem sum_swap (S R : List Nat) : (S.map fun v => (R.map fun u => a v u).sum).sum = (R.map fun u => (S.map fun v => a v u).sum).sum := by
  induction S with
  | nil => induction R with
    | nil => rfl
    | cons u R ih => simpa using ih
  | cons v S ih =>
    rw [List.map_cons, List.sum_cons, ih]
    clear ih
    induction R with
    | nil => rfl
    | cons u R ih =>
      simp only [List.map_cons, List.sum_cons] at *
      omega
theorem sum_le_of {f g : Nat → Int} : ∀ {S : List Nat}, (∀ v ∈ S, f v ≤ g v) → (S.map f).sum ≤ (S.map g).sum
  | [], _ => Int.le_refl _
  | v :: S, h => by
    have := h v List.mem_cons_self
    have := sum_le_of fun u hu => h u (List.mem_cons_of_mem _ hu)
    simp only [List.map_cons, List.sum_cons]
    omega
theorem sum_const (S : List Nat) (c : Int) : (S.map fun _ => c).sum = S.length * c := by
  induction S with
  | nil => simp
  | cons v S ih =>
    rw [List.map_cons, List.sum_cons, ih, List.length_cons, Int.natCast_add, Int.add_mul]
    simp
    omega
theorem sum_le_len (h01 : ∀ v u, 0 ≤ a v u ∧ a v u ≤ 1) (v : Nat) : ∀ S : List Nat, 0 ≤ (S.map fun u => a v u).sum ∧ (S.map fun u => a v u).sum ≤ S.length
  | [] => by simp
  | u :: S => by
    have := h01 v u
    have := sum_le_len h01 v S
    simp only [List.map_cons, List.sum_cons, List.length_cons]
    omega
theorem sum_lt_len (h01 : ∀ v u, 0 ≤ a v u ∧ a v u ≤ 1) (hir : ∀ v, a v v = 0) (v : Nat) : ∀ S : List Nat, v ∈ S → (S.map fun u => a v u).sum ≤ (S.length : Int) - 1
  | u :: S, h => by
    simp only [List.map_cons, List.sum_cons, List.length_cons]
    rcases List.mem_cons.mp h with rfl | h
    · have := hir v
      have := (sum_le_len h01 v S).2
      omega
    · have := h01 v u
      have := sum_lt_len h01 hir v S h
      omega
/-- of any web: the first ones' counts -/
theorem eg_lists (h01 : ∀ v u, 0 ≤ a v u ∧ a v u ≤ 1) (hir : ∀ v, a v v = 0) (hsy : ∀ v u, a v u = a u v) (S R : List Nat) :
    (S.map fun v => ((S ++ R).map fun u => a v u).sum).sum ≤ (S.length : Int) * ((S.length : Int) - 1) + (R.map fun u => min ((S ++ R).map fun v => a u v).sum (S.length : Int)).sum := by
  have e1 : (S.map fun v => ((S ++ R).map fun u => a v u).sum).sum = (S.map fun v => (S.map fun u => a v u).sum).sum + (S.map fun v => (R.map fun u => a v u).sum).sum := by
    have : ∀ T : List Nat, (T.map fun v => ((S ++ R).map fun u => a v u).sum).sum = (T.map fun v => (S.map fun u => a v u).sum).sum + (T.map fun v => (R.map fun u => a v u).sum).sum := fun T => by
      induction T with
      | nil => rfl
      | cons v T ih =>
        simp only [List.map_cons, List.sum_cons]
        rw [ih, List.map_append, List.sum_append]
        omega
    exact this S
  have b1 : (S.map fun v => (S.map fun u => a v u).sum).sum ≤ (S.length : Int) * ((S.length : Int) - 1) := by
    refine Int.le_trans (sum_le_of fun v hv => sum_lt_len h01 hir v S hv) ?_
    rw [sum_const]
    exact Int.le_refl _
  have b2 : (S.map fun v => (R.map fun u => a v u).sum).sum ≤ (R.map fun u => min ((S ++ R).map fun v => a u v).sum (S.length : Int)).sum := by
    rw [sum_swap]
    refine sum_le_of fun u hu => ?_
    have e : (S.map fun v => a v u) = S.map fun v => a u v := List.map_congr_left fun v _ => hsy v u
    rw [e, List.map_append, List.sum_append]
    have := sum_le_len h01 u S
    have := sum_le_len h01 u R
    omega
  omega
/-- the counts of a web have room -/
theorem room_web (h01 : ∀ v u, 0 ≤ a v u ∧ a v u ≤ 1) (hir : ∀ v, a v v = 0) (hsy : ∀ v u, a v u = a u v) (n : Nat) {k : Nat} (hk : k ≤ n) : 0 ≤ room ((List.range n).map fun v => ((List.range n).map fun u => a v u).sum) k := by
  generalize hcv : (fun v => ((List.range n).map fun u => a v u).sum) = cv
  let idx := (List.range n).mergeSort fun i j => decide (cv j ≤ cv i)
  have hperm : idx.Perm (List.range n) := List.mergeSort_perm _ _
  have hdn : dn ((List.range n).map cv) = idx.map cv := by
    unfold dn
    rw [List.map_mergeSort (f := cv) (r := fun i j => decide (cv j ≤ cv i)) (s := fun x y => decide (y ≤ x)) fun _ _ _ _ => rfl]
  have hlen : idx.length = n := by rw [hperm.length_eq, List.length_range]
  have hc : ∀ v, cv v = ((idx.take k ++ idx.drop k).map fun u => a v u).sum := fun v => by
    rw [List.take_append_drop, ← hcv]
    exact perm_sum (hperm.symm.map _)
  have := eg_lists h01 hir hsy (idx.take k) (idx.drop k)
  have hk' : (idx.take k).length = k := by rw [List.length_take, hlen]; omega
  rw [hk'] at this
  unfold room cap
  rw [hdn, ← List.map_take, ← List.map_drop, List.map_map]
  have f1 : (idx.take k).map cv = (idx.take k).map fun v => ((idx.take k ++ idx.drop k).map fun u => a v u).sum := List.map_congr_left fun v _ => hc v
  have f2 : ((idx.drop k).map ((fun x => min x (k : Int)) ∘ cv)) = (idx.drop k).map fun u => min ((idx.take k ++ idx.drop k).map fun v => a u v).sum (k : Int) := List.map_congr_left fun v _ => by
    show min (cv v) (k : Int) = _
    rw [hc v]
  rw [f1, f2]
  omega
end
/-! ### pairs -/
def adj (ps : List (Nat × Nat)) (v u : Nat) : Int := if v ≠ u ∧ (min v u, max v u) ∈ ps then 1 else 0
theorem adj01 (ps : List (Nat × Nat)) (v u : Nat) : 0 ≤ adj ps v u ∧ adj ps v u ≤ 1 := by
  unfold adj
  split <;> omega
theorem adj_irr (ps : List (Nat × Nat)) (v : Nat) : adj ps v v = 0 := by
  unfold adj
  rw [if_neg fun h => h.1 rfl]
theorem adj_symm (ps : List (Nat × Nat)) (v u : Nat) : adj ps v u = adj ps u v := by
  unfold adj
  rw [Nat.min_comm, Nat.max_comm]
  by_cases h : v = u
  · subst h; rfl
  · have h' : u ≠ v := fun e => h e.symm
    simp [h, h']
/-- pairs of n persons -/
def Prs (n : Nat) (ps : List (Nat × Nat)) : Prop := ps.Nodup ∧ ∀ p ∈ ps, p.1 < p.2 ∧ p.2 < n
def has (v : Nat) (p : Nat × Nat) : Bool := decide (p.1 = v) || decide (p.2 = v)
theorem sum_one {n : Nat} {f : Nat → Int} {w : Nat} (hw : w < n) (h1 : f w = 1) (h0 : ∀ u, u ≠ w → f u = 0) : ((List.range n).map f).sum = 1 := by
  induction n with
  | zero => omega
  | succ n ih =>
    rw [List.range_succ, List.map_append, List.sum_append]
    simp only [List.map_cons, List.map_nil, List.sum_cons, List.sum_nil]
    by_cases e : w = n
    · subst e
      have : ((List.range w).map f).sum = 0 := by
        have : (List.range w).map f = (List.range w).map fun _ => (0 : Int) := List.map_congr_left fun u hu => h0 u (by have := List.mem_range.mp hu; omega)
        rw [this, sum_const]
        simp
      omega
    · rw [ih (by omega), h0 n (fun z => e z.symm)]
      rfl
theorem sum_zero {f : Nat → Int} {S : List Nat} (h0 : ∀ u ∈ S, f u = 0) : (S.map f).sum = 0 := by
  rw [List.map_congr_left (g := fun _ => (0 : Int)) h0, sum_const]
  simp
theorem adj_sum {n : Nat} : ∀ {ps : List (Nat × Nat)}, Prs n ps → ∀ v, v < n → ((List.range n).map fun u => adj ps v u).sum = ((ps.filter (has v)).length : Int)
  | [], _, v, _ => by
    rw [sum_zero fun u _ => by simp [adj]]
    rfl
  | p :: ps, ⟨hn, hp⟩, v, hv => by
    obtain ⟨hnp, hn⟩ := List.nodup_cons.mp hn
    have ih := adj_sum ⟨hn, fun q hq => hp q (List.mem_cons_of_mem _ hq)⟩ v hv
    obtain ⟨p1, p2⟩ := hp p List.mem_cons_self
    have split : ∀ u, adj (p :: ps) v u = adj ps v u + if v ≠ u ∧ (min v u, max v u) = p then 1 else 0 := fun u => by
      unfold adj
      by_cases h1 : v ≠ u
      · by_cases h2 : (min v u, max v u) = p
        · rw [if_pos ⟨h1, by rw [h2]; exact List.mem_cons_self⟩, if_neg fun z => hnp (by rw [← h2]; exact z.2), if_pos ⟨h1, h2⟩]
          rfl
        · rw [if_neg (c := v ≠ u ∧ (min v u, max v u) = p) fun z => h2 z.2]
          by_cases h3 : (min v u, max v u) ∈ ps
          · rw [if_pos ⟨h1, List.mem_cons_of_mem _ h3⟩, if_pos ⟨h1, h3⟩]
            rfl
          · rw [if_neg fun z => (List.mem_cons.mp z.2).elim h2 h3, if_neg fun z => h3 z.2]
            rfl
      · rw [if_neg fun z => h1 z.1, if_neg fun z => h1 z.1, if_neg fun z => h1 z.1]
        rfl
    have es : ((List.range n).map fun u => adj (p :: ps) v u).sum = ((List.range n).map fun u => adj ps v u).sum + ((List.range n).map fun u => if v ≠ u ∧ (min v u, max v u) = p then (1 : Int) else 0).sum := by
      have : ∀ T : List Nat, (T.map fun u => adj (p :: ps) v u).sum = (T.map fun u => adj ps v u).sum + (T.map fun u => if v ≠ u ∧ (min v u, max v u) = p then (1 : Int) else 0).sum := fun T => by
        induction T with
        | nil => rfl
        | cons u T ih =>
          simp only [List.map_cons, List.sum_cons]
          rw [ih, split u]
          omega
      exact this _
    rw [es, ih]
    by_cases hh : has v p = true
    · rw [List.filter_cons_of_pos hh, List.length_cons]
      have hh' : p.1 = v ∨ p.2 = v := by simpa [has] using hh
      rcases hh' with e | e
      · rw [sum_one (w := p.2) p2 (by rw [if_pos ⟨by omega, by ext <;> simp <;> omega⟩]) fun u hu => by
          rw [if_neg fun z => hu (by
            have := congrArg Prod.snd z.2
            simp only at this
            have := congrArg Prod.fst z.2
            simp only at this
            omega)]]
        omega
      · rw [sum_one (w := p.1) (by omega) (by rw [if_pos ⟨by omega, by ext <;> simp <;> omega⟩]) fun u hu => by
          rw [if_neg fun z => hu (by
            have := congrArg Prod.snd z.2
            simp only at this
            have := congrArg Prod.fst z.2
            simp only at this
            omega)]]
        omega
    · rw [List.filter_cons_of_neg hh]
      have hh' : p.1 ≠ v ∧ p.2 ≠ v := by simpa [has] using hh
      rw [sum_zero fun u _ => by
        rw [if_neg fun z => by
          have h1 := congrArg Prod.snd z.2
          simp only at h1
          have h2 := congrArg Prod.fst z.2
          simp only at h2
          omega]]
      omega
/-- the counts of pairs -/
def counts (n : Nat) (ps : List (Nat × Nat)) : List Int := (List.range n).map fun v => ((ps.filter (has v)).length : Int)
theorem counts_len (n : Nat) (ps : List (Nat × Nat)) : (counts n ps).length = n := by simp [counts]
theorem counts_room {n : Nat} {ps : List (Nat × Nat)} (h : Prs n ps) {k : Nat} (hk : k ≤ n) : 0 ≤ room (counts n ps) k := by
  have := room_web (a := adj ps) (adj01 ps) (adj_irr ps) (adj_symm ps) n hk
  have e : counts n ps = (List.range n).map fun v => ((List.range n).map fun u => adj ps v u).sum := List.map_congr_left fun v hv => (adj_sum h v (List.mem_range.mp hv)).symm
  rw [e]
  exact this
theorem counts_sum {n : Nat} : ∀ {ps : List (Nat × Nat)}, Prs n ps → (counts n ps).sum = 2 * (ps.length : Int)
  | [], _ => by
    unfold counts
    rw [sum_zero fun u _ => by simp]
    simp
  | p :: ps, ⟨hn, hp⟩ => by
    obtain ⟨hnp, hn⟩ := List.nodup_cons.mp hn
    have ih := counts_sum (n := n) ⟨hn, fun q hq => hp q (List.mem_cons_of_mem _ hq)⟩
    obtain ⟨p1, p2⟩ := hp p List.mem_cons_self
    have es : (counts n (p :: ps)).sum = (counts n ps).sum + (((List.range n).map fun v => if v = p.1 then (1 : Int) else 0).sum + ((List.range n).map fun v => if v = p.2 then (1 : Int) else 0).sum) := by
      have : ∀ T : List Nat, (T.map fun v => (((p :: ps).filter (has v)).length : Int)).sum = (T.map fun v => ((ps.filter (has v)).length : Int)).sum + ((T.map fun v => if v = p.1 then (1 : Int) else 0).sum + (T.map fun v => if v = p.2 then (1 : Int) else 0).sum) := fun T => by
        induction T with
        | nil => rfl
        | cons u T ih =>
          simp only [List.map_cons, List.sum_cons]
          rw [ih]
          by_cases h1 : u = p.1
          · rw [if_pos h1, if_neg (by omega), List.filter_cons_of_pos (by simp [has, h1]), List.length_cons]
            omega
          · by_cases h2 : u = p.2
            · rw [if_neg h1, if_pos h2, List.filter_cons_of_pos (by simp [has, h2]), List.length_cons]
              omega
            · rw [if_neg h1, if_neg h2, List.filter_cons_of_neg (by simp [has]; omega)]
              omega
      exact this _
    rw [es, ih, sum_one (w := p.1) (by omega) (if_pos rfl) fun u hu => if_neg hu, sum_one (w := p.2) p2 (if_pos rfl) fun u hu => if_neg hu, List.length_cons]
    omega
theorem counts_bound {n : Nat} {ps : List (Nat × Nat)} (h : Prs n ps) : ∀ x ∈ counts n ps, 0 ≤ x ∧ x ≤ (n : Int) - 1 := fun x hx => by
  obtain ⟨v, hv, rfl⟩ := List.mem_map.mp hx
  have hv := List.mem_range.mp hv
  rw [← adj_sum h v hv]
  have h1 := (sum_le_len (a := adj ps) (adj01 ps) v (List.range n)).1
  have h2 := sum_lt_len (a := adj ps) (adj01 ps) (adj_irr ps) v (List.range n) (List.mem_range.mpr hv)
  rw [List.length_range] at h2
  exact ⟨h1, h2⟩
end MJ
end
section
set_option autoImplicit false
namespace MJ
/-! a transfer; the flat list; laying off from the flat list -/
theorem sum_set (l : List Int) (i : Nat) (v : Int) (h : i < l.length) : (l.set i v).sum = l.sum - l[i] + v := by
  induction l generalizing i with
  | nil => simp at h
  | cons x l ih =>
    cases i with
    | zero => simp [List.sum_cons]; omega
    | succ i =>
      rw [List.set_cons_succ, List.sum_cons, List.sum_cons, ih i (by simpa using h), List.getElem_cons_succ]
      omega
def shift (l : List Int) (g t : Nat) : List Int := (l.set g (l.getD g 0 - 1)).set t (l.getD t 0 + 1)
theorem getD_at {l : List Int} {i : Nat} (h : i < l.length) : l.getD i 0 = l[i] := by simp [List.getD_eq_getElem?_getD, h]
theorem shift_map (f : Int → Int) {l : List Int} {g t : Nat} (hg : g < l.length) (ht : t < l.length) (hne : g ≠ t) : ((shift l g t).map f).sum = (l.map f).sum - f l[g] - f l[t] + f (l[g] - 1) + f (l[t] + 1) := by
  unfold shift
  rw [getD_at hg, getD_at ht, List.map_set, List.map_set, sum_set _ _ _ (by simpa using ht), sum_set _ _ _ (by simpa using hg), List.getElem_set_ne hne, List.getElem_map, List.getElem_map]
  omega
theorem shift_al {l : List Int} (h : Gd l) {g t : Nat} (hg : g < l.length) (ht : t < l.length) (hd : l[t] + 2 ≤ l[g]) : Al l (shift l g t) := by
  have hne : g ≠ t := fun e => by subst e; omega
  have b1 := h.2.2 _ (List.getElem_mem hg)
  have b2 := h.2.2 _ (List.getElem_mem ht)
  refine ⟨h, ⟨by simpa [shift] using h.1, by simpa [shift] using h.2.1, fun x hx => ?_⟩, by simp [shift], ?_⟩
  · unfold shift at hx
    rw [getD_at hg, getD_at ht] at hx
    rcases List.mem_or_eq_of_mem_set hx with hx | rfl
    · rcases List.mem_or_eq_of_mem_set hx with hx | rfl
      · exact h.2.2 x hx
      · omega
    · omega
  · have := shift_map id hg ht hne
    simp only [List.map_id, id] at this
    omega
theorem shift_le {l : List Int} (h : Gd l) {g t : Nat} (hg : g < l.length) (ht : t < l.length) (hd : l[t] + 2 ≤ l[g]) : Le (shift l g t) l := by
  have hne : g ≠ t := fun e => by subst e; omega
  rw [le_iff_exc (shift_al h hg ht hd).symm (L := 40) fun x hx => (h.2.2 x hx).2]
  intro j _
  unfold exc
  rw [shift_map _ hg ht hne]
  omega
/-- the flat list -/
def fl (s : Int) (n : Nat) : List Int := (List.range n).map fun (i : Nat) => s / (n : Int) + if (i : Int) < s - s / (n : Int) * (n : Int) then 1 else 0
theorem fl_len (s : Int) (n : Nat) : (fl s n).length = n := by simp [fl]
theorem fl_dn (s : Int) (n : Nat) : Dn (fl s n) := dn_of_step _ fun i h => by
  simp only [fl, List.getElem_map, List.getElem_range]
  split <;> split <;> omega
theorem fl_sum (s : Int) (n : Nat) (hn : 0 < n) : (fl s n).sum = s := by
  have hm := Int.emod_nonneg s (show (n : Int) ≠ 0 by omega)
  have hl := Int.emod_lt_of_pos s (show (0 : Int) < n by omega)
  have hd := Int.mul_ediv_add_emod s n
  have hc : s / (n : Int) * (n : Int) = (n : Int) * (s / (n : Int)) := Int.mul_comm _ _
  have go : ∀ k : Nat, k ≤ n → ((List.range k).map fun (i : Nat) => s / (n : Int) + if (i : Int) < s - s / (n : Int) * (n : Int) then 1 else 0).sum = (k : Int) * (s / (n : Int)) + min (k : Int) (s - s / (n : Int) * (n : Int)) := by
    intro k
    induction k with
    | zero => intro _; simp; omega
    | succ k ih =>
      intro hk
      rw [List.range_succ, List.map_append, List.sum_append, ih (by omega)]
      simp only [List.map_cons, List.map_nil, List.sum_cons, List.sum_nil]
      have : ((k + 1 : Nat) : Int) * (s / (n : Int)) = (k : Int) * (s / (n : Int)) + s / (n : Int) := by
        rw [Int.natCast_add, Int.add_mul]
        simp
      rw [this]
      split <;> omega
  unfold fl
  rw [go n (Nat.le_refl _)]
  omega
/-- a list in order whose numbers differ by one at most is flat -/
theorem fl_of {l : List Int} (h1 : 1 ≤ l.length) (hd : Dn l) (h : ∀ (i j : Nat) (hi : i < l.length) (hj : j < l.length), l[i] < l[j] + 2) : l = fl l.sum l.length := by
  obtain ⟨n, hn⟩ : ∃ n, l.length = n := ⟨_, rfl⟩
  rw [hn] at h1
  rw [hn]
  have hz : n - 1 < l.length := by omega
  generalize hq : l[n - 1] = q
  have two : ∀ (i : Nat) (hi : i < l.length), l[i] = q ∨ l[i] = q + 1 := fun i hi => by
    have a := h i (n - 1) (by omega) (by omega)
    have b := dn_get hd (i := i) (j := n - 1) (by omega) hz
    omega
  -- how many are q + 1
  have ex : ∀ m : Nat, m ≤ n → ∃ r : Nat, r ≤ m ∧ (∀ (i : Nat) (hi : i < l.length), i < m → (l[i] = q + 1 ↔ i < r)) ∧ P l m = (m : Int) * q + r := by
    intro m
    induction m with
    | zero => exact fun _ => ⟨0, Nat.le_refl _, fun i hi h => by omega, by rw [P_zero]; simp⟩
    | succ m ih =>
      intro hm
      obtain ⟨r, hr, h1, h2⟩ := ih (by omega)
      have hml : m < l.length := by omega
      have e := P_succ l m hml
      have em : ((m + 1 : Nat) : Int) * q = (m : Int) * q + q := by rw [Int.natCast_add, Int.add_mul]; simp
      rcases two m hml with hv | hv
      · refine ⟨r, by omega, fun i hi him => ?_, by rw [e, h2, hv, em]; omega⟩
        by_cases hic : i < m
        · exact h1 i hi hic
        · have : i = m := by omega
          subst this
          constructor
          · intro z; omega
          · intro z; omega
      · have hrm : r = m := by
          rcases Nat.lt_or_ge r m with hlt | hge
          · exfalso
            have a := dn_get hd (i := r) (j := m) (by omega) hml
            have b := two r (by omega)
            have c := (h1 r (by omega) hlt).mp (by omega)
            omega
          · omega
        subst hrm
        refine ⟨r + 1, Nat.le_refl _, fun i hi him => ?_, by rw [e, h2, hv, em]; omega⟩
        constructor
        · intro _; omega
        · intro _
          by_cases hic : i < r
          · exact (h1 i hi hic).mpr hic
          · have : i = r := by omega
            subst this
            exact hv
  obtain ⟨r, hr, h1', h2⟩ := ex n (Nat.le_refl _)
  have hs : l.sum = (n : Int) * q + r := by rw [← h2, P_len _ _ (by omega)]
  have hrn : r < n := by
    rcases Nat.lt_or_ge r n with h | h
    · exact h
    · have := (h1' (n - 1) hz (by omega)).mpr (by omega)
      omega
  have eq : l.sum / (n : Int) = q := by
    rw [hs, Int.add_comm, Int.add_mul_ediv_left _ _ (by omega), Int.ediv_eq_zero_of_lt (by omega) (by omega)]
    omega
  apply List.ext_getElem
  · rw [fl_len, hn]
  · intro i a b
    simp only [fl, List.getElem_map, List.getElem_range]
    rw [eq, hs]
    have e2 : (n : Int) * q + (r : Int) - q * (n : Int) = r := by rw [Int.mul_comm]; omega
    rw [e2]
    have h3 := h1' i a (by omega)
    have h4 := two i a
    split
    · exact h3.mpr (by omega)
    · rcases h4 with h4 | h4
      · omega
      · have := h3.mp h4
        omega
/-- the room of a list in order -/
def roomD (d : List Int) (k : Nat) : Int := (k : Int) * ((k : Int) - 1) + cap k (d.drop k) - (d.take k).sum
theorem room_dn {d : List Int} (h : Dn d) (k : Nat) : room d k = roomD d k := by
  unfold room roomD
  rw [dn_self h]
set_option maxRecDepth 100000 in
theorem flat_rooms : ∀ n : Nat, n < 9 → 2 ≤ n → ∀ d : Nat, d < n * n → (decide ((2 * d : Nat) ≤ n * (n - 1)) = (List.range n).all fun k => decide (0 ≤ roomD (fl ((2 * d : Nat) : Int) n) (k + 1))) := by decide +kernel
end MJ
end
section
set_option autoImplicit false
namespace MJ
/-! laying off person by person, as a plain function -/
def lexB (a b : Int × Int) : Bool := decide (a.1 < b.1 ∨ (a.1 = b.1 ∧ a.2 ≤ b.2))
def ins (x : Int × Int) : List (Int × Int) → List (Int × Int)
  | [] => [x]
  | y :: l => if lexB x y then x :: y :: l else y :: ins x l
def isort : List (Int × Int) → List (Int × Int)
  | [] => []
  | x :: l => ins x (isort l)
theorem lexB_iff {a b : Int × Int} : lexB a b = true ↔ (a.1 < b.1 ∨ (a.1 = b.1 ∧ a.2 ≤ b.2)) := decide_eq_true_iff
theorem lexB_total (a b : Int × Int) : lexB a b = true ∨ lexB b a = true := by
  rw [lexB_iff, lexB_iff]
  omega
theorem lexB_trans {a b c : Int × Int} (h : lexB a b = true) (k : lexB b c = true) : lexB a c = true := by
  rw [lexB_iff] at *
  omega
theorem ins_perm (x : Int × Int) : ∀ l, (ins x l).Perm (x :: l)
  | [] => List.Perm.refl _
  | y :: l => by
    unfold ins
    split
    · exact List.Perm.refl _
    · exact ((ins_perm x l).cons y).trans (List.Perm.swap x y l)
theorem isort_perm : ∀ l, (isort l).Perm l
  | [] => List.Perm.refl _
  | x :: l => (ins_perm x _).trans ((isort_perm l).cons x)
theorem ins_sorted (x : Int × Int) : ∀ {l}, l.Pairwise (fun a b => lexB a b = true) → (ins x l).Pairwise (fun a b => lexB a b = true)
  | [], _ => by simp [ins]
  | y :: l, h => by
    obtain ⟨h1, h2⟩ := List.pairwise_cons.mp h
    unfold ins
    split
    · rename_i hb
      refine List.pairwise_cons.mpr ⟨fun z hz => ?_, h⟩
      rcases List.mem_cons.mp hz with rfl | hz
      · exact hb
      · exact lexB_trans hb (h1 z hz)
    · rename_i hb
      refine List.pairwise_cons.mpr ⟨fun z hz => ?_, ins_sorted x h2⟩
      rcases List.mem_cons.mp ((ins_perm x l).mem_iff.mp hz) with rfl | hz
      · exact (lexB_total y z).resolve_right hb
      · exact h1 z hz
theorem isort_sorted : ∀ l, (isort l).Pairwise (fun a b => lexB a b = true)
  | [] => List.Pairwise.nil
  | x :: l => ins_sorted x (isort_sorted l)
theorem merge_isort (l : List (Int × Int)) : l.mergeSort lexB = isort l := by
  refine List.Perm.eq_of_pairwise (le := fun a b => lexB a b = true) (fun a b _ _ h1 h2 => ?_) (List.pairwise_mergeSort (le := lexB) (fun a b c h k => lexB_trans h k) (fun a b => by rcases lexB_total a b with h | h <;> simp [h]) l) (isort_sorted l) ((List.mergeSort_perm l _).trans (isort_perm l).symm)
  rw [lexB_iff] at h1 h2
  exact Prod.ext (by omega) (by omega)
def mx : List Int → Int
  | [] => 0
  | n :: r => r.foldl max n
/-- who can be met: the number met, with a minus, and the person -/
def open1 (c : List Int) (p : Nat) : List (Int × Int) := (c.zipIdx.filter fun q => decide (q.2 ≠ p) && decide (0 < q.1)).map fun q => (0 - q.1, (q.2 : Int))
def lot1 (c : List Int) (p : Nat) : List Int := ((isort (open1 c p)).take (c.getD p 0).toNat).map Prod.snd
def less1 (c : List Int) (p : Nat) (L : List Int) : List Int := (c.zipIdx.map fun q => if (q.2 : Int) ∈ L then q.1 - 1 else q.1).set p 0
def hh : Nat → List Int → Bool
  | 0, c => decide (mx c ≤ 0)
  | f + 1, c => decide (mx c ≤ 0) || (!decide (((open1 c (c.idxOf (mx c))).length : Int) < c.getD (c.idxOf (mx c)) 0) && hh f (less1 c (c.idxOf (mx c)) (lot1 c (c.idxOf (mx c)))))
set_option maxRecDepth 100000 in
theorem flat_hh : ∀ n : Nat, n < 9 → 2 ≤ n → ∀ d : Nat, d < n * n → 2 * d ≤ n * (n - 1) → hh 8 (fl ((2 * d : Nat) : Int) n) = true := by decide +kernel
theorem less1_len (c : List Int) (p : Nat) (L : List Int) : (less1 c p L).length = c.length := by simp [less1]
theorem less1_congr {c : List Int} {p : Nat} {L M : List Int} (h : L.Perm M) : less1 c p L = less1 c p M := by
  unfold less1
  congr 1
  exact List.map_congr_left fun q _ => by
    have := h.mem_iff (a := (q.2 : Int))
    by_cases hm : (q.2 : Int) ∈ L
    · rw [if_pos hm, if_pos (this.mp hm)]
    · rw [if_neg hm, if_neg fun z => hm (this.mpr z)]
end MJ
end
section
namespace K35
open PySem PySem.Spec PyProof.Rows L2 RZ HM MJ
def topS (i : Nat) : Stmt := PySem.Challenge.pw_howmanymet_k35_whole_more_even_lists_sta.main.body.getD i (.Pass ⟨0, 0, 0, 0⟩)
abbrev s_is_integer : Stmt := topS 1
theorem sc_is_integer : FnScope ["value"] ["value"] (defScope s_is_integer) := ⟨rfl, rfl, rfl, by decide +kernel, rfl, by decide +kernel, by decide +kernel⟩
abbrev s_is_within : Stmt := topS 2
theorem sc_is_within : FnScope ["value", "least", "most"] ["value", "least", "most"] (defScope s_is_within) := ⟨rfl, rfl, rfl, by decide +kernel, rfl, by decide +kernel, by decide +kernel⟩
abbrev s_is_list_value : Stmt := topS 13
theorem sc_is_list_value : FnScope ["value", "one"] ["value"] (defScope s_is_list_value) := ⟨rfl, rfl, rfl, by decide +kernel, rfl, by decide +kernel, by decide +kernel⟩
abbrev s_want_list : Stmt := topS 14
theorem sc_want_list : FnScope ["counts"] ["counts"] (defScope s_want_list) := ⟨rfl, rfl, rfl, by decide +kernel, rfl, by decide +kernel, by decide +kernel⟩
abbrev s_want_alike : Stmt := topS 17
theorem sc_want_alike : FnScope ["counts", "others"] ["counts", "others"] (defScope s_want_alike) := ⟨rfl, rfl, rfl, by decide +kernel, rfl, by decide +kernel, by decide +kernel⟩
abbrev s_down : Stmt := topS 18
theorem sc_down : FnScope ["counts"] ["counts"] (defScope s_down) := ⟨rfl, rfl, rfl, by decide +kernel, rfl, by decide +kernel, by decide +kernel⟩
abbrev s_heads : Stmt := topS 19
theorem sc_heads : FnScope ["counts", "found", "total", "one"] ["counts"] (defScope s_heads) := ⟨rfl, rfl, rfl, by decide +kernel, rfl, by decide +kernel, by decide +kernel⟩
abbrev s_are_below : Stmt := topS 20
theorem sc_are_below : FnScope ["near", "far", "one", "other"] ["near", "far"] (defScope s_are_below) := ⟨rfl, rfl, rfl, by decide +kernel, rfl, by decide +kernel, by decide +kernel⟩
abbrev s_by_heads : Stmt := topS 21
theorem sc_by_heads : FnScope ["totals", "near", "late"] ["totals"] (defScope s_by_heads) := ⟨rfl, rfl, rfl, by decide +kernel, rfl, by decide +kernel, by decide +kernel⟩
/-! mirrors -/
def isInteger (d : PyData) : Bool := d.isInt && !d.isBool
def isWithin (d : PyData) (l m : Int) : Bool := match d with
  | .int n => decide (l ≤ n) && decide (n ≤ m)
  | _ => false
def isList (d : PyData) : Bool := match d with
  | .tuple ds => decide (1 ≤ (ds.length : Int)) && decide ((ds.length : Int) ≤ 10) && ds.all fun e => isWithin e 0 40
  | _ => false
theorem gd_isList {a : List Int} (h : Gd a) : isList (tI a) = true := by
  unfold isList tI
  simp only [List.length_map, List.all_map, Bool.and_eq_true, decide_eq_true_eq, List.all_eq_true]
  refine ⟨⟨by have := h.1; omega, by have := h.2.1; omega⟩, fun x hx => ?_⟩
  have := h.2.2 x hx
  show isWithin (.int x) 0 40 = true
  simp [isWithin, this.1, this.2]
/-! promises -/
abbrev sp_is_integer (K : PySem.W.Frag) : Sp := spG K (fun xs => ∃ d, xs = [.d d]) (fun xs z => ∀ d, xs = [.d d] → z = .d (.bool (isInteger d)))
abbrev sp_is_within (K : PySem.W.Frag) : Sp := spG K (fun xs => ∃ d l m, xs = [.d d, .d (.int l), .d (.int m)]) (fun xs z => ∀ d l m, xs = [.d d, .d (.int l), .d (.int m)] → z = .d (.bool (isWithin d l m)))
abbrev sp_is_list_value (K : PySem.W.Frag) : Sp := spG K (fun xs => ∃ d, xs = [.d d]) (fun xs z => ∀ d, xs = [.d d] → z = .d (.bool (isList d)))
abbrev sp_want_list (K : PySem.W.Frag) : Sp := spG K (fun xs => ∃ d, xs = [.d d] ∧ isList d = true) (fun xs z => True)
abbrev sp_want_alike (K : PySem.W.Frag) : Sp := spG K (fun xs => ∃ a b, xs = [.d (tI a), .d (tI b)] ∧ Al a b) (fun xs z => True)
abbrev sp_down (K : PySem.W.Frag) : Sp := spG K (fun xs => ∃ a, xs = [.d (tI a)] ∧ a.length ≤ 1000) (fun xs z => ∀ a, xs = [.d (tI a)] → z = .d (tI (dn a)))
abbrev sp_heads (K : PySem.W.Frag) : Sp := spL K (fun xs => ∃ a, xs = [.d (tI a)] ∧ a.length ≤ 1000) (fun xs ys => ∀ a, xs = [.d (tI a)] → ys = (psum 0 (dn a)).map .int)
def below (a b : List Int) : Bool := (a.zip b).all fun p => decide (p.1 ≤ p.2)
abbrev sp_are_below (K : PySem.W.Frag) : Sp := spG K (fun xs => ∃ a b, xs = [.d (lI a), .d (lI b)] ∧ a.length ≤ 1000) (fun xs z => ∀ a b, xs = [.d (lI a), .d (lI b)] → z = .d (.bool (below a b)))
abbrev sp_by_heads (K : PySem.W.Frag) : Sp := spG K (fun xs => ∃ a, xs = [.d (lI a)] ∧ a.length ≤ 1000) (fun xs z => ∀ a, xs = [.d (lI a)] → z = .d (tI (diffs 0 a)))
/-- the greatest of a list, 0 of none -/
def top (a : List Int) : Int := match a with
  | [] => 0
  | n :: r => r.foldl max n
abbrev sp_conjugate_of (K : PySem.W.Frag) : Sp := spG K (fun xs => ∃ a, xs = [.d (tI a)] ∧ 1 ≤ a.length ∧ a.length ≤ 1000 ∧ 0 ≤ top a ∧ top a ≤ 1000) (fun xs z => ∀ a, xs = [.d (tI a)] → z = .d (tI (conj a (top a).toNat)))
section
variable {P : Program} {w : World} {K : PySem.W.Frag} {mg : Str → Option Value} {base : Heap}
theorem ok_is_integer {f : Addr} {fd : FuncData} (F : Fun K "is_integer" "is_integer" s_is_integer f fd) (B : Blt mg) : FnOk P w K mg base CX0 1 f fd ["value"] (sp_is_integer K) := by
  refine fnG F sc_is_integer (fun xs ⟨n, e⟩ => by rw [e]; rfl) fun cdv A outer s H E hr => ?_
  refine ⟨_, (pss_one (ps_ret (pe_and (pe_callB call_isaG (by rfl) B.n_isinstance (by decide +kernel) (pa_cons (pv 0) (pa_cons (pe_bltn (v := .ty "int") (by rfl) B.n_int (by decide +kernel) rfl) pa_nil))) (pe_one (pe_not (pe_callB call_isaG (by rfl) B.n_isinstance (by decide +kernel) (pa_cons (pv 0) (pa_cons (pe_bltn (v := .ty "bool") (by rfl) B.n_bool (by decide +kernel) rfl) pa_nil)))))))), fun xs ⟨d, e⟩ => ?_⟩
  subst e
  refine sx_retd (x := .d (.bool (isInteger d))) (ev_andd (a := d.isInt) (b := !d.isBool) ?_ fun _ => ev_notd ?_) ?_
  · exact ev_cbd (ea_consd (ev_var rfl) (ea_consd ev_raw ea_nil)) (rc_isa (.inl rfl) rfl)
  · exact ev_cbd (ea_consd (ev_var rfl) (ea_consd ev_raw ea_nil)) (rc_isa (.inl rfl) rfl)
  · intro d' e
    cases e
    rfl
theorem ok_is_within {f : Addr} {fd : FuncData} (F : Fun K "is_within" "is_within" s_is_within f fd) (B : Blt mg) (c_is_integer : Cl P w K mg base 1 "is_integer" (sp_is_integer K)) : FnOk P w K mg base CX0 2 f fd ["value", "least", "most"] (sp_is_within K) := by
  refine fnG F sc_is_within (fun xs ⟨d, l, m, e⟩ => by rw [e]; rfl) fun cdv A outer s H E hr => ?_
  have hu := hr.units
  refine ⟨_, (pss_one (ps_ret (pe_and (pe_cl c_is_integer hr (by decide) (by rfl) (pa_cons (pv 0) pa_nil)) (pe_one (pe_chain op_leG op_leG (pv 1) (pv 0) (pv 2)))))), fun xs ⟨d, l, m, e⟩ => ?_⟩
  subst e
  refine sx_retd (x := .d (.bool (isWithin d l m))) ?_ ?_
  · by_cases h : ∃ n, d = .int n
    · obtain ⟨n, rfl⟩ := h
      refine ev_andd (a := true) (b := decide (l ≤ n) && decide (n ≤ m)) ?_ fun _ => ?_
      · exact ev_calld (ea_consd (ev_var rfl) ea_nil) ⟨_, rfl⟩ fun z hz => hz _ rfl
      · exact ev_chain (ev_var rfl) (ev_var rfl) rv_le (fun _ => ev_var rfl) (fun _ => rv_le)
    · have e : isWithin d l m = (isInteger d && false) := by
        cases d <;> first | rfl | (exact absurd ⟨_, rfl⟩ h)
      rw [e]
      refine ev_andd ?_ fun hi => ?_
      · exact ev_calld (ea_consd (ev_var rfl) ea_nil) ⟨_, rfl⟩ fun z hz => hz _ rfl
      · exfalso
        cases d <;> first | (exact absurd ⟨_, rfl⟩ h) | (exact Bool.false_ne_true hi)
  · intro d' l' m' e
    cases e
    rfl
theorem ok_is_list_value {f : Addr} {fd : FuncData} (F : Fun K "is_list_value" "is_list_value" s_is_list_value f fd) (B : Blt mg) (k_MOST_PERSONS : ∃ u, mg "MOST_PERSONS" = some u ∧ RelV (.int 10) u) (k_MOST_COUNT : ∃ u, mg "MOST_COUNT" = some u ∧ RelV (.int 40) u)
    (c_is_within : Cl P w K mg base 2 "is_within" (sp_is_within K)) : FnOk P w K mg base CX0 3 f fd ["value"] (sp_is_list_value K) := by
  refine fnG F sc_is_list_value (fun xs ⟨n, e⟩ => by rw [e]; rfl) fun cdv A outer s H E hr => ?_
  have hu := hr.units
  refine ⟨_, (pss_cons (ps_if (PW.pt (pw_or (pt_not (pt_val (pe_callB call_isaG (by rfl) B.n_isinstance (by decide +kernel) (pa_cons (pv 0) (pa_cons (pe_bltn (v := .ty "tuple") (by rfl) B.n_tuple (by decide +kernel) rfl) pa_nil))))) (pw_or1 (pt_not (pt_chain op_leG op_leG pe_int (pe_callB call_lenG (by rfl) B.n_len (by decide +kernel) (pa_cons (pv 0) pa_nil)) (C8.pe_gc (by rfl) k_MOST_PERSONS))))))
      (pss_one (ps_ret pe_bl))
      pss_nil)
      (pss_one (ps_ret (pe_callB (cr_all rfl) (by rfl) B.n_all (by decide +kernel) (pa_cons (pe_lc (own := [("one", 1)]) (g := (gName 1)) (tt := tYes) (te := (tCall (sp_is_within K) [] E0 (tCons (tVar 1) (tCons (tC (.int 0)) (tCons (tC (.int 40)) tNil))))) (by rfl) sc_is_list_value.nd (pi_seq (pv 0)) (blkOk_by (own := [("one", 1)]) (by first | decide +kernel | rfl)) (fun _ _ _ _ _ => (pg_name (i := 1) sc_is_list_value.nd rfl (by first | exact Or.inl rfl | exact Or.inr rfl))) (fun _ _ _ _ _ => pts_nil) (fun _ _ _ _ _ => (pe_cl c_is_within hr (by decide) (by rfl) (pa_cons (pv 1) (pa_cons pe_int (pa_cons (C8.pe_gc (by rfl) k_MOST_COUNT) pa_nil)))))) pa_nil))))), fun xs ⟨d, e⟩ => ?_⟩
  subst e
  by_cases ht : ∃ ds, d = .tuple ds
  · obtain ⟨ds, rfl⟩ := ht
    have e1 : Ev K _ (startS ["value", "one"] [.d (.tuple ds)]) (· = .d (.bool true)) := ev_cbd (ea_consd (ev_var (i := 0) rfl) (ea_consd (ev_raw (v := .ty "tuple")) ea_nil)) (rc_isa (.inl rfl) rfl)
    have e2 : Ev K _ (startS ["value", "one"] [.d (.tuple ds)]) (· = .d (.bool (decide (1 ≤ (ds.length : Int)) && decide ((ds.length : Int) ≤ 10)))) :=
      ev_chain ev_int (ev_cbd (ea_consd (ev_var (i := 0) rfl) ea_nil) (rc_len (.inl rfl) (.inr rfl))) rv_le (fun _ => ev_int) (fun _ => rv_le)
    by_cases hl : (decide (1 ≤ (ds.length : Int)) && decide ((ds.length : Int) ≤ 10)) = true
    · rw [hl] at e2
      refine sx_ifGo (et_or2 (et_nb (et_Bd e1) rfl) (et_nb (et_testd e2) rfl)) ?_
      have hn : ds.length ≤ 10 := by
        have := (Bool.and_eq_true_iff.mp hl).2
        have := of_decide_eq_true this
        omega
      refine sx_retd (ev_allMap ds id (fun e => isWithin e 0 40) ?_ (by omega) (by simp) fun e he => ?_) ?_
      · rw [List.map_id]
        exact ei_seqT (ev_var rfl)
      · exact ev_calld (ea_consd (ev_var rfl) (ea_consd ev_int (ea_consd ev_int ea_nil))) ⟨_, _, _, rfl⟩ fun z hz => hz _ _ _ rfl
      · intro d' e
        cases e
        unfold isList
        simp only
        rw [hl, Bool.true_and]
    · rw [Bool.not_eq_true] at hl
      rw [hl] at e2
      refine sx_ifRet (et_or2 (et_nb (et_Bd e1) rfl) (et_nb (et_testd e2) rfl)) (sx_retd ev_bl ?_)
      intro d' e
      cases e
      unfold isList
      simp only
      rw [hl, Bool.false_and]
  · have hf : d.isTuple = false := by cases d <;> first | rfl | (exact absurd ⟨_, rfl⟩ ht)
    have hf2 : isList d = false := by cases d <;> first | rfl | (exact absurd ⟨_, rfl⟩ ht)
    have e1 : Ev K _ (startS ["value", "one"] [.d d]) (· = .d (.bool false)) := ev_cbd (ea_consd (ev_var (i := 0) rfl) (ea_consd (ev_raw (v := .ty "tuple")) ea_nil)) (rc_isa (.inl rfl) (by rw [← hf]; rfl))
    refine sx_ifRet (et_or1 (et_nb (et_Bd e1) rfl)) (sx_retd ev_bl ?_)
    intro d' e
    cases e
    rw [hf2]
theorem ok_want_list {f : Addr} {fd : FuncData} (F : Fun K "want_list" "want_list" s_want_list f fd) (B : Blt mg) (c_is_list_value : Cl P w K mg base 3 "is_list_value" (sp_is_list_value K)) : FnOk P w K mg base CX0 4 f fd ["counts"] (sp_want_list K) := by
  refine fnG F sc_want_list (fun xs ⟨n, e, _⟩ => by rw [e]; rfl) fun cdv A outer s H E hr => ?_
  have hu := hr.units
  refine ⟨_, (pss_one (ps_if (pt_not (pt_val (pe_cl c_is_list_value hr (by decide) (by rfl) (pa_cons (pv 0) pa_nil))))
      (pss_one ps_never)
      pss_nil)), fun xs ⟨d, e, hd⟩ => ?_⟩
  subst e
  refine sx_ifF (et_nb (et_Bd (b := true) ?_) rfl) (sx_next trivial)
  exact ev_calld (ea_consd (ev_var rfl) ea_nil) ⟨_, rfl⟩ fun z hz => by rw [hz _ rfl, hd]
theorem ok_want_alike {f : Addr} {fd : FuncData} (F : Fun K "want_alike" "want_alike" s_want_alike f fd) (B : Blt mg) (c_want_list : Cl P w K mg base 4 "want_list" (sp_want_list K)) : FnOk P w K mg base CX0 5 f fd ["counts", "others"] (sp_want_alike K) := by
  refine fnG F sc_want_alike (fun xs ⟨a, b, e, _⟩ => by rw [e]; rfl) fun cdv A outer s H E hr => ?_
  have hu := hr.units
  refine ⟨_, (pss_cons (ps_expr (pe_cl c_want_list hr (by decide) (by rfl) (pa_cons (pv 0) pa_nil)))
      (pss_cons (ps_expr (pe_cl c_want_list hr (by decide) (by rfl) (pa_cons (pv 1) pa_nil)))
      (pss_one (ps_if (PW.pt (pw_or (pt_cmpR (op_neP hu) (pe_callB (cr_sumD rfl) (by rfl) B.n_sum (by decide +kernel) (pa_cons (pv 0) pa_nil)) (pe_callB (cr_sumD rfl) (by rfl) B.n_sum (by decide +kernel) (pa_cons (pv 1) pa_nil)) (nomark _)) (pw_or1 (pt_cmpR (op_neP hu) (pe_callB call_lenG (by rfl) B.n_len (by decide +kernel) (pa_cons (pv 0) pa_nil)) (pe_callB call_lenG (by rfl) B.n_len (by decide +kernel) (pa_cons (pv 1) pa_nil)) (nomark _)))))
      (pss_one ps_never)
      pss_nil)))), fun xs ⟨a, b, e, al⟩ => ?_⟩
  subst e
  refine sx_seqd (sx_drop (ev_calld (P := fun _ => True) (ea_consd (ev_var rfl) ea_nil) ⟨_, rfl, gd_isList al.ga⟩ fun z _ => trivial) rfl) ?_
  refine sx_seqd (sx_drop (ev_calld (P := fun _ => True) (ea_consd (ev_var rfl) ea_nil) ⟨_, rfl, gd_isList al.gb⟩ fun z _ => trivial) rfl) ?_
  refine sx_ifF (et_or2 (et_testd (Ev.to (ev_opd (ev_cbd (ea_consd (ev_var rfl) ea_nil) (rc_sum (.inr (.inl rfl)))) (ev_cbd (ea_consd (ev_var rfl) ea_nil) (rc_sum (.inr (.inl rfl)))) rv_neI) ?_)) (et_testd (Ev.to (ev_opd (ev_cbd (ea_consd (ev_var rfl) ea_nil) (rc_len (.inl rfl) (.inr rfl))) (ev_cbd (ea_consd (ev_var rfl) ea_nil) (rc_len (.inl rfl) (.inr rfl))) rv_neI) ?_))) (sx_next trivial)
  · rw [al.sm, decide_eq_true rfl]
    rfl
  · rw [List.length_map, List.length_map, al.ln, decide_eq_true rfl]
    rfl
theorem ok_down {f : Addr} {fd : FuncData} (F : Fun K "down" "down" s_down f fd) (B : Blt mg) : FnOk P w K mg base CX0 1 f fd ["counts"] (sp_down K) := by
  refine fnG F sc_down (fun xs ⟨n, e, _⟩ => by rw [e]; rfl) fun cdv A outer s H E hr => ?_
  have hu := hr.units
  refine ⟨_, (pss_one (ps_ret (pe_callTy call_tupG (by rfl) B.n_tuple (by decide +kernel) (pa_cons (pe_callBK (cr_sortedRevX (b := true)) (by rfl) B.n_sorted (by decide +kernel) (pa_cons (pv 0) pa_nil) (pk_cons pe_bl pk_nil)) pa_nil)))), fun xs ⟨a, e, hl⟩ => ?_⟩
  subst e
  have e1 : EvL K _ (startS ["counts"] [.d (tI a)]) (· = (dn a).map .int) := (ev_kwL (b := true) (ea_consd (ev_var (i := 0) rfl) ea_nil) (ea_consd ev_bl ea_nil) (.inr (.inl rfl))).imp fun l ⟨ms, e, pm, od⟩ => by rw [e, dn_eq pm (ordB_true od)]
  exact sx_retd (ev_cbd (ea_consd e1.evd ea_nil) rc_tupL) fun a' e => by obtain rfl := tI1 e; rfl
theorem ok_heads {f : Addr} {fd : FuncData} (F : Fun K "heads" "heads" s_heads f fd) (B : Blt mg) (c_down : Cl P w K mg base 1 "down" (sp_down K)) : FnOk P w K mg base CX0 2 f fd ["counts"] (sp_heads K) := by
  refine fnL F sc_heads (fun xs ⟨n, e, _⟩ => by rw [e]; rfl) fun cdv A outer s H E hr => ?_
  have hu := hr.units
  refine ⟨_, (pss_cons (ps_par (i := 1) (j := 2) rfl sc_heads.nd rfl rfl (by decide) rfl rfl (pa_cons (pe_lst pa_nil) (pa_cons pe_int pa_nil)) (by rfl))
      (pss_cons (ps_for PassesOwn.never rfl (pi_seq (pe_cl c_down hr (by decide) (by rfl) (pa_cons (pv 0) pa_nil))) (pg_name (i := 3) sc_heads.nd rfl (.inl rfl))
      (pss_cons (ps_set (i := 2) sc_heads.nd rfl (.inl rfl) (pe_op op_addG (pv 2) (pv 3)))
      (pss_one (ps_expr (pe_bm PySem.F.plainAttrs_list PySem.F.slot_list_append PySem.F.type_list_append mt_append (pv 1) (pa_cons (pv 2) pa_nil))))))
      (pss_one (ps_ret (pv 1))))), fun xs ⟨a, e, hl⟩ => ?_⟩
  subst e
  have hl' : (dn a).length ≤ 1000 := by rw [dn_len]; exact hl
  refine sx_seqd (es' := [.im (.d (tI a)), .mu [], .im (.d (.int 0)), .no]) (sx_parL (P := (· = [])) (ev_lstd ea_nil .nil (by simp)) (ev_int.imp fun x e => ⟨_, e, by rw [e]; trivial, fun ys hy => by rw [hy, e]; rfl⟩)) ?_
  refine sx_seqd (es' := [.im (.d (tI a)), .mu ((psum 0 (dn a)).map .int), .im (.d (.int (dn a).sum)), .no]) ?_ (sx_retMu (i := 1) rfl fun a' e => by obtain rfl := tI1 e; rfl)
  refine sx_weak (N := fun es => ∃ x, es = [.im (.d (tI a)), .mu ((psum 0 (dn a)).map .int), .im (.d (.int (dn a).sum)), x]) ?_ fun e ⟨x, he⟩ => ⟨_, by rw [he]; exact less_same (less_same (less_same (less_no less_nil))), rfl⟩
  refine sx_forMap (dn a) .int (ei_seqT (ev_calld (ea_consd (ev_var rfl) ea_nil) ⟨a, rfl, hl⟩ fun z hz => hz a rfl)) (fun i es => ∃ x, es = [.im (.d (tI a)), .mu (((psum 0 (dn a)).take i).map .int), .im (.d (.int (MJ.P (dn a) i))), x]) ⟨_, rfl⟩ (fun i hi es ⟨x, he⟩ => ?_) (fun es ⟨x, he⟩ => ⟨x, by
    rw [he, P_len _ _ (Nat.le_refl _), List.take_of_length_le (by rw [psum_len]; exact Nat.le_refl _)]⟩)
  subst he
  refine sx_seqd (sx_setd (x := .d (.int (MJ.P (dn a) (i + 1)))) (Ev.to (ev_opd (ev_var rfl) (ev_var rfl) rv_add) (by rw [P_succ _ _ hi])) trivial rfl) ?_
  refine sx_app (i := 1) (xs := ((psum 0 (dn a)).take i).map .int) rfl (ev_var rfl) (by rw [List.length_map, List.length_take, psum_len]; omega) fun x e => ⟨_, e, .im (.d (.int (dn a)[i])), ?_⟩
  have hp : i < (psum 0 (dn a)).length := by rw [psum_len]; exact hi
  rw [List.take_add_one, List.getElem?_eq_getElem hp, psum_get _ _ _ hi, List.map_append, Int.zero_add]
  rfl
theorem ok_are_below {f : Addr} {fd : FuncData} (F : Fun K "are_below" "are_below" s_are_below f fd) (B : Blt mg) : FnOk P w K mg base CX0 1 f fd ["near", "far"] (sp_are_below K) := by
  refine fnG F sc_are_below (fun xs ⟨n, m, e, _⟩ => by rw [e]; rfl) fun cdv A outer s H E hr => ?_
  have hu := hr.units
  refine ⟨_, (pss_one (ps_ret (pe_callB (cr_all rfl) (by rfl) B.n_all (by decide +kernel) (pa_cons (pe_lc (own := [("one", 2), ("other", 3)]) (g := (gTup K 2 (gCons (gName 2) (gCons (gName 3) gNil)))) (tt := tYes) (te := (tOp rLeI (tVar 2) (tVar 3))) (by rfl) sc_are_below.nd (RZ.pi_zipA (by rfl) B.n_zip (pa_cons (pv 0) (pa_cons (pv 1) pa_nil))) (blkOk_by (own := [("one", 2), ("other", 3)]) (by first | decide +kernel | rfl)) (fun _ _ _ _ _ => (pg_tup (by rfl) (pgs_cons (pg_name (i := 2) sc_are_below.nd rfl (by first | exact Or.inl rfl | exact Or.inr rfl)) (pgs_cons (pg_name (i := 3) sc_are_below.nd rfl (by first | exact Or.inl rfl | exact Or.inr rfl)) pgs_nil)))) (fun _ _ _ _ _ => pts_nil) (fun _ _ _ _ _ => (pe_cmpR op_leG (pv 2) (pv 3) (nomark _)))) pa_nil)))), fun xs ⟨a, b, e, hl⟩ => ?_⟩
  subst e
  refine sx_retd (ev_cbd (ea_consd (ev_lcZip a b .int .int (fun x y => .bool (decide (x ≤ y))) (ei_zipL (ea_consd (ev_var rfl) (ea_consd (ev_var rfl) ea_nil))) (by omega) (by simp) (by simp) fun x y _ => ev_opd (ev_var rfl) (ev_var rfl) rv_le).evd ea_nil) rc_allM) fun a' b' e => ?_
  obtain ⟨rfl, rfl⟩ := lI2 e
  rfl
theorem ok_by_heads {f : Addr} {fd : FuncData} (F : Fun K "by_heads" "by_heads" s_by_heads f fd) (B : Blt mg) : FnOk P w K mg base CX0 1 f fd ["totals"] (sp_by_heads K) := by
  refine fnG F sc_by_heads (fun xs ⟨n, e, _⟩ => by rw [e]; rfl) fun cdv A outer s H E hr => ?_
  have hu := hr.units
  refine ⟨_, (pss_one (ps_ret (pe_callTy call_tupG (by rfl) B.n_tuple (by decide +kernel) (pa_cons (pe_lc (own := [("near", 1), ("late", 2)]) (g := (gTup K 2 (gCons (gName 1) (gCons (gName 2) gNil)))) (tt := tYes) (te := (tOp rSubI (tVar 2) (tVar 1))) (by rfl) sc_by_heads.nd (RZ.pi_zipA (by rfl) B.n_zip (pa_cons (pe_op op_addG (pe_lst (pa_cons pe_int pa_nil)) (pv 0)) (pa_cons (pv 0) pa_nil))) (blkOk_by (own := [("near", 1), ("late", 2)]) (by first | decide +kernel | rfl)) (fun _ _ _ _ _ => (pg_tup (by rfl) (pgs_cons (pg_name (i := 1) sc_by_heads.nd rfl (by first | exact Or.inl rfl | exact Or.inr rfl)) (pgs_cons (pg_name (i := 2) sc_by_heads.nd rfl (by first | exact Or.inl rfl | exact Or.inr rfl)) pgs_nil)))) (fun _ _ _ _ _ => pts_nil) (fun _ _ _ _ _ => (pe_op op_subG (pv 2) (pv 1)))) pa_nil)))), fun xs ⟨a, e, hl⟩ => ?_⟩
  subst e
  have e0 : Ev K _ (startS ["totals", "near", "late"] [.d (lI a)]) (· = .d (.list ((0 :: a).map .int))) := (ev_opLd (ev_lstd (ea_consd ev_int ea_nil) (.cons .nil) (by simp)).evd (ev_var (i := 0) rfl) (rvl_cat (xs := [.int 0]) (ys := a.map .int) (by simp; omega))).evd
  refine sx_retd (ev_cbd (ea_consd (ev_lcZip (0 :: a) a .int .int (fun x y => .int (y - x)) (ei_zipL (ea_consd e0 (ea_consd (ev_var rfl) ea_nil))) (by simp; omega) (by simp) (by simp) fun x y _ => ev_opd (ev_var rfl) (ev_var rfl) rv_sub).evd ea_nil) rc_tupL) fun a' e => ?_
  obtain rfl := lI1 e
  have key : ∀ (p : Int) (l : List Int), ((p :: l).zip l).map (fun q => PyData.int (q.2 - q.1)) = (diffs p l).map .int := by
    intro p l
    induction l generalizing p with
    | nil => rfl
    | cons x r ih => rw [List.zip_cons_cons, List.map_cons, ih x]; rfl
  rw [key]
  rfl
theorem top_ge : ∀ (a : List Int) (x : Int), x ∈ a → x ≤ top a := by
  have fold : ∀ (r : List Int) (n : Int), n ≤ r.foldl max n ∧ ∀ x ∈ r, x ≤ r.foldl max n := by
    intro r
    induction r with
    | nil => intro n; exact ⟨Int.le_refl _, fun x hx => nomatch hx⟩
    | cons y r ih =>
      intro n
      obtain ⟨h1, h2⟩ := ih (max n y)
      refine ⟨by rw [List.foldl_cons]; omega, fun x hx => ?_⟩
      rw [List.foldl_cons]
      rcases List.mem_cons.mp hx with rfl | hx
      · omega
      · exact h2 x hx
  intro a x hx
  cases a with
  | nil => exact nomatch hx
  | cons n r =>
    obtain ⟨h1, h2⟩ := fold r n
    rcases List.mem_cons.mp hx with rfl | hx
    · exact h1
    · exact h2 x hx
end
end K35
end
section
namespace K35
open PySem PySem.Spec PyProof.Rows L2 RZ HM MJ
abbrev s_sorted_down : Stmt := topS 23
theorem sc_sorted_down : FnScope ["counts"] ["counts"] (defScope s_sorted_down) := ⟨rfl, rfl, rfl, by decide +kernel, rfl, by decide +kernel, by decide +kernel⟩
abbrev s_is_more_even : Stmt := topS 24
theorem sc_is_more_even : FnScope ["counts", "others"] ["counts", "others"] (defScope s_is_more_even) := ⟨rfl, rfl, rfl, by decide +kernel, rfl, by decide +kernel, by decide +kernel⟩
abbrev s_even_below : Stmt := topS 27
theorem sc_even_below : FnScope ["counts", "others", "near", "far"] ["counts", "others"] (defScope s_even_below) := ⟨rfl, rfl, rfl, by decide +kernel, rfl, by decide +kernel, by decide +kernel⟩
abbrev sp_bent_down (K : PySem.W.Frag) : Sp := spG K (fun xs => ∃ a : List Int, xs = [.d (lI a)] ∧ 1 ≤ a.length ∧ a.length ≤ 1000 ∧ ∀ x ∈ a, x ≤ 1000) (fun xs z => ∀ a, xs = [.d (lI a)] → ∃ f, z = .d (lI f) ∧ Bent a f)
abbrev sp_sorted_down (K : PySem.W.Frag) : Sp := spG K (fun xs => ∃ a, xs = [.d (tI a)] ∧ Gd a) (fun xs z => ∀ a, xs = [.d (tI a)] → z = .d (tI (dn a)))
abbrev sp_conjugate (K : PySem.W.Frag) : Sp := spG K (fun xs => ∃ a, xs = [.d (tI a)] ∧ Gd a) (fun xs z => ∀ a, xs = [.d (tI a)] → z = .d (tI (conj a (top a).toNat)))
abbrev sp_is_more_even (K : PySem.W.Frag) : Sp := spG K (fun xs => ∃ a b, xs = [.d (tI a), .d (tI b)] ∧ Al a b) (fun xs z => ∀ a b, xs = [.d (tI a), .d (tI b)] → Al a b → ∃ r, z = .d (.bool r) ∧ (r = true ↔ Le a b))
abbrev sp_even_below (K : PySem.W.Frag) : Sp := spG K (fun xs => ∃ a b, xs = [.d (tI a), .d (tI b)] ∧ Al a b) (fun xs z => ∀ a b, xs = [.d (tI a), .d (tI b)] → z = .d (tI (meet a b)))
abbrev sp_even_above (K : PySem.W.Frag) : Sp := spG K (fun xs => ∃ a b, xs = [.d (tI a), .d (tI b)] ∧ Al a b) (fun xs z => ∀ a b, xs = [.d (tI a), .d (tI b)] → ∃ c, z = .d (tI c) ∧ IsJoin a b c)
theorem top_mem : ∀ (a : List Int), a ≠ [] → top a ∈ a := by
  have fold : ∀ (r : List Int) (n : Int), r.foldl max n = n ∨ r.foldl max n ∈ r := by
    intro r
    induction r with
    | nil => intro n; exact .inl rfl
    | cons y r ih =>
      intro n
      rw [List.foldl_cons]
      rcases ih (max n y) with h | h
      · rw [h]
        by_cases hy : y ≤ n
        · exact .inl (by omega)
        · refine .inr ?_
          rw [show max n y = y by omega]
          exact List.mem_cons_self
      · exact .inr (List.mem_cons_of_mem _ h)
  intro a h
  cases a with
  | nil => exact absurd rfl h
  | cons n r =>
    rcases fold r n with e | e
    · show r.foldl max n ∈ _
      rw [e]
      exact List.mem_cons_self
    · exact List.mem_cons_of_mem _ e
theorem gd_top {a : List Int} (h : Gd a) : 0 ≤ top a ∧ top a ≤ 40 := h.2.2 _ (top_mem a fun e => by have := h.1; rw [e] at this; simp at this)
theorem below_iff' {a b : List Int} (h : a.length = b.length) : below (psum 0 (dn a)) (psum 0 (dn b)) = true ↔ Le a b := by
  unfold below
  rw [List.all_eq_true]
  have l1 : (psum 0 (dn a)).length = a.length := by rw [psum_len, dn_len]
  have l2 : (psum 0 (dn b)).length = a.length := by rw [psum_len, dn_len, h]
  constructor
  · intro k i hi
    cases i with
    | zero => rw [P_zero, P_zero]; exact Int.le_refl _
    | succ i =>
      have h1 : i < (dn a).length := by rw [dn_len]; omega
      have h2 : i < (dn b).length := by rw [dn_len, ← h]; omega
      have hz : i < ((psum 0 (dn a)).zip (psum 0 (dn b))).length := by rw [List.length_zip]; omega
      have := k _ (List.getElem_mem hz)
      rw [List.getElem_zip, psum_get _ _ _ h1, psum_get _ _ _ h2] at this
      have := of_decide_eq_true this
      simp only at this
      omega
  · intro k p hp
    obtain ⟨i, hi, rfl⟩ := List.getElem_of_mem hp
    rw [List.length_zip] at hi
    have h1 : i < (dn a).length := by rw [dn_len]; omega
    have h2 : i < (dn b).length := by rw [dn_len, ← h]; omega
    rw [List.getElem_zip, psum_get _ _ _ h1, psum_get _ _ _ h2]
    have := k (i + 1) (by omega)
    exact decide_eq_true (by simp only; omega)
theorem below_iff {a b : List Int} (h : Al a b) : below (psum 0 (dn a)) (psum 0 (dn b)) = true ↔ Le a b := below_iff' h.ln
theorem zip_map (g : Int → Int → Int) : ∀ xs ys : List Int, ((xs.zip ys).map fun p => PyData.int (g p.1 p.2)) = (List.zipWith g xs ys).map .int
  | [], _ => by simp
  | _ :: _, [] => by simp
  | x :: xs, y :: ys => by simp [zip_map g xs ys]
theorem highs_le {a b : List Int} (h : Al a b) : ∀ x ∈ highs a b, x ≤ 1000 := fun x hx => by
  obtain ⟨i, hi, rfl⟩ := List.getElem_of_mem hx
  rw [← T_succ _ _ hi]
  rw [highs_len h.ln] at hi
  rw [T_highs h.ln _ (by omega)]
  have := P_dn_le h.ga (i + 1)
  have := P_dn_le h.gb (i + 1)
  have := sum_le40 h.ga
  have := h.ga.2.1
  have := h.sm
  omega
section
variable {P : Program} {w : World} {K : PySem.W.Frag} {mg : Str → Option Value} {base : Heap}
theorem ok_sorted_down {f : Addr} {fd : FuncData} (F : Fun K "sorted_down" "sorted_down" s_sorted_down f fd) (B : Blt mg) (c_want_list : Cl P w K mg base 4 "want_list" (sp_want_list K)) (c_down : Cl P w K mg base 1 "down" (sp_down K)) : FnOk P w K mg base CX0 5 f fd ["counts"] (sp_sorted_down K) := by
  refine fnG F sc_sorted_down (fun xs ⟨n, e, _⟩ => by rw [e]; rfl) fun cdv A outer s H E hr => ?_
  have hu := hr.units
  refine ⟨_, (pss_cons (ps_expr (pe_cl c_want_list hr (by decide) (by rfl) (pa_cons (pv 0) pa_nil)))
      (pss_one (ps_ret (pe_cl c_down hr (by decide) (by rfl) (pa_cons (pv 0) pa_nil))))), fun xs ⟨a, e, g⟩ => ?_⟩
  subst e
  refine sx_seqd (sx_drop (ev_calld (P := fun _ => True) (ea_consd (ev_var rfl) ea_nil) ⟨_, rfl, gd_isList g⟩ fun z _ => trivial) rfl) ?_
  exact sx_retd (ev_calld (ea_consd (ev_var rfl) ea_nil) ⟨a, rfl, by have := g.2.1; omega⟩ fun z hz => hz a rfl) fun a' e => by obtain rfl := tI1 e; rfl
theorem ok_is_more_even {f : Addr} {fd : FuncData} (F : Fun K "is_more_even" "is_more_even" s_is_more_even f fd) (B : Blt mg) (c_want_alike : Cl P w K mg base 5 "want_alike" (sp_want_alike K)) (c_heads : Cl P w K mg base 2 "heads" (sp_heads K)) (c_are_below : Cl P w K mg base 1 "are_below" (sp_are_below K)) : FnOk P w K mg base CX0 6 f fd ["counts", "others"] (sp_is_more_even K) := by
  refine fnG F sc_is_more_even (fun xs ⟨n, m, e, _⟩ => by rw [e]; rfl) fun cdv A outer s H E hr => ?_
  have hu := hr.units
  refine ⟨_, (pss_cons (ps_expr (pe_cl c_want_alike hr (by decide) (by rfl) (pa_cons (pv 0) (pa_cons (pv 1) pa_nil))))
      (pss_one (ps_ret (pe_cl c_are_below hr (by decide) (by rfl) (pa_cons (pe_cl c_heads hr (by decide) (by rfl) (pa_cons (pv 0) pa_nil)) (pa_cons (pe_cl c_heads hr (by decide) (by rfl) (pa_cons (pv 1) pa_nil)) pa_nil)))))), fun xs ⟨a, b, e, al⟩ => ?_⟩
  subst e
  have l1 : a.length ≤ 1000 := by have := al.ga.2.1; omega
  have l2 : b.length ≤ 1000 := by have := al.gb.2.1; omega
  refine sx_seqd (sx_drop (ev_calld (P := fun _ => True) (ea_consd (ev_var rfl) (ea_consd (ev_var rfl) ea_nil)) ⟨_, _, rfl, al⟩ fun z _ => trivial) rfl) ?_
  refine sx_retd (ev_calld (ea_consd (ev_callLd (ea_consd (ev_var rfl) ea_nil) ⟨a, rfl, l1⟩ fun z hz => hz a rfl).evd (ea_consd (ev_callLd (ea_consd (ev_var rfl) ea_nil) ⟨b, rfl, l2⟩ fun z hz => hz b rfl).evd ea_nil)) ⟨_, _, rfl, by rw [psum_len, dn_len]; exact l1⟩ fun z hz => hz _ _ rfl) fun a' b' e al' => ?_
  obtain ⟨rfl, rfl⟩ := tI2 e
  exact ⟨_, rfl, below_iff al⟩
theorem ok_even_below {f : Addr} {fd : FuncData} (F : Fun K "even_below" "even_below" s_even_below f fd) (B : Blt mg) (c_want_alike : Cl P w K mg base 5 "want_alike" (sp_want_alike K)) (c_heads : Cl P w K mg base 2 "heads" (sp_heads K)) (c_by_heads : Cl P w K mg base 1 "by_heads" (sp_by_heads K)) : FnOk P w K mg base CX0 6 f fd ["counts", "others"] (sp_even_below K) := by
  refine fnG F sc_even_below (fun xs ⟨n, m, e, _⟩ => by rw [e]; rfl) fun cdv A outer s H E hr => ?_
  have hu := hr.units
  refine ⟨_, (pss_cons (ps_expr (pe_cl c_want_alike hr (by decide) (by rfl) (pa_cons (pv 0) (pa_cons (pv 1) pa_nil))))
      (pss_one (ps_ret (pe_cl c_by_heads hr (by decide) (by rfl) (pa_cons (pe_lc (own := [("near", 2), ("far", 3)]) (g := (gTup K 2 (gCons (gName 2) (gCons (gName 3) gNil)))) (tt := tYes) (te := (tCB (rMinG K) (tCons (tVar 2) (tCons (tVar 3) tNil)))) (by rfl) sc_even_below.nd (RZ.pi_zipA (by rfl) B.n_zip (pa_cons (pe_cl c_heads hr (by decide) (by rfl) (pa_cons (pv 0) pa_nil)) (pa_cons (pe_cl c_heads hr (by decide) (by rfl) (pa_cons (pv 1) pa_nil)) pa_nil))) (blkOk_by (own := [("near", 2), ("far", 3)]) (by first | decide +kernel | rfl)) (fun _ _ _ _ _ => (pg_tup (by rfl) (pgs_cons (pg_name (i := 2) sc_even_below.nd rfl (by first | exact Or.inl rfl | exact Or.inr rfl)) (pgs_cons (pg_name (i := 3) sc_even_below.nd rfl (by first | exact Or.inl rfl | exact Or.inr rfl)) pgs_nil)))) (fun _ _ _ _ _ => pts_nil) (fun _ _ _ _ _ => (pe_callB (call_minG rfl hu) (by rfl) B.n_min (by decide +kernel) (pa_cons (pv 2) (pa_cons (pv 3) pa_nil))))) pa_nil))))), fun xs ⟨a, b, e, al⟩ => ?_⟩
  subst e
  have l1 : a.length ≤ 1000 := by have := al.ga.2.1; omega
  have l2 : b.length ≤ 1000 := by have := al.gb.2.1; omega
  have l3 : (psum 0 (dn a)).length = a.length := by rw [psum_len, dn_len]
  refine sx_seqd (sx_drop (ev_calld (P := fun _ => True) (ea_consd (ev_var rfl) (ea_consd (ev_var rfl) ea_nil)) ⟨_, _, rfl, al⟩ fun z _ => trivial) rfl) ?_
  refine sx_retd (ev_calld (ea_consd (EvL.to (ev_lcZip (psum 0 (dn a)) (psum 0 (dn b)) .int .int (fun x y => .int (min x y)) (ei_zipL (ea_consd (ev_callLd (ea_consd (ev_var rfl) ea_nil) ⟨a, rfl, l1⟩ fun z hz => hz a rfl).evd (ea_consd (ev_callLd (ea_consd (ev_var rfl) ea_nil) ⟨b, rfl, l2⟩ fun z hz => hz b rfl).evd ea_nil))) (by omega) (by simp) (by simp) fun x y _ => ev_cbd (ea_consd (ev_var rfl) (ea_consd (ev_var rfl) ea_nil)) rc_min2) (zip_map min _ _)).evd ea_nil) ⟨lows a b, rfl, by rw [lows_len al.ln]; exact l1⟩ fun z hz => hz (lows a b) rfl) fun a' b' e => ?_
  obtain ⟨rfl, rfl⟩ := tI2 e
  rfl
end
end K35
end
section
namespace K35
open PySem PySem.Spec PyProof.Rows L2 RZ HM MJ
abbrev s_is_list : Stmt := topS 3
theorem sc_is_list : FnScope ["value"] ["value"] (defScope s_is_list) := ⟨rfl, rfl, rfl, by decide +kernel, rfl, by decide +kernel, by decide +kernel⟩
abbrev s_moved : Stmt := topS 22
theorem sc_moved : FnScope ["counts", "giver", "taker", "found"] ["counts", "giver", "taker"] (defScope s_moved) := ⟨rfl, rfl, rfl, by decide +kernel, rfl, by decide +kernel, by decide +kernel⟩
abbrev s_is_transfer : Stmt := topS 26
theorem sc_is_transfer : FnScope ["counts", "value", "one"] ["counts", "value"] (defScope s_is_transfer) := ⟨rfl, rfl, rfl, by decide +kernel, rfl, by decide +kernel, by decide +kernel⟩
abbrev s_transferred : Stmt := topS 25
theorem sc_transferred : FnScope ["counts", "rows", "here", "one"] ["counts", "rows"] (defScope s_transferred) := ⟨rfl, rfl, rfl, by decide +kernel, rfl, by decide +kernel, by decide +kernel⟩
abbrev s_pair_of : Stmt := topS 15
theorem sc_pair_of : FnScope ["one", "other"] ["one", "other"] (defScope s_pair_of) := ⟨rfl, rfl, rfl, by decide +kernel, rfl, by decide +kernel, by decide +kernel⟩
abbrev s_room_of : Stmt := topS 30
theorem sc_room_of : FnScope ["counts", "many", "sorted_counts", "rest", "one"] ["counts", "many"] (defScope s_room_of) := ⟨rfl, rfl, rfl, by decide +kernel, rfl, by decide +kernel, by decide +kernel⟩
abbrev s_rooms_of : Stmt := topS 31
theorem sc_rooms_of : FnScope ["counts", "many"] ["counts"] (defScope s_rooms_of) := ⟨rfl, rfl, rfl, by decide +kernel, rfl, by decide +kernel, by decide +kernel⟩
abbrev s_bars_of : Stmt := topS 32
theorem sc_bars_of : FnScope ["counts", "at", "room"] ["counts"] (defScope s_bars_of) := ⟨rfl, rfl, rfl, by decide +kernel, rfl, by decide +kernel, by decide +kernel⟩
abbrev s_can_be : Stmt := topS 33
theorem sc_can_be : FnScope ["counts"] ["counts"] (defScope s_can_be) := ⟨rfl, rfl, rfl, by decide +kernel, rfl, by decide +kernel, by decide +kernel⟩
abbrev s_rooms : Stmt := topS 34
theorem sc_rooms : FnScope ["counts"] ["counts"] (defScope s_rooms) := ⟨rfl, rfl, rfl, by decide +kernel, rfl, by decide +kernel, by decide +kernel⟩
abbrev s_bars : Stmt := topS 35
theorem sc_bars : FnScope ["counts"] ["counts"] (defScope s_bars) := ⟨rfl, rfl, rfl, by decide +kernel, rfl, by decide +kernel, by decide +kernel⟩
abbrev s_is_possible : Stmt := topS 36
theorem sc_is_possible : FnScope ["counts"] ["counts"] (defScope s_is_possible) := ⟨rfl, rfl, rfl, by decide +kernel, rfl, by decide +kernel, by decide +kernel⟩
def trE (p : Nat × Nat) : PyData := .tuple [.int p.1, .int p.2]
inductive Steps : List Int → List (Nat × Nat) → List Int → Prop
  | nil {h : List Int} : Steps h [] h
  | cons {h r : List Int} {g t : Nat} {rows : List (Nat × Nat)} (hg : g < h.length) (ht : t < h.length) (hd : h[t] + 2 ≤ h[g]) (s : Steps (dn (shift h g t)) rows r) : Steps h ((g, t) :: rows) r
def roomsL (a : List Int) : List Int := (List.range a.length).map fun i => room a (i + 1)
def barsL (a : List Int) : List Int := ((roomsL a).zipIdx.filter fun q => decide (q.1 < 0)).map fun q => (q.2 : Int) + 1
def possB (a : List Int) : Bool := decide (a.sum % 2 = 0) && decide (barsL a = [])
theorem barsL_nil {a : List Int} : barsL a = [] ↔ ∀ k, k < a.length → 0 ≤ room a (k + 1) := by
  unfold barsL roomsL
  rw [List.map_eq_nil_iff, List.filter_eq_nil_iff]
  constructor
  · intro h k hk
    have := h (room a (k + 1), k) (List.mem_zipIdx_iff_getElem?.mpr (by simp [hk]))
    simpa using this
  · rintro h ⟨x, k⟩ hq
    have := List.mem_zipIdx_iff_getElem?.mp hq
    simp only [List.getElem?_map] at this
    by_cases hk : k < a.length
    · rw [List.getElem?_range hk] at this
      have e : room a (k + 1) = x := Option.some.inj this
      have := h k hk
      simp only [decide_eq_true_eq]
      omega
    · rw [List.getElem?_eq_none (by simpa using hk)] at this
      cases this
theorem possB_iff {a : List Int} : possB a = true ↔ a.sum % 2 = 0 ∧ ∀ k, k < a.length → 0 ≤ room a (k + 1) := by
  unfold possB
  rw [Bool.and_eq_true, decide_eq_true_iff, decide_eq_true_iff, barsL_nil]
abbrev sp_is_list (K : PySem.W.Frag) : Sp := spG K (fun xs => ∃ d ds, xs = [.d d] ∧ (d = .list ds ∨ d = .tuple ds)) (fun xs z => z = .d (.bool true))
abbrev sp_moved (K : PySem.W.Frag) : Sp := spG K (fun xs => ∃ (a : List Int) (g t : Nat), xs = [.d (tI a), .d (.int g), .d (.int t)] ∧ g < a.length ∧ t < a.length) (fun xs z => ∀ (a : List Int) (g t : Nat), xs = [.d (tI a), .d (.int g), .d (.int t)] → z = .d (tI (shift a g t)))
abbrev sp_is_transfer (K : PySem.W.Frag) : Sp := spG K (fun xs => ∃ (a : List Int) (g t : Nat), xs = [.d (tI a), .d (trE (g, t))] ∧ ∃ (hg : g < a.length) (ht : t < a.length), a[t] + 2 ≤ a[g]) (fun xs z => z = .d (.bool true))
abbrev sp_transferred (K : PySem.W.Frag) : Sp := spG K (fun xs => ∃ (a r : List Int) (rows : List (Nat × Nat)), xs = [.d (tI a), .d (.list (rows.map trE))] ∧ Gd a ∧ Steps (dn a) rows r) (fun xs z => ∀ (a r : List Int) (rows : List (Nat × Nat)), xs = [.d (tI a), .d (.list (rows.map trE))] → Steps (dn a) rows r → z = .d (tI r))
abbrev sp_pair_of (K : PySem.W.Frag) : Sp := spG K (fun xs => ∃ x y : Int, xs = [.d (.int x), .d (.int y)]) (fun xs z => ∀ x y : Int, xs = [.d (.int x), .d (.int y)] → z = .d (.tuple [.int (min x y), .int (max x y)]))
abbrev sp_room_of (K : PySem.W.Frag) : Sp := spG K (fun xs => ∃ (a : List Int) (k : Nat), xs = [.d (tI a), .d (.int k)] ∧ a.length ≤ 1000 ∧ k ≤ 1000) (fun xs z => ∀ (a : List Int) (k : Nat), xs = [.d (tI a), .d (.int k)] → z = .d (.int (room a k)))
abbrev sp_rooms_of (K : PySem.W.Frag) : Sp := spL K (fun xs => ∃ (a : List Int), xs = [.d (tI a)] ∧ a.length ≤ 500) (fun xs z => ∀ (a : List Int), xs = [.d (tI a)] → z = (roomsL a).map .int)
abbrev sp_bars_of (K : PySem.W.Frag) : Sp := spL K (fun xs => ∃ (a : List Int), xs = [.d (tI a)] ∧ a.length ≤ 500) (fun xs z => ∀ (a : List Int), xs = [.d (tI a)] → z = (barsL a).map .int)
abbrev sp_can_be (K : PySem.W.Frag) : Sp := spG K (fun xs => ∃ (a : List Int), xs = [.d (tI a)] ∧ a.length ≤ 500) (fun xs z => ∀ (a : List Int), xs = [.d (tI a)] → z = .d (.bool (possB a)))
abbrev sp_rooms (K : PySem.W.Frag) : Sp := spL K (fun xs => ∃ (a : List Int), xs = [.d (tI a)] ∧ Gd a) (fun xs z => ∀ (a : List Int), xs = [.d (tI a)] → z = (roomsL a).map .int)
abbrev sp_bars (K : PySem.W.Frag) : Sp := spL K (fun xs => ∃ (a : List Int), xs = [.d (tI a)] ∧ Gd a) (fun xs z => ∀ (a : List Int), xs = [.d (tI a)] → z = (barsL a).map .int)
abbrev sp_is_possible (K : PySem.W.Frag) : Sp := spG K (fun xs => ∃ (a : List Int), xs = [.d (tI a)] ∧ Gd a) (fun xs z => ∀ (a : List Int), xs = [.d (tI a)] → z = .d (.bool (possB a)))
section
variable {P : Program} {w : World} {K : PySem.W.Frag} {mg : Str → Option Value} {base : Heap}
theorem ok_is_list {f : Addr} {fd : FuncData} (F : Fun K "is_list" "is_list" s_is_list f fd) (B : Blt mg) : FnOk P w K mg base CX0 1 f fd ["value"] (sp_is_list K) := by
  refine fnG F sc_is_list (fun xs ⟨n, m, e, _⟩ => by rw [e]; rfl) fun cdv A outer s H E hr => ?_
  have hu := hr.units
  refine ⟨_, (pss_one (ps_ret (pe_callB call_isiT (by rfl) B.n_isinstance (by decide +kernel) (pa_cons (pv 0) (pa_cons (pe_tup (pa_cons (pe_bltn (v := .ty "list") (by rfl) B.n_list (by decide +kernel) rfl) (pa_cons (pe_bltn (v := .ty "tuple") (by rfl) B.n_tuple (by decide +kernel) rfl) pa_nil))) pa_nil))))), fun xs ⟨d, ds, e, h⟩ => ?_⟩
  subst e
  exact sx_retd (ev_cbd (ea_consd (ev_var rfl) (ea_consd (ev_row (rs := [.ty "list", .ty "tuple"]) (ea_consd ev_raw (ea_consd ev_raw ea_nil)) (by show 2 ≤ 1000; omega)) ea_nil)) (rc_isSeq (.inl rfl) h)) rfl
theorem ok_moved {f : Addr} {fd : FuncData} (F : Fun K "moved" "moved" s_moved f fd) (B : Blt mg) : FnOk P w K mg base CX0 1 f fd ["counts", "giver", "taker"] (sp_moved K) := by
  refine fnG F sc_moved (fun xs ⟨a, g, t, e, _⟩ => by rw [e]; rfl) fun cdv A outer s H E hr => ?_
  have hu := hr.units
  refine ⟨_, (pss_cons (ps_set (i := 3) sc_moved.nd rfl (.inl rfl) (pe_callTy call_lstG (by rfl) B.n_list (by decide +kernel) (pa_cons (pv 0) pa_nil)))
      (pss_cons (ps_asg (pe_tup (pa_cons (pe_op op_subG (pe_ix ix_seq (pv 3) (pv 1) (fun _ _ => rfl)) pe_int) (pa_cons (pe_op op_addG (pe_ix ix_seq (pv 3) (pv 2) (fun _ _ => rfl)) pe_int) pa_nil))) (pg_tup (by rfl) (pgs_cons (pg_sub (pv 3) (pv 1) set_list) (pgs_cons (pg_sub (pv 3) (pv 2) set_list) pgs_nil))))
      (pss_one (ps_ret (pe_callTy call_tupG (by rfl) B.n_tuple (by decide +kernel) (pa_cons (pv 3) pa_nil)))))), fun xs ⟨a, g, t, e, hg, ht⟩ => ?_⟩
  subst e
  have hlen : (a.map PyData.int).length = a.length := List.length_map ..
  have gk : (a.map PyData.int)[g]? = some (.int a[g]) := by rw [List.getElem?_map, List.getElem?_eq_getElem hg]; rfl
  have gl : (a.map PyData.int)[t]? = some (.int a[t]) := by rw [List.getElem?_map, List.getElem?_eq_getElem ht]; rfl
  refine sx_seqd (es' := [.im (.d (tI a)), .im (.d (.int g)), .im (.d (.int t)), .mu (a.map .int)]) (sx_setLd (ev_cbLd (ea_consd (ev_var rfl) ea_nil) (rcl_lst (.inr rfl))) rfl) ?_
  refine sx_seqd (es' := [.im (.d (tI a)), .im (.d (.int g)), .im (.d (.int t)), .mu ((shift a g t).map .int)]) (sx_asgW (ev_tupd (ea_consd (ev_opd (ev_opd (ev_mu rfl) (ev_var rfl) (rv_ixLt (atI_of gk rfl))) ev_int rv_sub) (ea_consd (ev_opd (ev_opd (ev_mu rfl) (ev_var rfl) (rv_ixLt (atI_of gl rfl))) ev_int rv_add) ea_nil)) (.cons (.cons .nil)) (by show 2 ≤ 1000000; omega))
    (tgw_tup (tgsw_cons (tgw_sub (i := 3) (j := g) rfl (ev_var rfl) (by rw [hlen]; exact hg)) (tgsw_cons (tgw_sub (i := 3) (j := t) rfl (ev_var rfl) (by rw [List.length_set, hlen]; exact ht)) tgsw_nil)) rfl) ?_) ?_
  · unfold shift
    rw [MJ.getD_at hg, MJ.getD_at ht, List.map_set, List.map_set]
    rfl
  · refine sx_shut 3 (xs := (shift a g t).map .int) rfl ?_
    refine sx_retd (ev_cbd (ea_consd (ev_var (i := 3) rfl) ea_nil) rc_tupL) fun a' g' t' e => ?_
    have e1 := tI_inj (Dv.d.inj (List.cons.inj e).1)
    have e2 := PyData.int.inj (Dv.d.inj (List.cons.inj (List.cons.inj e).2).1)
    have e3 := PyData.int.inj (Dv.d.inj (List.cons.inj (List.cons.inj (List.cons.inj e).2).2).1)
    have e2 : g = g' := by omega
    have e3 : t = t' := by omega
    subst e1; subst e2; subst e3
    rfl
theorem ok_is_transfer {f : Addr} {fd : FuncData} (F : Fun K "is_transfer" "is_transfer" s_is_transfer f fd) (B : Blt mg) (c_is_within : Cl P w K mg base 2 "is_within" (sp_is_within K)) : FnOk P w K mg base CX0 3 f fd ["counts", "value"] (sp_is_transfer K) := by
  refine fnG F sc_is_transfer (fun xs ⟨a, g, t, e, _⟩ => by rw [e]; rfl) fun cdv A outer s H E hr => ?_
  have hu := hr.units
  refine ⟨_, (pss_cons (ps_if (PW.pt (pw_or (pt_not (pt_val (pe_callB call_isaG (by rfl) B.n_isinstance (by decide +kernel) (pa_cons (pv 1) (pa_cons (pe_bltn (v := .ty "tuple") (by rfl) B.n_tuple (by decide +kernel) rfl) pa_nil))))) (pw_or1 (pt_cmpR (op_neP hu) (pe_callB call_lenG (by rfl) B.n_len (by decide +kernel) (pa_cons (pv 1) pa_nil)) pe_int (nomark _)))))
      (pss_one (ps_ret pe_bl))
      pss_nil)
      (pss_cons (ps_if (pt_not (pt_val (pe_callB (cr_all rfl) (by rfl) B.n_all (by decide +kernel) (pa_cons (pe_lc (own := [("one", 2)]) (g := (gName 2)) (tt := tYes) (te := (tCall (sp_is_within K) [] E0 (tCons (tVar 2) (tCons (tC (.int 0)) (tCons (tOp rSubI (tCB (rLenS K) (tCons (tVar 0) tNil)) (tC (.int 1))) tNil))))) (by rfl) sc_is_transfer.nd (pi_seq (pv 1)) (blkOk_by (own := [("one", 2)]) (by first | decide +kernel | rfl)) (fun _ _ _ _ _ => (pg_name (i := 2) sc_is_transfer.nd rfl (by first | exact Or.inl rfl | exact Or.inr rfl))) (fun _ _ _ _ _ => pts_nil) (fun _ _ _ _ _ => (pe_cl c_is_within hr (by decide) (by rfl) (pa_cons (pv 2) (pa_cons pe_int (pa_cons (pe_op op_subG (pe_callB call_lenG (by rfl) B.n_len (by decide +kernel) (pa_cons (pv 0) pa_nil)) pe_int) pa_nil)))))) pa_nil))))
      (pss_one (ps_ret pe_bl))
      pss_nil)
      (pss_one (ps_ret (pe_cmpR op_geG (pe_ix ix_seq (pv 0) (pe_ix ix_seq (pv 1) pe_int (fun _ _ => rfl)) (fun _ _ => rfl)) (pe_op op_addG (pe_ix ix_seq (pv 0) (pe_ix ix_seq (pv 1) pe_int (fun _ _ => rfl)) (fun _ _ => rfl)) pe_int) (nomark _)))))), fun xs ⟨a, g, t, e, hg, ht, hd⟩ => ?_⟩
  subst e
  have gk : (a.map PyData.int)[g]? = some (.int a[g]) := by rw [List.getElem?_map, List.getElem?_eq_getElem hg]; rfl
  have gl : (a.map PyData.int)[t]? = some (.int a[t]) := by rw [List.getElem?_map, List.getElem?_eq_getElem ht]; rfl
  refine sx_ifGo (et_or2 (et_nb (et_Bd (ev_cbd (ea_consd (ev_var (i := 1) (x := .d (trE (g, t))) rfl) (ea_consd ev_raw ea_nil)) (rc_isa (.inl rfl) (by rfl)))) rfl) ((et_testd (ev_opd (ev_cbd (ea_consd (ev_var (i := 1) (x := .d (trE (g, t))) rfl) ea_nil) (rc_len (.inl rfl) (.inr rfl))) ev_int rv_neI)).to (by rfl))) ?_
  refine sx_ifGo (et_nb (b := false) (a := true) (et_Bd (ev_allTrue (js := [2]) (ei_seqT (xs := [.int g, .int t]) (ev_var (i := 1) rfl)) (by simp) fun n h ⟨en, eh⟩ => ?_)) rfl) ?_
  · subst en; subst eh
    refine ⟨by show 2 ≤ 8000000; omega, fun i hi => ⟨_, tg_name trivial, ?_⟩⟩
    have h2 : i < 2 := hi
    have el : ∀ {y : Sl}, Ev K (tOp rSubI (tCB (rLenS K) (tCons (tVar 0) tNil)) (tC (.int 1))) [.im (.d (tI a)), .im (.d (trE (g, t))), y] (· = .d (.int ((a.length : Int) - 1))) := fun {y} => Ev.to (ev_opd (ev_cbd (ea_consd (ev_var (i := 0) rfl) ea_nil) (rc_len (.inl rfl) (.inr rfl))) ev_int rv_sub) (by rw [List.length_map])
    match i, h2 with
    | 0, _ => exact ev_calld (ea_consd (ev_var (i := 2) (x := .d (.int g)) rfl) (ea_consd ev_int (ea_consd el ea_nil))) ⟨_, _, _, rfl⟩ fun z hz => by rw [hz _ _ _ rfl]; simp [isWithin]; omega
    | 1, _ => exact ev_calld (ea_consd (ev_var (i := 2) (x := .d (.int t)) rfl) (ea_consd ev_int (ea_consd el ea_nil))) ⟨_, _, _, rfl⟩ fun z hz => by rw [hz _ _ _ rfl]; simp [isWithin]; omega
  · refine sx_retd ((ev_opd (ev_opd (ev_var (i := 0) rfl) (ev_opd (ev_var (i := 1) (x := .d (trE (g, t))) rfl) ev_int (rv_ixT (d := .int g) (atI_of (j := 0) rfl rfl))) (rv_ixT (atI_of gk rfl))) (ev_opd (ev_opd (ev_var (i := 0) rfl) (ev_opd (ev_var (i := 1) (x := .d (trE (g, t))) rfl) ev_int (rv_ixT (d := .int t) (atI_of (j := 1) rfl rfl))) (rv_ixT (atI_of gl rfl))) ev_int rv_add) rv_ge).to (by rw [decide_eq_true hd])) rfl
theorem ok_transferred {f : Addr} {fd : FuncData} (F : Fun K "transferred" "transferred" s_transferred f fd) (B : Blt mg) (c_want_list : Cl P w K mg base 4 "want_list" (sp_want_list K)) (c_down : Cl P w K mg base 1 "down" (sp_down K)) (c_is_list : Cl P w K mg base 1 "is_list" (sp_is_list K)) (c_is_transfer : Cl P w K mg base 3 "is_transfer" (sp_is_transfer K)) (c_moved : Cl P w K mg base 1 "moved" (sp_moved K)) :
    FnOk P w K mg base CX0 5 f fd ["counts", "rows"] (sp_transferred K) := by
  refine fnG F sc_transferred (fun xs ⟨a, r, rows, e, _⟩ => by rw [e]; rfl) fun cdv A outer s H E hr => ?_
  have hu := hr.units
  refine ⟨_, (pss_cons (ps_expr (pe_cl c_want_list hr (by decide) (by rfl) (pa_cons (pv 0) pa_nil)))
      (pss_cons (ps_set (i := 2) sc_transferred.nd rfl (.inl rfl) (pe_cl c_down hr (by decide) (by rfl) (pa_cons (pv 0) pa_nil)))
      (pss_cons (ps_if (pt_not (pt_val (pe_cl c_is_list hr (by decide) (by rfl) (pa_cons (pv 1) pa_nil))))
      (pss_one ps_never)
      pss_nil)
      (pss_cons (ps_for PassesOwn.never rfl (pi_seq (pv 1)) (pg_name (i := 3) sc_transferred.nd rfl (.inl rfl))
      (pss_cons (ps_if (pt_not (pt_val (pe_cl c_is_transfer hr (by decide) (by rfl) (pa_cons (pv 2) (pa_cons (pv 3) pa_nil)))))
      (pss_one ps_never)
      pss_nil)
      (pss_one (ps_set (i := 2) sc_transferred.nd rfl (.inl rfl) (pe_cl c_down hr (by decide) (by rfl) (pa_cons (pe_cl c_moved hr (by decide) (by rfl) (pa_cons (pv 2) (pa_cons (pe_ix ix_seq (pv 3) pe_int (fun _ _ => rfl)) (pa_cons (pe_ix ix_seq (pv 3) pe_int (fun _ _ => rfl)) pa_nil)))) pa_nil))))))
      (pss_one (ps_ret (pv 2))))))), fun xs ⟨a, r, rows, e, ga, st⟩ => ?_⟩
  subst e
  have l2 := ga.2.1
  refine sx_seqd (sx_drop (ev_calld (P := fun _ => True) (ea_consd (ev_var rfl) ea_nil) ⟨_, rfl, gd_isList ga⟩ fun z _ => trivial) rfl) ?_
  refine sx_seqd (es' := [.im (.d (tI a)), .im (.d (.list (rows.map trE))), .im (.d (tI (dn a))), .no]) (sx_setd (ev_calld (ea_consd (ev_var rfl) ea_nil) ⟨a, rfl, by omega⟩ fun z hz => hz a rfl) trivial rfl) ?_
  refine sx_ifGo (et_nb (b := false) (a := true) (et_Bd (ev_calld (ea_consd (ev_var rfl) ea_nil) ⟨_, _, rfl, .inl rfl⟩ fun z hz => hz)) rfl) ?_
  refine sx_seq (M := fun es => ∃ y, es = [.im (.d (tI a)), .im (.d (.list (rows.map trE))), .im (.d (tI r)), y]) ?_ ?_
  · refine sx_forMap rows trE (ei_seqL (xs := rows.map trE) (ev_var rfl)) (fun i es => ∃ x y, es = [.im (.d (tI a)), .im (.d (.list (rows.map trE))), .im (.d (tI x)), y] ∧ Gd x ∧ Steps x (rows.drop i) r) ⟨dn a, _, rfl, ga.dn, st⟩ ?_ ?_
    · rintro i hi es ⟨x, y, rfl, gx, sx⟩
      rw [List.drop_eq_getElem_cons hi] at sx
      generalize hq : rows[i] = q at *
      obtain ⟨g, t⟩ := q
      cases sx with
      | cons hg ht hd sx =>
        have al := shift_al gx hg ht hd
        refine sx_ifGo (et_nb (b := false) (a := true) (et_Bd (ev_calld (ea_consd (ev_var rfl) (ea_consd (ev_var rfl) ea_nil)) ⟨x, g, t, rfl, hg, ht, hd⟩ fun z hz => hz)) rfl) ?_
        refine sx_setd (x := .d (tI (dn (shift x g t)))) (ev_calld (ea_consd (ev_calld (P := (· = .d (tI (shift x g t)))) (ea_consd (ev_var rfl) (ea_consd (ev_opd (ev_var (i := 3) (x := .d (trE (g, t))) rfl) ev_int (rv_ixT (d := .int g) (atI_of (j := 0) rfl rfl))) (ea_consd (ev_opd (ev_var (i := 3) (x := .d (trE (g, t))) rfl) ev_int (rv_ixT (d := .int t) (atI_of (j := 1) rfl rfl))) ea_nil))) ⟨x, g, t, rfl, hg, ht⟩ fun z hz => hz x g t rfl) ea_nil) ⟨_, rfl, by have := al.gb.2.1; omega⟩ fun z hz => hz _ rfl) trivial ⟨_, _, rfl, al.gb.dn, sx⟩
    · rintro es ⟨x, y, rfl, gx, sx⟩
      rw [List.drop_of_length_le (Nat.le_refl _)] at sx
      cases sx
      exact ⟨y, rfl⟩
  · rintro es ⟨y, rfl⟩
    refine sx_retd (ev_var rfl) fun a' r' rows' e st' => ?_
    have e1 := tI_inj (Dv.d.inj (List.cons.inj e).1)
    have inj : ∀ {l m : List (Nat × Nat)}, l.map trE = m.map trE → l = m := fun {l m} h => (List.map_inj_right fun x y e => by
      have h1 := (List.cons.inj (PyData.tuple.inj e)).1
      have h2 := (List.cons.inj (List.cons.inj (PyData.tuple.inj e)).2).1
      have h1 := PyData.int.inj h1
      have h2 := PyData.int.inj h2
      exact Prod.ext (by omega) (by omega)).mp h
    have e2 := inj (PyData.list.inj (Dv.d.inj (List.cons.inj (List.cons.inj e).2).1))
    subst e1; subst e2
    have one : ∀ {h : List Int} {rs : List (Nat × Nat)} {u v : List Int}, Steps h rs u → Steps h rs v → u = v := fun {h rs u v} s1 => by
      induction s1 with
      | nil => intro s2; cases s2; rfl
      | cons _ _ _ _ ih => intro s2; cases s2 with | cons _ _ _ s => exact ih s
    rw [one st st']
theorem ok_pair_of {f : Addr} {fd : FuncData} (F : Fun K "pair_of" "pair_of" s_pair_of f fd) (B : Blt mg) : FnOk P w K mg base CX0 1 f fd ["one", "other"] (sp_pair_of K) := by
  refine fnG F sc_pair_of (fun xs ⟨x, y, e⟩ => by rw [e]; rfl) fun cdv A outer s H E hr => ?_
  have hu := hr.units
  refine ⟨_, (pss_one (ps_ret (pe_tup (pa_cons (pe_callB (call_minG rfl hu) (by rfl) B.n_min (by decide +kernel) (pa_cons (pv 0) (pa_cons (pv 1) pa_nil))) (pa_cons (pe_callB (call_maxG rfl hu) (by rfl) B.n_max (by decide +kernel) (pa_cons (pv 0) (pa_cons (pv 1) pa_nil))) pa_nil))))), fun xs ⟨x, y, e⟩ => ?_⟩
  subst e
  refine sx_retd (ev_tupd (ea_consd (ev_cbd (ea_consd (ev_var rfl) (ea_consd (ev_var rfl) ea_nil)) rc_min2) (ea_consd (ev_cbd (ea_consd (ev_var rfl) (ea_consd (ev_var rfl) ea_nil)) rc_max2) ea_nil)) (.cons (.cons .nil)) (by show 2 ≤ 1000000; omega)) fun x' y' e => ?_
  cases e
  rfl
theorem ok_room_of {f : Addr} {fd : FuncData} (F : Fun K "room_of" "room_of" s_room_of f fd) (B : Blt mg) (c_down : Cl P w K mg base 1 "down" (sp_down K)) : FnOk P w K mg base CX0 2 f fd ["counts", "many"] (sp_room_of K) := by
  refine fnG F sc_room_of (fun xs ⟨x, y, e, _⟩ => by rw [e]; rfl) fun cdv A outer s H E hr => ?_
  have hu := hr.units
  refine ⟨_, (pss_cons (ps_set (i := 2) sc_room_of.nd rfl (.inl rfl) (pe_cl c_down hr (by decide) (by rfl) (pa_cons (pv 0) pa_nil)))
      (pss_cons (ps_set (i := 3) sc_room_of.nd rfl (.inl rfl) (pe_callB (cr_sumD rfl) (by rfl) B.n_sum (by decide +kernel) (pa_cons (pe_lc (own := [("one", 4)]) (g := (gName 4)) (tt := tYes) (te := (tCB (rMinG K) (tCons (tVar 4) (tCons (tVar 1) tNil)))) (by rfl) sc_room_of.nd (pi_seq (pe_slice sl_seq (pv 2) (po_some (pv 1)) po_none)) (blkOk_by (own := [("one", 4)]) (by first | decide +kernel | rfl)) (fun _ _ _ _ _ => (pg_name (i := 4) sc_room_of.nd rfl (by first | exact Or.inl rfl | exact Or.inr rfl))) (fun _ _ _ _ _ => pts_nil) (fun _ _ _ _ _ => (pe_callB (call_minG rfl hu) (by rfl) B.n_min (by decide +kernel) (pa_cons (pv 4) (pa_cons (pv 1) pa_nil))))) pa_nil)))
      (pss_one (ps_ret (pe_op op_subG (pe_op op_addG (pe_op op_mulG (pv 1) (pe_op op_subG (pv 1) pe_int)) (pv 3)) (pe_callB (cr_sumD rfl) (by rfl) B.n_sum (by decide +kernel) (pa_cons (pe_slice sl_seq (pv 2) po_none (po_some (pv 1))) pa_nil))))))), fun xs ⟨a, k, e, hl, hk⟩ => ?_⟩
  subst e
  have dl := dn_len a
  refine sx_seqd (es' := [.im (.d (tI a)), .im (.d (.int k)), .im (.d (tI (dn a))), .no, .no]) (sx_setd (ev_calld (ea_consd (ev_var rfl) ea_nil) ⟨a, rfl, hl⟩ fun z hz => hz a rfl) trivial rfl) ?_
  refine sx_seqd (es' := [.im (.d (tI a)), .im (.d (.int k)), .im (.d (tI (dn a))), .im (.d (.int (cap k ((dn a).drop k)))), .no]) (sx_setd (x := .d (.int (cap k ((dn a).drop k)))) (Ev.to (ev_cbd (ea_consd (EvL.to (y := (((dn a).drop k).map fun x => min x (k : Int)).map .int) (ev_lcMap ((dn a).drop k) .int (fun x => .int (min x (k : Int))) (ei_seqT (Ev.to (ev_slT (ev_var (i := 2) rfl) (eo_somed (ev_var rfl)) eo_none) (by rw [cut_from, ← List.map_drop]))) (by rw [List.length_drop]; omega) (by simp) fun x _ => ev_cbd (ea_consd (ev_var rfl) (ea_consd (ev_var rfl) ea_nil)) rc_min2) (by rw [List.map_map]; rfl)).evd ea_nil) (rc_sum (.inl (.inl rfl)))) rfl) trivial rfl) ?_
  refine sx_retd (Ev.to (y := .d (.int (room a k))) (ev_opd (ev_opd (ev_opd (ev_var rfl) (ev_opd (ev_var rfl) ev_int rv_sub) (rv_mul (.inl ⟨by omega, by omega⟩))) (ev_var rfl) rv_add) (ev_cbd (ea_consd (Ev.to (y := .d (tI ((dn a).take k))) (ev_slT (ev_var (i := 2) rfl) eo_none (eo_somed (ev_var rfl))) (by rw [cut_to, ← List.map_take]; rfl)) ea_nil) (rc_sum (.inr (.inl rfl)))) rv_sub) rfl) fun a' k' e => ?_
  have e1 := tI_inj (Dv.d.inj (List.cons.inj e).1)
  have e2 := PyData.int.inj (Dv.d.inj (List.cons.inj (List.cons.inj e).2).1)
  have e2 : k = k' := by omega
  subst e1; subst e2
  rfl
theorem ok_rooms_of {f : Addr} {fd : FuncData} (F : Fun K "rooms_of" "rooms_of" s_rooms_of f fd) (B : Blt mg) (c_room_of : Cl P w K mg base 2 "room_of" (sp_room_of K)) : FnOk P w K mg base CX0 3 f fd ["counts"] (sp_rooms_of K) := by
  refine fnL F sc_rooms_of (fun xs ⟨x, e, _⟩ => by rw [e]; rfl) fun cdv A outer s H E hr => ?_
  have hu := hr.units
  refine ⟨_, (pss_one (ps_ret (pe_lc (own := [("many", 1)]) (g := (gName 1)) (tt := tYes) (te := (tCall (sp_room_of K) [] E0 (tCons (tVar 0) (tCons (tVar 1) tNil)))) (by rfl) sc_rooms_of.nd (pi_range2 (by rfl) B.n_range (pa_cons pe_int (pa_cons (pe_op op_addG (pe_callB call_lenG (by rfl) B.n_len (by decide +kernel) (pa_cons (pv 0) pa_nil)) pe_int) pa_nil))) (blkOk_by (own := [("many", 1)]) (by first | decide +kernel | rfl)) (fun _ _ _ _ _ => (pg_name (i := 1) sc_rooms_of.nd rfl (by first | exact Or.inl rfl | exact Or.inr rfl))) (fun _ _ _ _ _ => pts_nil) (fun _ _ _ _ _ => (pe_cl c_room_of hr (by decide) (by rfl) (pa_cons (pv 0) (pa_cons (pv 1) pa_nil))))))), fun xs ⟨a, e, hl⟩ => ?_⟩
  subst e
  refine sx_retL (ev_lcRange (lo := 1) (n := a.length) (fun i => .int (room a (i + 1))) ((ei_range2 (lo := 1) (n := (a.length : Int) + 1) (ea_consd ev_int (ea_consd (ev_opd (Ev.to (ev_cbd (ea_consd (ev_var (i := 0) (x := .d (tI a)) rfl) ea_nil) (rc_len (.inl rfl) (.inr rfl))) (by rw [List.length_map])) ev_int rv_add) ea_nil)) (by omega) (by omega) (by omega) (by omega)).imp fun m f ⟨e1, e2⟩ => ⟨by rw [e1]; omega, e2⟩) (by omega) (by simp) fun i hi => ev_calld (ea_consd (ev_var (i := 0) (x := .d (tI a)) rfl) (ea_consd (ev_var (i := 1) rfl) ea_nil)) ⟨a, i + 1, by rw [Int.add_comm]; rfl, by omega, by omega⟩ fun z hz => hz a (i + 1) (by rw [Int.add_comm]; rfl)) fun ys hy a' e => ?_
  have e1 := tI1 e
  subst e1; subst hy
  unfold roomsL
  rw [List.map_map]
  rfl
theorem ok_bars_of {f : Addr} {fd : FuncData} (F : Fun K "bars_of" "bars_of" s_bars_of f fd) (B : Blt mg) (c_rooms_of : Cl P w K mg base 3 "rooms_of" (sp_rooms_of K)) : FnOk P w K mg base CX0 4 f fd ["counts"] (sp_bars_of K) := by
  refine fnL F sc_bars_of (fun xs ⟨x, e, _⟩ => by rw [e]; rfl) fun cdv A outer s H E hr => ?_
  have hu := hr.units
  refine ⟨_, (pss_one (ps_ret (pe_lc (own := [("at", 1), ("room", 2)]) (g := (gTup K 2 (gCons (gName 1) (gCons (gName 2) gNil)))) (tt := (tTest (tOp rLtI (tVar 2) (tC (.int 0))))) (te := (tOp (rAddG K) (tVar 1) (tC (.int 1)))) (by rfl) sc_bars_of.nd (pi_enumS (by rfl) B.n_enumerate (pa_cons (pe_cl c_rooms_of hr (by decide) (by rfl) (pa_cons (pv 0) pa_nil)) pa_nil)) (blkOk_by (own := [("at", 1), ("room", 2)]) (by first | decide +kernel | rfl)) (fun _ _ _ _ _ => (pg_tup (by rfl) (pgs_cons (pg_name (i := 1) sc_bars_of.nd rfl (by first | exact Or.inl rfl | exact Or.inr rfl)) (pgs_cons (pg_name (i := 2) sc_bars_of.nd rfl (by first | exact Or.inl rfl | exact Or.inr rfl)) pgs_nil)))) (fun _ _ _ _ _ => (pts_one (pt_cmpR op_ltG (pv 2) pe_int (nomark _)))) (fun _ _ _ _ _ => (pe_op op_addG (pv 1) pe_int))))), fun xs ⟨a, e, hl⟩ => ?_⟩
  subst e
  have rl : (roomsL a).length = a.length := by simp [roomsL]
  refine sx_retL (ev_lcEnum (roomsL a) .int (fun _ x => decide (x < 0)) (fun i _ => .int ((i : Int) + 1)) (ei_enum (ea_consd (ev_callLd (ea_consd (ev_var rfl) ea_nil) ⟨a, rfl, hl⟩ fun z hz => hz a rfl).evd ea_nil) (.inl rfl)) (by omega) (by simp) (by simp) fun i hi => ⟨et_testd (ev_opd (ev_var rfl) ev_int rv_lt), fun _ => ev_opd (ev_var rfl) ev_int rv_add⟩) fun ys hy a' e => ?_
  have e1 := tI1 e
  subst e1; subst hy
  unfold barsL
  rw [List.map_map]
  rfl
theorem ok_can_be {f : Addr} {fd : FuncData} (F : Fun K "can_be" "can_be" s_can_be f fd) (B : Blt mg) (c_bars_of : Cl P w K mg base 4 "bars_of" (sp_bars_of K)) : FnOk P w K mg base CX0 5 f fd ["counts"] (sp_can_be K) := by
  refine fnG F sc_can_be (fun xs ⟨x, e, _⟩ => by rw [e]; rfl) fun cdv A outer s H E hr => ?_
  have hu := hr.units
  refine ⟨_, (pss_one (ps_ret (pe_and (pe_cmpR (op_eqP hu) (pe_op op_modG (pe_callTy call_intG (by rfl) B.n_int (by decide +kernel) (pa_cons (pe_callB (cr_sumD rfl) (by rfl) B.n_sum (by decide +kernel) (pa_cons (pv 0) pa_nil)) pa_nil)) pe_int) pe_int (nomark _)) (pe_one (pe_cmpR (op_eqP hu) (pe_cl c_bars_of hr (by decide) (by rfl) (pa_cons (pv 0) pa_nil)) (pe_lst pa_nil) (nomark _)))))), fun xs ⟨a, e, hl⟩ => ?_⟩
  subst e
  refine sx_retd (ev_andd (ev_opd (ev_opd (ev_cbd (ea_consd (ev_cbd (ea_consd (ev_var rfl) ea_nil) (rc_sum (.inr (.inl rfl)))) ea_nil) rc_int) ev_int (rv_mod (by omega))) ev_int rv_eqI) fun _ => Ev.to (y := .d (.bool (decide (barsL a = [])))) (ev_opd (ev_callLd (ea_consd (ev_var rfl) ea_nil) ⟨a, rfl, hl⟩ fun z hz => hz a rfl).evd (ev_lstd ea_nil .nil (by simp)).evd (rv_eq (.inl rfl) (.inl rfl) (flat_lI _) (flat_lI []))) (congrArg (fun b => Dv.d (.bool b)) (eqv_lI (barsL a) []))) fun a' e => ?_
  have e1 := tI1 e
  subst e1
  rfl
theorem ok_rooms {f : Addr} {fd : FuncData} (F : Fun K "rooms" "rooms" s_rooms f fd) (B : Blt mg) (c_want_list : Cl P w K mg base 4 "want_list" (sp_want_list K)) (c_rooms_of : Cl P w K mg base 3 "rooms_of" (sp_rooms_of K)) : FnOk P w K mg base CX0 5 f fd ["counts"] (sp_rooms K) := by
  refine fnL F sc_rooms (fun xs ⟨x, e, _⟩ => by rw [e]; rfl) fun cdv A outer s H E hr => ?_
  have hu := hr.units
  refine ⟨_, (pss_cons (ps_expr (pe_cl c_want_list hr (by decide) (by rfl) (pa_cons (pv 0) pa_nil)))
      (pss_one (ps_ret (pe_cl c_rooms_of hr (by decide) (by rfl) (pa_cons (pv 0) pa_nil))))), fun xs ⟨a, e, ga⟩ => ?_⟩
  subst e
  refine sx_seqd (sx_drop (ev_calld (P := fun _ => True) (ea_consd (ev_var rfl) ea_nil) ⟨_, rfl, gd_isList ga⟩ fun z _ => trivial) rfl) ?_
  exact sx_retL (ev_callLd (ea_consd (ev_var rfl) ea_nil) ⟨a, rfl, by have := ga.2.1; omega⟩ fun z hz => hz a rfl) fun ys hy a' e => by have e1 := tI1 e; subst e1; exact hy
theorem ok_bars {f : Addr} {fd : FuncData} (F : Fun K "bars" "bars" s_bars f fd) (B : Blt mg) (c_want_list : Cl P w K mg base 4 "want_list" (sp_want_list K)) (c_bars_of : Cl P w K mg base 4 "bars_of" (sp_bars_of K)) : FnOk P w K mg base CX0 5 f fd ["counts"] (sp_bars K) := by
  refine fnL F sc_bars (fun xs ⟨x, e, _⟩ => by rw [e]; rfl) fun cdv A outer s H E hr => ?_
  have hu := hr.units
  refine ⟨_, (pss_cons (ps_expr (pe_cl c_want_list hr (by decide) (by rfl) (pa_cons (pv 0) pa_nil)))
      (pss_one (ps_ret (pe_cl c_bars_of hr (by decide) (by rfl) (pa_cons (pv 0) pa_nil))))), fun xs ⟨a, e, ga⟩ => ?_⟩
  subst e
  refine sx_seqd (sx_drop (ev_calld (P := fun _ => True) (ea_consd (ev_var rfl) ea_nil) ⟨_, rfl, gd_isList ga⟩ fun z _ => trivial) rfl) ?_
  exact sx_retL (ev_callLd (ea_consd (ev_var rfl) ea_nil) ⟨a, rfl, by have := ga.2.1; omega⟩ fun z hz => hz a rfl) fun ys hy a' e => by have e1 := tI1 e; subst e1; exact hy
theorem ok_is_possible {f : Addr} {fd : FuncData} (F : Fun K "is_possible" "is_possible" s_is_possible f fd) (B : Blt mg) (c_want_list : Cl P w K mg base 4 "want_list" (sp_want_list K)) (c_can_be : Cl P w K mg base 5 "can_be" (sp_can_be K)) : FnOk P w K mg base CX0 6 f fd ["counts"] (sp_is_possible K) := by
  refine fnG F sc_is_possible (fun xs ⟨x, e, _⟩ => by rw [e]; rfl) fun cdv A outer s H E hr => ?_
  have hu := hr.units
  refine ⟨_, (pss_cons (ps_expr (pe_cl c_want_list hr (by decide) (by rfl) (pa_cons (pv 0) pa_nil)))
      (pss_one (ps_ret (pe_cl c_can_be hr (by decide) (by rfl) (pa_cons (pv 0) pa_nil))))), fun xs ⟨a, e, ga⟩ => ?_⟩
  subst e
  refine sx_seqd (sx_drop (ev_calld (P := fun _ => True) (ea_consd (ev_var rfl) ea_nil) ⟨_, rfl, gd_isList ga⟩ fun z _ => trivial) rfl) ?_
  exact sx_retd (ev_calld (ea_consd (ev_var rfl) ea_nil) ⟨a, rfl, by have := ga.2.1; omega⟩ fun z hz => hz a rfl) fun a' e => by have e1 := tI1 e; subst e1; rfl
end
end K35
end
section
namespace K35
open PySem PySem.Spec PyProof.Rows L2 RZ HM MJ
abbrev s_greatest_others : Stmt := topS 38
theorem sc_greatest_others : FnScope ["counts", "person", "some", "one", "left"] ["counts", "person"] (defScope s_greatest_others) := ⟨rfl, rfl, rfl, by decide +kernel, rfl, by decide +kernel, by decide +kernel⟩
abbrev s_less : Stmt := topS 39
theorem sc_less : FnScope ["counts", "person", "lot", "found", "one", "left"] ["counts", "person", "lot"] (defScope s_less) := ⟨rfl, rfl, rfl, by decide +kernel, rfl, by decide +kernel, by decide +kernel⟩
abbrev s_told_rows : Stmt := topS 40
theorem sc_told_rows : FnScope ["counts", "found", "here", "person", "lot"] ["counts"] (defScope s_told_rows) := ⟨rfl, rfl, rfl, by decide +kernel, rfl, by decide +kernel, by decide +kernel⟩
abbrev s_web_by : Stmt := topS 41
theorem sc_web_by : FnScope ["counts", "row", "pairs", "person", "lot", "one"] ["counts", "row"] (defScope s_web_by) := ⟨rfl, rfl, rfl, by decide +kernel, rfl, by decide +kernel, by decide +kernel⟩
abbrev s_told_web : Stmt := topS 42
theorem sc_told_web : FnScope ["counts", "row"] ["counts"] (defScope s_told_web) := ⟨rfl, rfl, rfl, by decide +kernel, rfl, by decide +kernel, by decide +kernel⟩
abbrev s_web_of : Stmt := topS 43
theorem sc_web_of : FnScope ["counts"] ["counts"] (defScope s_web_of) := ⟨rfl, rfl, rfl, by decide +kernel, rfl, by decide +kernel, by decide +kernel⟩
def ii (q : Int × Int) : PyData := .tuple [.int q.1, .int q.2]
def rowE (q : Int × List Int) : PyData := .tuple [.int q.1, tI q.2]
theorem ii_alike (a b : Int × Int) : PySem.W.alike (ii a) (ii b) = true := by simp [ii, PySem.W.alike, PySem.W.alikeAll]
theorem ii_depth (a : Int × Int) : (ii a).depth ≤ 40 := by simp [ii, PyData.depth, PyData.depthAll]
theorem ii_le : PySem.W.dataLe false ii = lexB := PySem.W.dataLe_ii Prod.fst Prod.snd
theorem open1_len (c : List Int) (p : Nat) : (open1 c p).length ≤ c.length := by
  unfold open1
  rw [List.length_map]
  have := List.length_filter_le (fun q : Int × Nat => decide (q.2 ≠ p) && decide (0 < q.1)) c.zipIdx
  rwa [List.length_zipIdx] at this
theorem mx_top (a : List Int) : mx a = top a := by cases a <;> rfl
theorem idx_at : ∀ {l : List Int} {x : Int}, x ∈ l → l[l.idxOf x]? = some x ∧ ∀ m, m < l.idxOf x → l[m]? ≠ some x
  | y :: l, x, h => by
    by_cases e : y = x
    · subst e
      rw [List.idxOf_cons_self]
      exact ⟨rfl, fun m hm => absurd hm (by omega)⟩
    · have h' : x ∈ l := (List.mem_cons.mp h).resolve_left fun z => e z.symm
      obtain ⟨h1, h2⟩ := idx_at h'
      have eb : (y == x) = false := beq_eq_false_iff_ne.mpr e
      rw [List.idxOf_cons, eb]
      show (y :: l)[l.idxOf x + 1]? = some x ∧ ∀ m, m < l.idxOf x + 1 → (y :: l)[m]? ≠ some x
      refine ⟨h1, fun m hm => ?_⟩
      cases m with
      | zero => intro z; exact e (Option.some.inj z)
      | succ m => exact h2 m (by omega)
abbrev sp_greatest_others (K : PySem.W.Frag) : Sp := spG K (fun xs => ∃ (c : List Int) (p : Nat), xs = [.d (tI c), .d (.int p)] ∧ c.length ≤ 10 ∧ ∃ h : p < c.length, 0 ≤ c[p]) (fun xs z => ∀ (c : List Int) (p : Nat), xs = [.d (tI c), .d (.int p)] → (((open1 c p).length : Int) < c.getD p 0 → z = .d .none) ∧ (¬ ((open1 c p).length : Int) < c.getD p 0 → ∃ L, z = .d (tI L) ∧ L.Perm (lot1 c p)))
abbrev sp_less (K : PySem.W.Frag) : Sp := spG K (fun xs => ∃ (c : List Int) (p : Nat) (L : List Int), xs = [.d (tI c), .d (.int p), .d (tI L)] ∧ c.length ≤ 10 ∧ p < c.length) (fun xs z => ∀ (c : List Int) (p : Nat) (L : List Int), xs = [.d (tI c), .d (.int p), .d (tI L)] → z = .z ((less1 c p L).map .int))
def RowsOk (rows : List (Int × List Int)) : Prop := rows.length ≤ 8 ∧ ∀ q ∈ rows, q.2.length ≤ 10
abbrev sp_told_rows (K : PySem.W.Frag) : Sp := spG K (fun xs => ∃ (c : List Int), xs = [.z (c.map .int)] ∧ 1 ≤ c.length ∧ c.length ≤ 10 ∧ hh 8 c = true) (fun xs z => ∃ rows : List (Int × List Int), z = .d (.list (rows.map rowE)) ∧ RowsOk rows)
abbrev sp_web_by (K : PySem.W.Frag) : Sp := spG K (fun xs => ∃ (c : List Int) (rows : List (Int × List Int)), xs = [.z (c.map .int), .d (.list (rows.map rowE))] ∧ RowsOk rows) (fun xs z => ∃ ds, z = .d (.tuple ds))
abbrev sp_told_web (K : PySem.W.Frag) : Sp := spG K (fun xs => ∃ (c : List Int), xs = [.z (c.map .int)] ∧ 1 ≤ c.length ∧ c.length ≤ 10 ∧ hh 8 c = true) (fun xs z => ∃ ds, z = .d (.tuple ds))
abbrev sp_web_of (K : PySem.W.Frag) : Sp := spG K (fun xs => ∃ (c : List Int), xs = [.z (c.map .int)] ∧ Gd c ∧ hh 8 c = true) (fun xs z => ∃ ds, z = .d (.tuple ds))
theorem int_list_inj {a b : List Int} (h : a.map PyData.int = b.map .int) : a = b := map_int_inj h
section
variable {P : Program} {w : World} {K : PySem.W.Frag} {mg : Str → Option Value} {base : Heap}
theorem ok_greatest_others {f : Addr} {fd : FuncData} (F : Fun K "greatest_others" "greatest_others" s_greatest_others f fd) (B : Blt mg) : FnOk P w K mg base CX0 1 f fd ["counts", "person"] (sp_greatest_others K) := by
  refine fnG F sc_greatest_others (fun xs ⟨c, p, e, _⟩ => by rw [e]; rfl) fun cdv A outer s H E hr => ?_
  have hu := hr.units
  refine ⟨_, (pss_cons (ps_setLc (i := 2) (own := [("one", 3), ("left", 4)]) (g := (gTup K 2 (gCons (gName 3) (gCons (gName 4) gNil)))) (tt := (tAnd (tTest (tOp (rNeP K) (tVar 3) (tVar 1))) (tTest (tOp rGtI (tVar 4) (tC (.int 0)))))) (te := (tTup (tCons (tOp rSubI (tC (.int 0)) (tVar 4)) (tCons (tVar 3) tNil)))) (by rfl) sc_greatest_others.nd rfl rfl (sw_true rfl rfl rfl (by decide +kernel)) (pi_enumS (by rfl) B.n_enumerate (pa_cons (pv 0) pa_nil)) (blkOk_by (own := [("one", 3), ("left", 4)]) (by first | decide +kernel | rfl)) (fun _ _ _ _ _ => (pg_tup (by rfl) (pgs_cons (pg_name (i := 3) sc_greatest_others.nd rfl (by first | exact Or.inl rfl | exact Or.inr rfl)) (pgs_cons (pg_name (i := 4) sc_greatest_others.nd rfl (by first | exact Or.inl rfl | exact Or.inr rfl)) pgs_nil)))) (fun _ _ _ _ _ => (pts_one (PW.pt (pw_and (pt_cmpR (op_neP hu) (pv 3) (pv 1) (nomark _)) (pw_and1 (pt_cmpR op_gtG (pv 4) pe_int (nomark _))))))) (fun _ _ _ _ _ => (pe_tup (pa_cons (pe_op op_subG pe_int (pv 4)) (pa_cons (pv 3) pa_nil)))))
      (pss_cons (ps_if (pt_cmpR op_ltG (pe_callB call_lenG (by rfl) B.n_len (by decide +kernel) (pa_cons (pv 2) pa_nil)) (pe_ix ix_seq (pv 0) (pv 1) (fun _ _ => rfl)) (nomark _))
      (pss_one (ps_ret pe_non))
      pss_nil)
      (pss_one (ps_ret (pe_callTy call_tupG (by rfl) B.n_tuple (by decide +kernel) (pa_cons (pe_callB (cr_sortedG hu) (by rfl) B.n_sorted (by decide +kernel) (pa_cons (pe_lc (own := [("left", 4), ("one", 3)]) (g := (gTup K 2 (gCons (gName 4) (gCons (gName 3) gNil)))) (tt := tYes) (te := (tVar 3)) (by rfl) sc_greatest_others.nd (pi_seq (pe_slice sl_seq (pe_callB (cr_sortedG hu) (by rfl) B.n_sorted (by decide +kernel) (pa_cons (pv 2) pa_nil)) po_none (po_some (pe_ix ix_seq (pv 0) (pv 1) (fun _ _ => rfl))))) (blkOk_by (own := [("left", 4), ("one", 3)]) (by first | decide +kernel | rfl)) (fun _ _ _ _ _ => (pg_tup (by rfl) (pgs_cons (pg_name (i := 4) sc_greatest_others.nd rfl (by first | exact Or.inl rfl | exact Or.inr rfl)) (pgs_cons (pg_name (i := 3) sc_greatest_others.nd rfl (by first | exact Or.inl rfl | exact Or.inr rfl)) pgs_nil)))) (fun _ _ _ _ _ => pts_nil) (fun _ _ _ _ _ => (pv 3))) pa_nil)) pa_nil)))))), fun xs ⟨c, p, e, hl, hp, h0⟩ => ?_⟩
  subst e
  have gp : (c.map PyData.int)[p]? = some (.int c[p]) := by rw [List.getElem?_map, List.getElem?_eq_getElem hp]; rfl
  have ol := open1_len c p
  have cp : c.getD p 0 = c[p] := MJ.getD_at hp
  have fin : ∀ {c' : List Int} {p' : Nat}, [Dv.d (tI c), .d (.int p)] = [.d (tI c'), .d (.int p')] → c = c' ∧ p = p' := fun {c' p'} e => by
    have e1 := tI_inj (Dv.d.inj (List.cons.inj e).1)
    have e2 := PyData.int.inj (Dv.d.inj (List.cons.inj (List.cons.inj e).2).1)
    exact ⟨e1, by omega⟩
  refine sx_seqd (es' := [.im (.d (tI c)), .im (.d (.int p)), .mu ((open1 c p).map ii), .no, .no]) (sx_setLd (EvL.to (ev_lcEnum c .int (fun i x => decide (i ≠ p) && decide (0 < x)) (fun i x => .tuple [.int (0 - x), .int i]) (ei_enum (ea_consd (ev_var (i := 0) rfl) ea_nil) (.inr rfl)) (by omega) (by simp) (by simp) fun i hi => ⟨et_andd ((et_testd (ev_opd (ev_var rfl) (ev_var (i := 1) rfl) rv_neI)).to (by rw [← decide_not, decide_eq_decide]; omega)) fun _ => et_testd (ev_opd (ev_var rfl) ev_int rv_gt), fun _ => ev_tupd (ea_consd (ev_opd ev_int (ev_var rfl) rv_sub) (ea_consd (ev_var rfl) ea_nil)) (.cons (.cons .nil)) (by show 2 ≤ 1000000; omega)⟩) (by unfold open1; rw [List.map_map]; rfl)) rfl) ?_
  refine sx_shut 2 (xs := (open1 c p).map ii) rfl ?_
  have ec : ∀ {y2 y3 y4 : Sl}, Ev K (tOp (rIx K) (tVar 0) (tVar 1)) [.im (.d (tI c)), .im (.d (.int p)), y2, y3, y4] (· = .d (.int c[p])) := fun {y2 y3 y4} => ev_opd (ev_var rfl) (ev_var rfl) (rv_ixT (atI_of gp rfl))
  refine sx_seq (M := fun es => es = [.im (.d (tI c)), .im (.d (.int p)), .im (.d (.list ((open1 c p).map ii))), .no, .no] ∧ ¬ ((open1 c p).length : Int) < c.getD p 0) (sx_if (Pb := fun b => b = decide (((open1 c p).length : Int) < c[p])) (et_testd (ev_opd (Ev.to (ev_cbd (ea_consd (ev_var (i := 2) rfl) ea_nil) (rc_len (.inl rfl) (.inl rfl))) (by rw [List.length_map])) ec rv_lt)) (fun hb => ?_) fun hb => ?_) ?_
  · refine sx_retd ev_non fun c' p' e => ?_
    obtain ⟨rfl, rfl⟩ := fin e
    exact ⟨fun _ => rfl, fun h => absurd (by rw [cp]; exact of_decide_eq_true hb.symm) h⟩
  · exact sx_next ⟨rfl, by rw [cp]; exact of_decide_eq_false hb.symm⟩
  · rintro es ⟨rfl, hn⟩
    rw [cp] at hn
    have he := isort_perm (open1 c p)
    refine sx_ret (P := fun z => ∃ L : List Int, z = .d (tI L) ∧ L.Perm (lot1 c p)) (ev_cb (ea_cons ((ev_cbL (P := fun l => ∃ ms : List Int, l = ms.map .int ∧ ms.Perm (lot1 c p) ∧ ms.Pairwise (· ≤ ·)) (Pt := fun xs => xs = [.d (lI (lot1 c p))]) (ea_consd (EvL.to (y := (lot1 c p).map .int) (ev_lcPair ((isort (open1 c p)).take (c.getD p 0).toNat) (fun q => .int q.1) (fun q => .int q.2) (fun _ => true) (fun q => .int q.2)
      (ei_seqL (xs := ((isort (open1 c p)).take (c.getD p 0).toNat).map fun q => PyData.tuple [.int q.1, .int q.2]) (EvL.evd (EvL.to (ev_slL (EvL.evd (EvL.to (ev_cbLd (ea_consd (ev_var (i := 2) rfl) ea_nil) (rcl_sortedD ii_alike (PySem.W.Sortable.tuples (enc := ii) fun b => ⟨_, _, rfl⟩) ii_depth)) (by rw [ii_le, merge_isort]))) eo_none (eo_somed ec)) (by
        have e : c[p] = (((c[p]).toNat : Nat) : Int) := by omega
        rw [cp, e, cut_to, Int.toNat_natCast, List.map_take]
        rfl)))) (by rw [List.length_take, he.length_eq]; omega) (by simp) (by simp) fun q hq => ⟨et_yes, fun _ => ev_var rfl⟩) (by
          rw [List.filter_eq_self.mpr fun _ _ => rfl]
          unfold lot1
          rw [List.map_map]
          rfl)).evd ea_nil) fun xs e => by subst e; exact rcl_sortedI (.inl (.inl rfl))).ev) ea_nil) fun xs ⟨x, ys, e, ⟨l, ex, ms, el, hp', _⟩, ey⟩ => ?_) fun z hz c' p' e => ?_
    · subst e; subst ex; subst ey; subst el
      exact fun B H vs e a Q q => rc_tupL B H vs e a Q fun x u B2 H2 ex => q x u B2 H2 ⟨ms, ex, hp'⟩
    · obtain ⟨rfl, rfl⟩ := fin e
      exact ⟨fun h => absurd h (by rw [cp]; exact hn), fun _ => hz⟩
theorem ok_less {f : Addr} {fd : FuncData} (F : Fun K "less" "less" s_less f fd) (B : Blt mg) : FnOk P w K mg base CX0 1 f fd ["counts", "person", "lot"] (sp_less K) := by
  refine fnG F sc_less (fun xs ⟨c, p, L, e, _⟩ => by rw [e]; rfl) fun cdv A outer s H E hr => ?_
  have hu := hr.units
  refine ⟨_, (pss_cons (ps_setLc (i := 3) (own := [("one", 4), ("left", 5)]) (g := (gTup K 2 (gCons (gName 4) (gCons (gName 5) gNil)))) (tt := tYes) (te := (tIf (tTest (tOp (rInP K) (tVar 4) (tVar 2))) (tOp rSubI (tVar 5) (tC (.int 1))) (tVar 5))) (by rfl) sc_less.nd rfl rfl (sw_true rfl rfl rfl (by decide +kernel)) (pi_enumS (by rfl) B.n_enumerate (pa_cons (pv 0) pa_nil)) (blkOk_by (own := [("one", 4), ("left", 5)]) (by first | decide +kernel | rfl)) (fun _ _ _ _ _ => (pg_tup (by rfl) (pgs_cons (pg_name (i := 4) sc_less.nd rfl (by first | exact Or.inl rfl | exact Or.inr rfl)) (pgs_cons (pg_name (i := 5) sc_less.nd rfl (by first | exact Or.inl rfl | exact Or.inr rfl)) pgs_nil)))) (fun _ _ _ _ _ => pts_nil) (fun _ _ _ _ _ => (pe_ifExp (pt_cmpR (op_inP hu) (pv 4) (pv 2) (by rfl)) (pe_op op_subG (pv 5) pe_int) (pv 5))))
      (pss_cons (ps_asg pe_int (pg_sub (pv 3) (pv 1) set_list))
      (pss_one (ps_ret (pe_callTy call_tupZ (by rfl) B.n_tuple (by decide +kernel) (pa_cons (pv 3) pa_nil)))))), fun xs ⟨c, p, L, e, hl, hp⟩ => ?_⟩
  subst e
  refine sx_seqd (es' := [.im (.d (tI c)), .im (.d (.int p)), .im (.d (tI L)), .mu ((c.zipIdx.map fun q => if (q.2 : Int) ∈ L then q.1 - 1 else q.1).map .int), .no, .no]) (sx_setLd (EvL.to (ev_lcEnum c .int (fun _ _ => true) (fun i x => .int (if (i : Int) ∈ L then x - 1 else x)) (ei_enum (ea_consd (ev_var (i := 0) rfl) ea_nil) (.inr rfl)) (by omega) (by simp) (by simp) fun i hi => ⟨et_yes, fun _ => ?_⟩) ?_) rfl) ?_
  · refine ev_if (Pb := (· = decide ((i : Int) ∈ L))) (et_testd (ev_opd (ev_var rfl) (ev_var (i := 2) rfl) rv_inT)) (fun hb => ?_) fun hb => ?_
    · rw [if_pos (of_decide_eq_true hb.symm)]
      exact ev_opd (ev_var rfl) ev_int rv_sub
    · rw [if_neg (of_decide_eq_false hb.symm)]
      exact ev_var rfl
  · rw [List.filter_eq_self.mpr fun _ _ => rfl, List.map_map]
    rfl
  · have zl : (c.zipIdx.map fun q => if (q.2 : Int) ∈ L then q.1 - 1 else q.1).length = c.length := by simp
    refine sx_seq (M := fun es => es = [.im (.d (tI c)), .im (.d (.int p)), .im (.d (tI L)), .mu ((less1 c p L).map .int), .no, .no]) (sx_setItem (i := 3) (j := p) (xs := (c.zipIdx.map fun q => if (q.2 : Int) ∈ L then q.1 - 1 else q.1).map .int) rfl ev_int (ev_var rfl) (by rw [List.length_map, zl]; exact hp) fun x e => ⟨_, e, ?_⟩) ?_
    · unfold less1
      rw [List.map_set]
      rfl
    · rintro es rfl
      refine sx_shut 3 (xs := (less1 c p L).map .int) rfl ?_
      refine sx_retd (ev_cbd (ea_consd (ev_var (i := 3) rfl) ea_nil) rc_tupZ) fun c' p' L' e => ?_
      have e1 := tI_inj (Dv.d.inj (List.cons.inj e).1)
      have e2 := PyData.int.inj (Dv.d.inj (List.cons.inj (List.cons.inj e).2).1)
      have e3 := tI_inj (Dv.d.inj (List.cons.inj (List.cons.inj (List.cons.inj e).2).2).1)
      have e2 : p = p' := by omega
      subst e1; subst e2; subst e3
      rfl
theorem ok_told_rows {f : Addr} {fd : FuncData} (F : Fun K "told_rows" "told_rows" s_told_rows f fd) (B : Blt mg) (c_greatest_others : Cl P w K mg base 1 "greatest_others" (sp_greatest_others K)) (c_less : Cl P w K mg base 1 "less" (sp_less K)) : FnOk P w K mg base CX0 2 f fd ["counts"] (sp_told_rows K) := by
  refine fnG F sc_told_rows (fun xs ⟨c, e, _⟩ => by rw [e]; rfl) fun cdv A outer s H E hr => ?_
  have hu := hr.units
  refine ⟨_, (pss_cons (ps_par (i := 1) (j := 2) rfl sc_told_rows.nd rfl rfl (by decide) rfl rfl (pa_cons (pe_lst pa_nil) (pa_cons (pv 0) pa_nil)) (by rfl))
      (pss_cons (ps_while PassesOwn.never (pt_cmpR op_gtG (pe_callB (call_maxG rfl hu) (by rfl) B.n_max (by decide +kernel) (pa_cons (pv 2) pa_nil)) pe_int (nomark _))
      (pss_cons (ps_set (i := 3) sc_told_rows.nd rfl (.inl rfl) (pe_tm PySem.F.plainAttrs_tuple PySem.F.slot_tuple_index PySem.F.type_tuple_index mt_tupIx (pv 2) (pa_cons (pe_callB (call_maxG rfl hu) (by rfl) B.n_max (by decide +kernel) (pa_cons (pv 2) pa_nil)) pa_nil)))
      (pss_cons (ps_set (i := 4) sc_told_rows.nd rfl (.inl rfl) (pe_cl c_greatest_others hr (by decide) (by rfl) (pa_cons (pv 2) (pa_cons (pv 3) pa_nil))))
      (pss_cons (ps_if (pt_cmpR op_isG (pv 4) pe_non (nomark _))
      (pss_one (ps_ret pe_non))
      pss_nil)
      (pss_cons (ps_expr (pe_bm PySem.F.plainAttrs_list PySem.F.slot_list_append PySem.F.type_list_append mt_append (pv 1) (pa_cons (pe_tup (pa_cons (pv 3) (pa_cons (pv 4) pa_nil))) pa_nil)))
      (pss_one (ps_set (i := 2) sc_told_rows.nd rfl (.inl rfl) (pe_cl c_less hr (by decide) (by rfl) (pa_cons (pv 2) (pa_cons (pv 3) (pa_cons (pv 4) pa_nil)))))))))))
      (pss_one (ps_ret (pv 1))))), fun xs ⟨c0, e, h1, h2, hh0⟩ => ?_⟩
  subst e
  refine sx_seqd (es' := [.im (.z (c0.map .int)), .mu (([] : List (Int × List Int)).map rowE), .im (.z (c0.map .int)), .no, .no]) (sx_parM (a := .l []) (b := .v (.z (c0.map .int))) (em_l (ev_lstd ea_nil .nil (by simp)) (em_v trivial (ev_var rfl) em_nil)) rfl) ?_
  refine sx_seq (M := fun es => ∃ rows y2 y3 y4, es = [.im (.z (c0.map .int)), .mu (rows.map rowE), y2, y3, y4] ∧ RowsOk rows) ?_ fun es ⟨rows, y2, y3, y4, e, hr⟩ => by subst e; exact sx_retMu (i := 1) rfl ⟨rows, rfl, hr⟩
  refine sx_whileN (m0 := 8) (fun m es => ∃ (c : List Int) (rows : List (Int × List Int)) (y3 y4 : Sl), es = [.im (.z (c0.map .int)), .mu (rows.map rowE), .im (.z (c.map .int)), y3, y4] ∧ c.length = c0.length ∧ hh m c = true ∧ rows.length + m ≤ 8 ∧ ∀ q ∈ rows, q.2.length ≤ 10)
    (fun m es b => ∃ (c : List Int) (rows : List (Int × List Int)) (y3 y4 : Sl), es = [.im (.z (c0.map .int)), .mu (rows.map rowE), .im (.z (c.map .int)), y3, y4] ∧ c.length = c0.length ∧ hh m c = true ∧ rows.length + m ≤ 8 ∧ (∀ q ∈ rows, q.2.length ≤ 10) ∧ b = decide (0 < mx c)) ⟨c0, [], _, _, rfl, rfl, hh0, Nat.le_refl _, fun q hq => nomatch hq⟩ ?_ ?_ ?_
  · rintro m es ⟨c, rows, y3, y4, rfl, hl, hm, hr1, hr2⟩
    obtain ⟨n, r, ec⟩ : ∃ n r, c = n :: r := by
      cases c with
      | nil => simp at hl; omega
      | cons n r => exact ⟨n, r, rfl⟩
    refine (et_testd (ev_opd (Ev.to (y := .d (.int (mx c))) (ev_cbd (ea_consd (Ev.zd (ev_var (i := 2) rfl)) ea_nil) (rc_max (n := n) (ns := r) (.inr (.inl (by rw [ec]; rfl))))) (by rw [ec]; rfl)) ev_int rv_gt)).imp fun b e => ⟨c, rows, y3, y4, rfl, hl, hm, hr1, hr2, e⟩
  · rintro m es - ⟨c, rows, y3, y4, rfl, hl, hm, hr1, hr2, hb⟩
    have hpos := of_decide_eq_true hb.symm
    obtain ⟨n, r, ec⟩ : ∃ n r, c = n :: r := by
      cases c with
      | nil => simp at hl; omega
      | cons n r => exact ⟨n, r, rfl⟩
    have hmem : mx c ∈ c := by rw [mx_top]; exact top_mem c (by rw [ec]; exact List.cons_ne_nil _ _)
    obtain ⟨i1, i2⟩ := idx_at hmem
    generalize hp : c.idxOf (mx c) = p at *
    have hpl : p < c.length := (List.getElem?_eq_some_iff.mp i1).1
    have hcp : c[p] = mx c := (List.getElem?_eq_some_iff.mp i1).2
    match m with
    | 0 =>
      have hm' : mx c ≤ 0 := of_decide_eq_true hm
      omega
    | m + 1 =>
      have hm' : hh (m + 1) c = (decide (mx c ≤ 0) || (!decide (((open1 c p).length : Int) < c.getD p 0) && hh m (less1 c p (lot1 c p)))) := by
        rw [← hp]
        rfl
      rw [hm'] at hm
      have h3 : decide (mx c ≤ 0) = false := decide_eq_false (by omega)
      rw [h3, Bool.false_or, Bool.and_eq_true] at hm
      obtain ⟨hno, hnext⟩ := hm
      have hno : ¬ ((open1 c p).length : Int) < c.getD p 0 := by simpa using hno
      refine sx_seqd (es' := [.im (.z (c0.map .int)), .mu (rows.map rowE), .im (.z (c.map .int)), .im (.d (.int p)), y4]) (sx_setd (ev_tupIx (z := mx c) (ev_var (i := 2) rfl) (Ev.to (y := .d (.int (mx c))) (ev_cbd (ea_consd (Ev.zd (ev_var (i := 2) rfl)) ea_nil) (rc_max (n := n) (ns := r) (.inr (.inl (by rw [ec]; rfl))))) (by rw [ec]; rfl)) i1 i2) trivial rfl) ?_
      refine sx_seq (M := fun es => ∃ L, es = [.im (.z (c0.map .int)), .mu (rows.map rowE), .im (.z (c.map .int)), .im (.d (.int p)), .im (.d (tI L))] ∧ L.Perm (lot1 c p)) (sx_set (P := fun z => ∃ L, z = .d (tI L) ∧ L.Perm (lot1 c p)) (ev_calld (ea_consd (Ev.zd (ev_var (i := 2) rfl)) (ea_consd (ev_var rfl) ea_nil)) ⟨c, p, rfl, by omega, hpl, by omega⟩ fun z hz => (hz c p rfl).2 hno) fun x ⟨L, e, h⟩ => by subst e; exact ⟨trivial, L, rfl, h⟩) ?_
      rintro es ⟨L, rfl, hL⟩
      have lotl : L.length ≤ 10 := by
        rw [hL.length_eq]
        unfold lot1
        rw [List.length_map, List.length_take, (isort_perm _).length_eq]
        have := open1_len c p
        omega
      refine sx_ifGo ((et_testd (ev_opd (ev_var (i := 4) rfl) ev_non rv_isNon)).to rfl) ?_
      refine sx_seqd (es' := [.im (.z (c0.map .int)), .mu ((rows ++ [((p : Int), L)]).map rowE), .im (.z (c.map .int)), .im (.d (.int p)), .im (.d (tI L))]) (sx_app (i := 1) (xs := rows.map rowE) rfl (ev_tupd (ea_consd (ev_var rfl) (ea_consd (ev_var rfl) ea_nil)) (.cons (.cons .nil)) (by show 2 ≤ 1000000; omega)) (by rw [List.length_map]; omega) fun x e => ⟨_, e, by rw [List.map_append]; rfl⟩) ?_
      refine sx_setd (x := .z ((less1 c p (lot1 c p)).map .int)) (ev_calld (ea_consd (Ev.zd (ev_var (i := 2) rfl)) (ea_consd (ev_var rfl) (ea_consd (ev_var rfl) ea_nil))) ⟨c, p, L, rfl, by omega, hpl⟩ fun z hz => by rw [hz c p L rfl, less1_congr hL]) trivial ?_
      refine ⟨m, Nat.lt_succ_self m, less1 c p (lot1 c p), rows ++ [((p : Int), L)], _, _, rfl, by rw [less1_len]; exact hl, hnext, by rw [List.length_append]; show rows.length + 1 + m ≤ 8; omega, fun q hq => ?_⟩
      rcases List.mem_append.mp hq with hq | hq
      · exact hr2 q hq
      · rw [List.mem_singleton.mp hq]
        exact lotl
  · rintro m es - ⟨c, rows, y3, y4, rfl, hl, hm, hr1, hr2, hb⟩
    exact ⟨rows, _, _, _, rfl, by omega, hr2⟩
theorem ok_web_by {f : Addr} {fd : FuncData} (F : Fun K "web_by" "web_by" s_web_by f fd) (B : Blt mg) (k_WEB_WORD : ∃ u, mg "WEB_WORD" = some u ∧ RelV (.str "web") u) (c_pair_of : Cl P w K mg base 1 "pair_of" (sp_pair_of K)) : FnOk P w K mg base CX0 2 f fd ["counts", "row"] (sp_web_by K) := by
  refine fnG F sc_web_by (fun xs ⟨c, rows, e, _⟩ => by rw [e]; rfl) fun cdv A outer s H E hr => ?_
  have hu := hr.units
  refine ⟨_, (pss_cons (ps_set (i := 2) sc_web_by.nd rfl (.inl rfl) (pe_lst pa_nil))
      (pss_cons (ps_for PassesOwn.never rfl (pi_seq (pv 1)) (pg_tup (by rfl) (pgs_cons (pg_name (i := 3) sc_web_by.nd rfl (.inr rfl)) (pgs_cons (pg_name (i := 4) sc_web_by.nd rfl (.inl rfl)) pgs_nil)))
      (pss_one (ps_expr (pe_bm PySem.F.plainAttrs_list PySem.F.slot_list_extend PySem.F.type_list_extend mt_extend (pv 2) (pa_cons (pe_lc (own := [("one", 5)]) (g := (gName 5)) (tt := tYes) (te := (tCall (sp_pair_of K) [] E0 (tCons (tVar 3) (tCons (tVar 5) tNil)))) (by rfl) sc_web_by.nd (pi_seq (pv 4)) (blkOk_by (own := [("one", 5)]) (by first | decide +kernel | rfl)) (fun _ _ _ _ _ => (pg_name (i := 5) sc_web_by.nd rfl (by first | exact Or.inl rfl | exact Or.inr rfl))) (fun _ _ _ _ _ => pts_nil) (fun _ _ _ _ _ => (pe_cl c_pair_of hr (by decide) (by rfl) (pa_cons (pv 3) (pa_cons (pv 5) pa_nil))))) pa_nil)))))
      (pss_one (ps_ret (pe_tup (pa_cons (C8.pe_gc (by rfl) k_WEB_WORD) (pa_cons (pe_callB call_lenG (by rfl) B.n_len (by decide +kernel) (pa_cons (pv 0) pa_nil)) (pa_cons (pe_callTy call_tupG (by rfl) B.n_tuple (by decide +kernel) (pa_cons (pe_callB (cr_sortedG hu) (by rfl) B.n_sorted (by decide +kernel) (pa_cons (pv 2) pa_nil)) pa_nil)) pa_nil)))))))), fun xs ⟨c, rows, e, h1, h2⟩ => ?_⟩
  subst e
  refine sx_seqd (es' := [.im (.z (c.map .int)), .im (.d (.list (rows.map rowE))), .mu (([] : List (Int × Int)).map ii), .no, .no, .no]) (sx_setLd (ev_lstd ea_nil .nil (by simp)) rfl) ?_
  refine sx_seq (M := fun es => ∃ (ps : List (Int × Int)) (y3 y4 y5 : Sl), es = [.im (.z (c.map .int)), .im (.d (.list (rows.map rowE))), .mu (ps.map ii), y3, y4, y5]) ?_ ?_
  · refine sx_forPair rows (fun q => .int q.1) (fun q => tI q.2) (ei_seqL (xs := rows.map rowE) (ev_var rfl)) (fun a es => ∃ (ps : List (Int × Int)) (y3 y4 y5 : Sl), es = [.im (.z (c.map .int)), .im (.d (.list (rows.map rowE))), .mu (ps.map ii), y3, y4, y5] ∧ ps.length ≤ 10 * a) ⟨[], _, _, _, rfl, Nat.le_refl _⟩ ?_ fun es ⟨ps, y3, y4, y5, e, _⟩ => ⟨ps, y3, y4, y5, e⟩
    rintro a ha es ⟨ps, y3, y4, y5, rfl, hps⟩
    have hl := h2 _ (List.getElem_mem ha)
    generalize rows[a] = q at *
    obtain ⟨p, L⟩ := q
    refine sx_ext (i := 2) (xs := ps.map ii) rfl (ev_lcMap L .int (fun x => ii (min p x, max p x)) (ei_seqT (ev_var (i := 4) rfl)) (by have : L.length ≤ 10 := hl; omega) (by simp) fun x _ => ev_calld (ea_consd (ev_var rfl) (ea_consd (ev_var rfl) ea_nil)) ⟨p, x, rfl⟩ fun z hz => hz p x rfl) (by rw [List.length_map]; omega) fun ys hy => ?_
    subst hy
    have hL : L.length ≤ 10 := hl
    refine ⟨by rw [List.length_map]; omega, ps ++ L.map (fun x => (min p x, max p x)), .im (.d (.int p)), .im (.d (tI L)), y5, ?_, ?_⟩
    · rw [List.map_append, List.map_map]
      rfl
    · rw [List.length_append, List.length_map]
      omega
  · rintro es ⟨ps, y3, y4, y5, rfl⟩
    refine sx_shut 2 (xs := ps.map ii) rfl ?_
    refine sx_retd (ev_tupd (ea_consd ev_str (ea_consd (ev_cbd (ea_consd (Ev.zd (ev_var (i := 0) rfl)) ea_nil) (rc_len (.inl rfl) (.inr rfl))) (ea_consd (ev_cbd (ea_consd (ev_cbLd (ea_consd (ev_var (i := 2) rfl) ea_nil) (rcl_sortedD ii_alike (PySem.W.Sortable.tuples (enc := ii) fun b => ⟨_, _, rfl⟩) ii_depth)).evd ea_nil) rc_tupL) ea_nil))) (.cons (.cons (.cons .nil))) (by show 3 ≤ 1000000; omega)) ⟨_, rfl⟩
theorem ok_told_web {f : Addr} {fd : FuncData} (F : Fun K "told_web" "told_web" s_told_web f fd) (B : Blt mg) (c_told_rows : Cl P w K mg base 2 "told_rows" (sp_told_rows K)) (c_web_by : Cl P w K mg base 2 "web_by" (sp_web_by K)) : FnOk P w K mg base CX0 3 f fd ["counts"] (sp_told_web K) := by
  refine fnG F sc_told_web (fun xs ⟨c, e, _⟩ => by rw [e]; rfl) fun cdv A outer s H E hr => ?_
  have hu := hr.units
  refine ⟨_, (pss_cons (ps_set (i := 1) sc_told_web.nd rfl (.inl rfl) (pe_cl c_told_rows hr (by decide) (by rfl) (pa_cons (pv 0) pa_nil)))
      (pss_one (ps_ret (pe_ifExp (pt_cmpR op_isG (pv 1) pe_non (nomark _)) pe_non (pe_cl c_web_by hr (by decide) (by rfl) (pa_cons (pv 0) (pa_cons (pv 1) pa_nil))))))), fun xs ⟨c, e, h1, h2, h3⟩ => ?_⟩
  subst e
  refine sx_seq (M := fun es => ∃ rows, es = [.im (.z (c.map .int)), .im (.d (.list (rows.map rowE)))] ∧ RowsOk rows) (sx_set (P := fun z => ∃ rows, z = .d (.list (rows.map rowE)) ∧ RowsOk rows) (ev_calld (ea_consd (ev_var rfl) ea_nil) ⟨c, rfl, h1, h2, h3⟩ fun z hz => hz) fun x ⟨rows, e, h⟩ => by subst e; exact ⟨trivial, rows, rfl, h⟩) ?_
  rintro es ⟨rows, rfl, hr⟩
  exact sx_ret (ev_if (Pb := (· = false)) ((et_testd (ev_opd (ev_var (i := 1) rfl) ev_non rv_isNon)).to rfl) (fun h => nomatch h) fun _ => ev_calld (P := fun z => ∃ ds, z = .d (.tuple ds)) (ea_consd (ev_var rfl) (ea_consd (ev_var rfl) ea_nil)) ⟨c, rows, rfl, hr⟩ fun z hz => hz) fun z hz => hz
theorem ok_web_of {f : Addr} {fd : FuncData} (F : Fun K "web_of" "web_of" s_web_of f fd) (B : Blt mg) (c_want_list : Cl P w K mg base 4 "want_list" (sp_want_list K)) (c_told_web : Cl P w K mg base 3 "told_web" (sp_told_web K)) : FnOk P w K mg base CX0 5 f fd ["counts"] (sp_web_of K) := by
  refine fnG F sc_web_of (fun xs ⟨c, e, _⟩ => by rw [e]; rfl) fun cdv A outer s H E hr => ?_
  have hu := hr.units
  refine ⟨_, (pss_cons (ps_expr (pe_cl c_want_list hr (by decide) (by rfl) (pa_cons (pv 0) pa_nil)))
      (pss_one (ps_ret (pe_cl c_told_web hr (by decide) (by rfl) (pa_cons (pv 0) pa_nil))))), fun xs ⟨c, e, g, h3⟩ => ?_⟩
  subst e
  refine sx_seqd (sx_drop (ev_calld (P := fun _ => True) (ea_consd (Ev.zd (ev_var rfl)) ea_nil) ⟨_, rfl, gd_isList g⟩ fun z _ => trivial) rfl) ?_
  exact sx_ret (P := fun z => ∃ ds, z = .d (.tuple ds)) (ev_calld (ea_consd (ev_var rfl) ea_nil) ⟨c, rfl, g.1, g.2.1, h3⟩ fun z hz => hz) fun z hz => hz
end
end K35
end
section
namespace K35
open PySem PySem.Spec PyProof.Rows L2 RZ HM MJ
abbrev s__law_pot : Stmt := topS 45
theorem sc__law_pot : FnScope ["script", "k", "cell"] ["script", "k"] (defScope s__law_pot) := ⟨rfl, rfl, rfl, by decide +kernel, rfl, by decide +kernel, by decide +kernel⟩
abbrev s__law_draw : Stmt := topS 46
theorem sc__law_draw : FnScope ["pot", "many", "digit"] ["pot", "many"] (defScope s__law_draw) := ⟨rfl, rfl, rfl, by decide +kernel, rfl, by decide +kernel, by decide +kernel⟩
abbrev s__law_pick : Stmt := topS 47
theorem sc__law_pick : FnScope ["pot", "some"] ["pot", "some"] (defScope s__law_pick) := ⟨rfl, rfl, rfl, by decide +kernel, rfl, by decide +kernel, by decide +kernel⟩
def PotPre (xs : List Dv) : Prop := ∃ (ns : List Int) (k : Int), xs = [.d (lI ns), .d (.int k)] ∧ 0 ≤ k ∧ k ≤ 1000
abbrev sp__law_pot (K : PySem.W.Frag) : Sp := spG K PotPre fun _ z => z = .pot
abbrev sp__law_draw (K : PySem.W.Frag) : Sp := spG K DrawPre DrawPost
abbrev sp__law_pick (K : PySem.W.Frag) : Sp := spG K (fun xs => ∃ ds, xs = [.pot, .d (.list ds)] ∧ ds ≠ [] ∧ ds.length ≤ 1000) (fun xs z => ∀ ds, xs = [.pot, .d (.list ds)] → ∃ d, z = .d d ∧ d ∈ ds)
section
variable {K : PySem.W.Frag} {es : List Sl} {t : TA} {E : XK} {a b : List Int} {te ta tb : TE}
theorem e_draw {n : Int} (ht : EvA K t es (· = [.pot, .d (.int n)])) (h1 : 0 < n) (h2 : n ≤ 1000000) : Ev K (tCall (sp__law_draw K) [] E t) es (fun z => ∃ d : Int, z = .d (.int d) ∧ 0 ≤ d ∧ d < n) := ev_calld ht ⟨n, rfl, h1, h2⟩ fun z hz => hz n rfl
end
section
variable {P : Program} {w : World} {K : PySem.W.Frag} {mg : Str → Option Value} {base : Heap}
theorem ok__law_draw {f : Addr} {fd : FuncData} (F : Fun K "_law_draw" "_law_draw" s__law_draw f fd) (B : Blt mg) : FnOk P w K mg base CX0 1 f fd ["pot", "many"] (sp__law_draw K) :=
  fnDraw F sc__law_draw rfl rfl (c1 := 39373) (c2 := 1543) (m1 := 2147483587) (m2 := 2147483563) (dv := 19) (by omega) (by omega) (by omega) (by omega) (by omega) (by omega) (by omega) (by omega) fun cdv A outer s H E hr => by
    have hu := hr.units
    exact (pss_cons (ps_if (pt_cmpR op_gtG (pe_ix ix_seq (pv 0) pe_int (fun _ _ => rfl)) pe_int (nomark _))
      (pss_cons (ps_asg (pe_callB call_divmodG (by rfl) B.n_divmod (by decide +kernel) (pa_cons (pe_ix ix_seq (pv 0) pe_int (fun _ _ => rfl)) (pa_cons (pv 1) pa_nil))) (pg_tup (by rfl) (pgs_cons (pg_sub (pv 0) pe_int set_list) (pgs_cons (pg_name (i := 2) sc__law_draw.nd rfl (.inl rfl)) pgs_nil))))
      (pss_one (ps_ret (pv 2))))
      pss_nil)
      (pss_cons (ps_asg (pe_op op_modG (pe_callTy call_intG (by rfl) B.n_int (by decide +kernel) (pa_cons (pe_op op_addG (pe_op op_mulG (pe_ix ix_seq (pv 0) pe_int (fun _ _ => rfl)) pe_int) pe_int) pa_nil)) pe_int) (pg_sub (pv 0) pe_int set_list))
      (pss_one (ps_ret (pe_op op_modG (pe_callTy call_intG (by rfl) B.n_int (by decide +kernel) (pa_cons (pe_op op_divG (pe_op op_modG (pe_callTy call_intG (by rfl) B.n_int (by decide +kernel) (pa_cons (pe_op op_mulG (pe_ix ix_seq (pv 0) pe_int (fun _ _ => rfl)) (pe_ix ix_seq (pv 0) pe_int (fun _ _ => rfl))) pa_nil)) pe_int) pe_int) pa_nil)) (pv 1))))))
theorem ok__law_pot {f : Addr} {fd : FuncData} (F : Fun K "_law_pot" "_law_pot" s__law_pot f fd) (B : Blt mg) : FnOk P w K mg base CX0 1 f fd ["script", "k"] (sp__law_pot K) := by
  refine fnPot (fnL F sc__law_pot (fun xs ⟨n, k, e, _⟩ => by rw [e]; rfl) fun cdv A outer s H E hr => ?_)
  have hu := hr.units
  refine ⟨_, (pss_cons (ps_set (i := 2) sc__law_pot.nd rfl (.inl rfl) (pe_op op_addG (pe_op op_mulG pe_int (pv 1)) pe_int))
      (pss_cons (ps_if (pt_cmpR op_ltG (pv 1) (pe_callB call_lenG (by rfl) B.n_len (by decide +kernel) (pa_cons (pv 0) pa_nil)) (nomark _))
      (pss_one (ps_set (i := 2) sc__law_pot.nd rfl (.inl rfl) (pe_callB call_absG (by rfl) B.n_abs (by decide +kernel) (pa_cons (pe_ix ix_seq (pv 0) (pv 1) (fun _ _ => rfl)) pa_nil))))
      pss_nil)
      (pss_one (ps_ret (pe_lst (pa_cons (pe_callB (call_maxG rfl hu) (by rfl) B.n_max (by decide +kernel) (pa_cons pe_int (pa_cons (pe_op op_subG (pv 2) (pe_op op_powG pe_int pe_int)) pa_nil))) (pa_cons (pe_op op_addG (pe_op op_modG (pe_callTy call_intG (by rfl) B.n_int (by decide +kernel) (pa_cons (pe_op op_addG (pe_op op_addG (pe_op op_mulG (pe_op op_modG (pe_callTy call_intG (by rfl) B.n_int (by decide +kernel) (pa_cons (pv 2) pa_nil)) pe_int) pe_int) (pe_op op_mulG pe_int (pv 1))) pe_int) pa_nil)) pe_int) pe_int) pa_nil))))))), fun xs ⟨ns, k, e, h0, h1⟩ => ?_⟩
  subst e
  have hl : (ns.map PyData.int).length = ns.length := List.length_map ..
  refine sx_seq (M := fun es => ∃ c : Int, es = [.im (.d (lI ns)), .im (.d (.int k)), .im (.d (.int c))]) (sx_set (P := fun x => ∃ c : Int, x = .d (.int c)) ((ev_opd (ev_opd ev_int (ev_var rfl) (rv_mul (.inr ⟨by omega, by omega⟩))) ev_int rv_add).imp fun x e => ⟨_, e⟩) fun x ⟨c, e⟩ => by subst e; exact ⟨trivial, c, rfl⟩) ?_
  rintro es ⟨c0, rfl⟩
  refine sx_seq (M := fun es => ∃ c : Int, es = [.im (.d (lI ns)), .im (.d (.int k)), .im (.d (.int c))]) (sx_if (Pb := (· = decide (k < (ns.length : Nat)))) ((et_testd (ev_opd (ev_var rfl) (ev_cbd (ea_consd (ev_var rfl) ea_nil) (rc_len (.inl rfl) (.inl rfl))) rv_lt)).imp fun c e => by rw [e, hl]) (fun hb => ?_) fun hb => sx_next ⟨c0, rfl⟩) ?_
  · have hb := of_decide_eq_true hb.symm
    have hk : k.toNat < ns.length := by omega
    refine sx_set (P := fun x => ∃ c : Int, x = .d (.int c)) ((ev_cbd (ea_consd (ev_opd (ev_var rfl) (ev_var rfl) (rv_ixL (atI_of (j := k.toNat) (v := .int ns[k.toNat]) (by rw [List.getElem?_map, List.getElem?_eq_getElem hk]; rfl) (by omega)))) ea_nil) rc_abs).imp fun x e => ⟨_, e⟩) fun x ⟨c, e⟩ => by subst e; exact ⟨trivial, c, rfl⟩
  · rintro es ⟨c, rfl⟩
    have h2 := Int.emod_nonneg c (show (2147483549 : Int) ≠ 0 by omega)
    have h3 := Int.emod_lt_of_pos c (show (0 : Int) < 2147483549 by omega)
    refine sx_retL (P := fun ys => ∃ a b, ys = [.int a, .int b] ∧ PotOk a b) (ev_lst (Pt := fun l => ∃ a b : Int, l = [.d (.int a), .d (.int b)] ∧ PotOk a b) ?_ fun xs ⟨a, b, e, ok⟩ => ⟨_, by rw [e]; exact .cons (.cons .nil), by show 2 ≤ 1000000; omega, a, b, rfl, ok⟩) fun xs h => h
    refine (ea_consd (ev_cbd (ea_consd ev_int (ea_consd (ev_opd (ev_var rfl) (ev_opd ev_int ev_int (rv_pow (by unfold CPow; omega))) rv_sub) ea_nil)) rc_max2)
      (ea_consd (ev_opd (ev_opd (ev_cbd (ea_consd (ev_opd (ev_opd (ev_opd (ev_opd (ev_cbd (ea_consd (ev_var rfl) ea_nil) rc_int) ev_int (rv_mod (by omega))) ev_int (rv_mul (.inr ⟨by omega, by omega⟩))) (ev_opd ev_int (ev_var rfl) (rv_mul (.inr ⟨by omega, by omega⟩))) rv_add) ev_int rv_add) ea_nil) rc_int) ev_int (rv_mod (by omega))) ev_int rv_add) ea_nil)).imp fun l e => ⟨_, _, e, by omega, ?_, ?_⟩
    · omega
    · omega
theorem ok__law_pick {f : Addr} {fd : FuncData} (F : Fun K "_law_pick" "_law_pick" s__law_pick f fd) (B : Blt mg) (c__law_draw : Cl P w K mg base 1 "_law_draw" (sp__law_draw K)) : FnOk P w K mg base CX0 2 f fd ["pot", "some"] (sp__law_pick K) := by
  refine fnG F sc__law_pick (fun xs ⟨n, e, _⟩ => by rw [e]; rfl) fun cdv A outer s H E hr => ?_
  have hu := hr.units
  refine ⟨_, (pss_one (ps_ret (pe_ix ix_seq (pv 1) (pe_cl c__law_draw hr (by decide) (by rfl) (pa_cons (pv 0) (pa_cons (pe_callB call_lenG (by rfl) B.n_len (by decide +kernel) (pa_cons (pv 1) pa_nil)) pa_nil))) (fun _ _ => rfl)))), fun xs ⟨ds, e, h0, h1⟩ => ?_⟩
  subst e
  have hp : 0 < ds.length := List.length_pos_iff.mpr h0
  refine sx_ret (P := fun z => ∃ d, z = .d d ∧ d ∈ ds) (ev_op (ev_var (x := .d (.list ds)) rfl) (e_draw (ea_consd (ev_var rfl) (ea_consd (ev_cbd (ea_consd (ev_var rfl) ea_nil) (rc_len (.inl rfl) (.inl rfl))) ea_nil)) (by omega) (by omega)) fun x y e1 ⟨d, e2, d0, d1⟩ => ?_) fun z hz ds' e => by
    cases e
    exact hz
  subst e1 e2
  have hd : d.toNat < ds.length := by omega
  exact fun B H v w e a b Q q => rv_ixL (atI_of (List.getElem?_eq_getElem hd) (by omega)) B H v w e a b Q fun x u B2 H2 ex => q x u B2 H2 ⟨_, ex, List.getElem_mem hd⟩
end
section
variable {K : PySem.W.Frag} {es : List Sl} {t : TA} {E : XK} {a b : List Int} {te ta tb : TE}
theorem e_meet (ht : EvA K t es (· = [.d (tI a), .d (tI b)])) (h : Al a b) : Ev K (tCall (sp_even_below K) [] E t) es (· = .d (tI (meet a b))) := ev_calld ht ⟨a, b, rfl, h⟩ fun z hz => hz a b rfl
theorem e_join (ht : EvA K t es (· = [.d (tI a), .d (tI b)])) (h : Al a b) : Ev K (tCall (sp_even_above K) [] E t) es (· = .d (tI (join a b))) := ev_calld ht ⟨a, b, rfl, h⟩ fun z hz => by
  obtain ⟨c, e, j⟩ := hz a b rfl
  rw [e, join_eq h j]
theorem e_more (ht : EvA K t es (· = [.d (tI a), .d (tI b)])) (h : Al a b) : Ev K (tCall (sp_is_more_even K) [] E t) es (· = .d (.bool (leB a b))) := ev_calld ht ⟨a, b, rfl, h⟩ fun z hz => by
  obtain ⟨r, e, j⟩ := hz a b rfl h
  rw [e, leB_of j]
theorem e_down (ht : EvA K t es (· = [.d (tI a)])) (h : Gd a) : Ev K (tCall (sp_sorted_down K) [] E t) es (· = .d (tI (dn a))) := ev_calld ht ⟨a, rfl, h⟩ fun z hz => hz a rfl
theorem e_cvMeet {i : Nat} {f1 f2 : Addr} {sp2 : Sp} (e : es[i]? = some (.im (.raw (.ref f1)))) (ht : EvA K t es (· = [.d (tI a), .d (tI b)])) (h : Al a b) : Ev K (C8.tCallV i f1 f2 (sp_even_below K) sp2 t) es (· = .d (tI (meet a b))) := ev_cv1 e ht fun xs ex => by
  subst ex
  exact ⟨⟨a, b, rfl, h⟩, fun z hz => hz a b rfl⟩
theorem e_cvJoin {i : Nat} {f1 f2 : Addr} {sp1 : Sp} (e : es[i]? = some (.im (.raw (.ref f2)))) (ht : EvA K t es (· = [.d (tI a), .d (tI b)])) (h : Al a b) : Ev K (C8.tCallV i f1 f2 sp1 (sp_even_above K) t) es (· = .d (tI (join a b))) := ev_cv2 e ht fun xs ex => by
  subst ex
  refine ⟨⟨a, b, rfl, h⟩, fun z hz => ?_⟩
  obtain ⟨c, e, j⟩ := hz a b rfl
  rw [e, join_eq h j]
theorem et_neT (h1 : Ev K ta es (· = .d (tI a))) (h2 : Ev K tb es (· = .d (tI b))) (e : a = b) : EvT K (tTest (tOp (rNeP K) ta tb)) es (· = false) := (et_testd (ev_opd h1 h2 rv_neT)).to (by rw [e]; simp)
theorem et_neB {x y : Bool} (h1 : Ev K ta es (· = .d (.bool x))) (h2 : Ev K tb es (· = .d (.bool y))) (e : x = y) : EvT K (tTest (tOp (rNeP K) ta tb)) es (· = false) := (et_testd (ev_opd h1 h2 (rv_ne (.inl rfl) (.inl rfl) (flat_bool x) (flat_bool y)))).to (by rw [e, eqv_bool]; simp)
end
theorem flat_rep : ∀ n : Nat, (List.replicate n [PyData.int 0]).flatten = (List.replicate n (0 : Int)).map .int
  | 0 => rfl
  | n + 1 => by rw [List.replicate_succ, List.replicate_succ, List.flatten_cons, flat_rep n]; rfl
abbrev s__law_mixed : Stmt := topS 48
theorem sc__law_mixed : FnScope ["pot", "some", "left", "found"] ["pot", "some"] (defScope s__law_mixed) := ⟨rfl, rfl, rfl, by decide +kernel, rfl, by decide +kernel, by decide +kernel⟩
abbrev s__law_pairs : Stmt := topS 49
theorem sc__law_pairs : FnScope ["persons", "found", "one", "other"] ["persons"] (defScope s__law_pairs) := ⟨rfl, rfl, rfl, by decide +kernel, rfl, by decide +kernel, by decide +kernel⟩
abbrev s__law_counts : Stmt := topS 50
theorem sc__law_counts : FnScope ["persons", "pairs", "person", "pair"] ["persons", "pairs"] (defScope s__law_counts) := ⟨rfl, rfl, rfl, by decide +kernel, rfl, by decide +kernel, by decide +kernel⟩
abbrev s__law_web : Stmt := topS 51
theorem sc__law_web : FnScope ["pot", "persons", "way", "pair"] ["pot", "persons"] (defScope s__law_web) := ⟨rfl, rfl, rfl, by decide +kernel, rfl, by decide +kernel, by decide +kernel⟩
abbrev s__law_transfers : Stmt := topS 54
theorem sc__law_transfers : FnScope ["row", "found", "giver", "taker"] ["row"] (defScope s__law_transfers) := ⟨rfl, rfl, rfl, by decide +kernel, rfl, by decide +kernel, by decide +kernel⟩
abbrev s__law_flat : Stmt := topS 55
theorem sc__law_flat : FnScope ["total", "persons", "base", "at"] ["total", "persons"] (defScope s__law_flat) := ⟨rfl, rfl, rfl, by decide +kernel, rfl, by decide +kernel, by decide +kernel⟩
abbrev s__law_chain_right : Stmt := topS 56
theorem sc__law_chain_right : FnScope ["pot", "counts", "here", "turn", "some", "late", "near", "far"] ["pot", "counts"] (defScope s__law_chain_right) := ⟨rfl, rfl, rfl, by decide +kernel, rfl, by decide +kernel, by decide +kernel⟩
abbrev s__law_right : Stmt := topS 57
theorem sc__law_right : FnScope ["pot", "persons", "counts", "total", "other", "late"] ["pot"] (defScope s__law_right) := ⟨rfl, rfl, rfl, by decide +kernel, rfl, by decide +kernel, by decide +kernel⟩
abbrev s_law : Stmt := topS 58
theorem sc_law : FnScope ["script", "k"] ["script"] (defScope s_law) := ⟨rfl, rfl, rfl, by decide +kernel, rfl, by decide +kernel, by decide +kernel⟩
theorem trE_inj {l m : List (Nat × Nat)} (h : l.map trE = m.map trE) : l = m := (List.map_inj_right fun x y e => by
  have h1 := PyData.int.inj (List.cons.inj (PyData.tuple.inj e)).1
  have h2 := PyData.int.inj (List.cons.inj (List.cons.inj (PyData.tuple.inj e)).2).1
  exact Prod.ext (by omega) (by omega)).mp h
theorem flat_trs (l : List (Nat × Nat)) : Flat (.list (l.map trE)) := by
  have h : PyData.plainAll (l.map trE) = true ∧ PyData.depthAll (l.map trE) ≤ 10 := by
    induction l with
    | nil => simp [PyData.plainAll, PyData.depthAll]
    | cons x l ih => exact ⟨by simp [PyData.plainAll, trE, PyData.plain, ih.1], by simp only [List.map_cons, PyData.depthAll, trE, PyData.depth]; have := ih.2; omega⟩
  exact ⟨by simp [PyData.plain, h.1], by simp only [PyData.depth]; have := h.2; omega⟩
theorem eqv_nil (l : List (Nat × Nat)) : PyData.eqv (.list (l.map trE)) (.list []) = decide (l = []) := by
  cases l <;> simp [PyData.eqv, PyData.eqvAll]
theorem flat_nil : Flat (.list []) := ⟨by simp [PyData.plain, PyData.plainAll], by simp [PyData.depth, PyData.depthAll]⟩
def allPi (n i : Nat) : List (Nat × Nat) := (List.range i).flatMap fun i => (List.range (n - i - 1)).map fun (k : Nat) => (i, i + 1 + k)
theorem allPi_succ (n i : Nat) : allPi n (i + 1) = allPi n i ++ (List.range (n - i - 1)).map fun (k : Nat) => (i, i + 1 + k) := by
  unfold allPi
  rw [List.range_succ, List.flatMap_append]
  simp
theorem allPi_ok (n : Nat) : ∀ i, i ≤ n → Prs n (allPi n i) ∧ (∀ p ∈ allPi n i, p.1 < i) ∧ 2 * (allPi n i).length + (n - i) * (n - i - 1) = n * (n - 1)
  | 0, _ => ⟨⟨List.nodup_nil, fun p hp => (nomatch hp)⟩, fun p hp => (nomatch hp), by simp [allPi]⟩
  | i + 1, hi => by
    obtain ⟨⟨h1, h1'⟩, h2, h3⟩ := allPi_ok n i (by omega)
    rw [allPi_succ]
    generalize allPi n i = ps at *
    refine ⟨⟨?_, fun p hp => ?_⟩, fun p hp => ?_, ?_⟩
    · refine List.nodup_append.mpr ⟨h1, ?_, fun p hp q hq => ?_⟩
      · refine List.Pairwise.map _ (fun a b hab => ?_) List.nodup_range
        intro e
        have := congrArg Prod.snd e
        simp only at this
        exact hab (by omega)
      · obtain ⟨k, _, rfl⟩ := List.mem_map.mp hq
        intro e
        have := h2 p hp
        rw [e] at this
        simp at this
    · rcases List.mem_append.mp hp with hp | hp
      · exact h1' p hp
      · obtain ⟨k, hk, rfl⟩ := List.mem_map.mp hp
        have := List.mem_range.mp hk
        exact ⟨by show i < i + 1 + k; omega, by show i + 1 + k < n; omega⟩
    · rcases List.mem_append.mp hp with hp | hp
      · have := h2 p hp; omega
      · obtain ⟨k, hk, rfl⟩ := List.mem_map.mp hp
        show i < i + 1
        omega
    · rw [List.length_append, List.length_map, List.length_range]
      obtain ⟨m, hm⟩ : ∃ m, n = i + 1 + m := ⟨n - i - 1, by omega⟩
      rw [show n - i = m + 1 by omega, show m + 1 - 1 = m by omega] at h3
      rw [show n - i - 1 = m by omega, show n - (i + 1) = m by omega]
      have e : (m + 1) * m = m * (m - 1) + 2 * m := by
        cases m with
        | zero => rfl
        | succ m =>
          rw [Nat.add_sub_cancel, Nat.mul_comm (m + 1) m]
          exact Nat.add_mul m 2 (m + 1)
      omega
theorem allP_prs (n : Nat) : Prs n (allPi n n) := (allPi_ok n n (Nat.le_refl _)).1
theorem allP_len (n : Nat) : 2 * (allPi n n).length = n * (n - 1) := by
  have := (allPi_ok n n (Nat.le_refl _)).2.2
  simpa using this
abbrev sp__law_mixed (K : PySem.W.Frag) : Sp := spL K (fun xs => ∃ ps : List (Nat × Nat), xs = [.pot, .d (.list (ps.map trE))] ∧ ps.length ≤ 1000) (fun xs ys => ∀ ps : List (Nat × Nat), xs = [.pot, .d (.list (ps.map trE))] → ∃ qs : List (Nat × Nat), ys = qs.map trE ∧ qs.Perm ps)
abbrev sp__law_pairs (K : PySem.W.Frag) : Sp := spL K (fun xs => ∃ n : Nat, xs = [.d (.int n)] ∧ n ≤ 10) (fun xs ys => ∀ n : Nat, xs = [.d (.int n)] → ys = (allPi n n).map trE)
abbrev sp__law_counts (K : PySem.W.Frag) : Sp := spG K (fun xs => ∃ (n : Nat) (ps : List (Nat × Nat)) (d : PyData), xs = [.d (.int n), .d d] ∧ (d = .list (ps.map trE) ∨ d = .tuple (ps.map trE)) ∧ n ≤ 10 ∧ ps.length ≤ 1000) (fun xs z => ∀ (n : Nat) (ps : List (Nat × Nat)) (d : PyData), xs = [.d (.int n), .d d] → (d = .list (ps.map trE) ∨ d = .tuple (ps.map trE)) → z = .d (tI (counts n ps)))
abbrev sp__law_web (K : PySem.W.Frag) : Sp := spG K (fun xs => ∃ n : Nat, xs = [.pot, .d (.int n)] ∧ n ≤ 10) (fun xs z => ∀ n : Nat, xs = [.pot, .d (.int n)] → ∃ ps : List (Nat × Nat), z = .d (.tuple [.str "web", .int n, .tuple (ps.map trE)]) ∧ Prs n ps ∧ ps.length ≤ 100)
def tsL (a : List Int) (m : Nat) : List (Nat × Nat) := (List.range m).flatMap fun g => ((List.range a.length).filter fun t => decide (a.getD t 0 + 2 ≤ a.getD g 0)).map fun t => (g, t)
abbrev sp__law_transfers (K : PySem.W.Frag) : Sp := spL K (fun xs => ∃ a : List Int, xs = [.d (tI a)] ∧ a.length ≤ 10) (fun xs ys => ∀ a : List Int, xs = [.d (tI a)] → ys = (tsL a a.length).map trE)
abbrev sp__law_flat (K : PySem.W.Frag) : Sp := spG K (fun xs => ∃ (s : Int) (n : Nat), xs = [.d (.int s), .d (.int n)] ∧ 1 ≤ n ∧ n ≤ 10) (fun xs z => ∀ (s : Int) (n : Nat), xs = [.d (.int s), .d (.int n)] → z = .z ((fl s n).map .int))
abbrev sp__law_chain_right (K : PySem.W.Frag) : Sp := spG K (fun xs => ∃ a : List Int, xs = [.pot, .d (tI a)] ∧ Gd a ∧ possB a = true) (fun xs z => z = .d (.bool true))
abbrev sp__law_right (K : PySem.W.Frag) : Sp := spG K (fun xs => xs = [.pot]) (fun _ z => z = .d (.bool true))
abbrev sp_law (K : PySem.W.Frag) : Sp := spG K (fun xs => ∃ ns : List Int, xs = [.d (lI ns)] ∧ ns.length ≤ 1000) (fun _ z => z = .d (.bool true))
theorem tsL_mem {a : List Int} {p : Nat × Nat} (h : p ∈ tsL a a.length) : ∃ (hg : p.1 < a.length) (ht : p.2 < a.length), a[p.2] + 2 ≤ a[p.1] := by
  obtain ⟨g, hg, h⟩ := List.mem_flatMap.mp h
  obtain ⟨t, ht, rfl⟩ := List.mem_map.mp h
  obtain ⟨ht, hd⟩ := List.mem_filter.mp ht
  have hg := List.mem_range.mp hg
  have ht := List.mem_range.mp ht
  have hd := of_decide_eq_true hd
  rw [MJ.getD_at hg, MJ.getD_at ht] at hd
  exact ⟨hg, ht, hd⟩
theorem tsL_nil {a : List Int} (h : tsL a a.length = []) (i j : Nat) (hi : i < a.length) (hj : j < a.length) : a[i] < a[j] + 2 := by
  rcases Int.lt_or_le (a[i]) (a[j] + 2) with h1 | h1
  · exact h1
  · exfalso
    have : (i, j) ∈ tsL a a.length := List.mem_flatMap.mpr ⟨i, List.mem_range.mpr hi, List.mem_map.mpr ⟨j, List.mem_filter.mpr ⟨List.mem_range.mpr hj, decide_eq_true (by rw [MJ.getD_at hi, MJ.getD_at hj]; exact h1)⟩, rfl⟩⟩
    rw [h] at this
    exact nomatch this
theorem tsL_len (a : List Int) (m : Nat) : (tsL a m).length ≤ m * a.length := by
  unfold tsL
  induction m with
  | zero => simp
  | succ m ih =>
    rw [List.range_succ, List.flatMap_append, List.length_append, Nat.succ_mul]
    have := List.length_filter_le (fun t => decide (a.getD t 0 + 2 ≤ a.getD m 0)) (List.range a.length)
    rw [List.length_range] at this
    simp only [List.flatMap_cons, List.flatMap_nil, List.append_nil, List.length_map]
    omega
section
variable {P : Program} {w : World} {K : PySem.W.Frag} {mg : Str → Option Value} {base : Heap}
theorem erase_perm : ∀ (l : List (Nat × Nat)) (k : Nat) (h : k < l.length), (l[k] :: l.eraseIdx k).Perm l
  | x :: l, 0, _ => List.Perm.refl _
  | x :: l, k + 1, h => by
    have hk : k < l.length := by simpa using h
    have := erase_perm l k hk
    rw [List.eraseIdx_cons_succ, List.getElem_cons_succ]
    exact (List.Perm.swap x l[k] _).trans (this.cons x)
theorem ok__law_mixed {f : Addr} {fd : FuncData} (F : Fun K "_law_mixed" "_law_mixed" s__law_mixed f fd) (B : Blt mg) (c__law_draw : Cl P w K mg base 1 "_law_draw" (sp__law_draw K)) : FnOk P w K mg base CX0 2 f fd ["pot", "some"] (sp__law_mixed K) := by
  refine fnL F sc__law_mixed (fun xs ⟨n, e, _⟩ => by rw [e]; rfl) fun cdv A outer s H E hr => ?_
  have hu := hr.units
  refine ⟨_, (pss_cons (ps_par (i := 2) (j := 3) rfl sc__law_mixed.nd rfl rfl (by decide) rfl rfl (pa_cons (pe_callTy call_lstG (by rfl) B.n_list (by decide +kernel) (pa_cons (pv 1) pa_nil)) (pa_cons (pe_lst pa_nil) pa_nil)) (by rfl))
      (pss_cons (ps_while PassesOwn.never (pt_cmpR (op_neP hu) (pv 2) (pe_lst pa_nil) (nomark _))
      (pss_one (ps_expr (pe_bm PySem.F.plainAttrs_list PySem.F.slot_list_append PySem.F.type_list_append mt_append (pv 3) (pa_cons (pe_bm PySem.F.plainAttrs_list PySem.F.slot_list_pop PySem.F.type_list_pop mt_popAt (pv 2) (pa_cons (pe_cl c__law_draw hr (by decide) (by rfl) (pa_cons (pv 0) (pa_cons (pe_callB call_lenG (by rfl) B.n_len (by decide +kernel) (pa_cons (pv 2) pa_nil)) pa_nil))) pa_nil)) pa_nil)))))
      (pss_one (ps_ret (pv 3))))), fun xs ⟨ps, e, hl⟩ => ?_⟩
  subst e
  refine sx_seqd (es' := [.im .pot, .im (.d (.list (ps.map trE))), .mu (ps.map trE), .mu (([] : List (Nat × Nat)).map trE)]) (sx_parM (a := .l (ps.map trE)) (b := .l []) (em_l (ev_cbLd (ea_consd (ev_var rfl) ea_nil) (rcl_lst (.inl rfl))) (em_l (ev_lstd ea_nil .nil (by simp)) em_nil)) rfl) ?_
  refine sx_seq (M := fun es => ∃ (y2 : Sl) (qs : List (Nat × Nat)), es = [.im .pot, .im (.d (.list (ps.map trE))), y2, .mu (qs.map trE)] ∧ qs.Perm ps) ?_ fun es ⟨y2, qs, e, hq⟩ => by
    subst e
    exact sx_retMu (i := 3) rfl fun ps' e => by
      have := trE_inj (PyData.list.inj (Dv.d.inj (List.cons.inj (List.cons.inj e).2).1))
      subst this
      exact ⟨qs, rfl, hq⟩
  refine sx_whileN (m0 := ps.length) (fun m es => ∃ l f : List (Nat × Nat), es = [.im .pot, .im (.d (.list (ps.map trE))), .mu (l.map trE), .mu (f.map trE)] ∧ (l ++ f).Perm ps ∧ l.length = m)
    (fun m es b => ∃ l f : List (Nat × Nat), es = [.im .pot, .im (.d (.list (ps.map trE))), .mu (l.map trE), .mu (f.map trE)] ∧ (l ++ f).Perm ps ∧ l.length = m ∧ b = !decide (l = [])) ⟨ps, [], rfl, by simp, rfl⟩ ?_ ?_ ?_
  · rintro m es ⟨l, f, rfl, hp, hm⟩
    exact (et_testd (ev_opd (ev_mu (i := 2) rfl) (ev_lstd ea_nil .nil (by simp)).evd (rv_ne (.inr rfl) (.inl rfl) (flat_trs l) flat_nil))).imp fun b e => ⟨l, f, rfl, hp, hm, by rw [e, eqv_nil]⟩
  · rintro m es - ⟨l, f, rfl, hp, hm, hb⟩
    have hne : l ≠ [] := by simpa using hb
    have h0 : 0 < l.length := List.length_pos_iff.mpr hne
    have hlp : l.length + f.length = ps.length := by rw [← hp.length_eq, List.length_append]
    refine sx_popApp (i := 2) (j := 3) (xs := l.map trE) (ys := f.map trE) rfl rfl (by decide) ((e_draw (n := (l.length : Int)) (ea_consd (ev_var rfl) (ea_consd (Ev.to (ev_cbd (ea_consd (ev_mu (i := 2) rfl) ea_nil) (rc_len (.inr rfl) (.inl rfl))) (by rw [List.length_map])) ea_nil)) (by omega) (by omega)).imp fun z ⟨d, e, d0, d1⟩ => ⟨d.toNat, by rw [e, Int.toNat_of_nonneg d0], by rw [List.length_map]; omega⟩) (by rw [List.length_map]; omega) (by rw [List.length_map]; omega) fun k d hk => ?_
    have hkl : k < l.length := by
      have := (List.getElem?_eq_some_iff.mp hk).1
      rwa [List.length_map] at this
    rw [List.getElem?_map, List.getElem?_eq_getElem hkl] at hk
    cases hk
    refine ⟨l.length - 1, by omega, l.eraseIdx k, f ++ [l[k]], ?_, ?_, by rw [List.length_eraseIdx, if_pos hkl]⟩
    · have e1 : (l.map trE).eraseIdx k = (l.eraseIdx k).map trE := by
        rw [List.eraseIdx_eq_take_drop_succ, List.eraseIdx_eq_take_drop_succ, List.map_append, List.map_take, List.map_drop]
      rw [e1, List.map_append]
      rfl
    · refine List.Perm.trans ?_ hp
      rw [← List.append_assoc]
      refine (List.perm_append_comm (l₂ := [l[k]])).trans ?_
      show (l[k] :: (l.eraseIdx k ++ f)).Perm (l ++ f)
      rw [← List.cons_append]
      exact (erase_perm l k hkl).append_right f
  · rintro m es - ⟨l, f, rfl, hp, hm, hb⟩
    have he : l = [] := by simpa using hb
    subst he
    exact ⟨_, f, rfl, hp⟩
theorem ok__law_pairs {f : Addr} {fd : FuncData} (F : Fun K "_law_pairs" "_law_pairs" s__law_pairs f fd) (B : Blt mg) : FnOk P w K mg base CX0 1 f fd ["persons"] (sp__law_pairs K) := by
  refine fnL F sc__law_pairs (fun xs ⟨n, e, _⟩ => by rw [e]; rfl) fun cdv A outer s H E hr => ?_
  have hu := hr.units
  refine ⟨_, (pss_cons (ps_set (i := 1) sc__law_pairs.nd rfl (.inl rfl) (pe_lst pa_nil))
      (pss_cons (ps_for PassesOwn.never rfl (pi_range1 (by rfl) B.n_range (pa_cons (pv 0) pa_nil)) (pg_name (i := 2) sc__law_pairs.nd rfl (.inr rfl))
      (pss_one (ps_expr (pe_bm PySem.F.plainAttrs_list PySem.F.slot_list_extend PySem.F.type_list_extend mt_extend (pv 1) (pa_cons (pe_lc (own := [("other", 3)]) (g := (gName 3)) (tt := tYes) (te := (tTup (tCons (tVar 2) (tCons (tVar 3) tNil)))) (by rfl) sc__law_pairs.nd (pi_range2 (by rfl) B.n_range (pa_cons (pe_op op_addG (pv 2) pe_int) (pa_cons (pv 0) pa_nil))) (blkOk_by (own := [("other", 3)]) (by first | decide +kernel | rfl)) (fun _ _ _ _ _ => (pg_name (i := 3) sc__law_pairs.nd rfl (by first | exact Or.inl rfl | exact Or.inr rfl))) (fun _ _ _ _ _ => pts_nil) (fun _ _ _ _ _ => (pe_tup (pa_cons (pv 2) (pa_cons (pv 3) pa_nil))))) pa_nil)))))
      (pss_one (ps_ret (pv 1))))), fun xs ⟨n, e, hl⟩ => ?_⟩
  subst e
  refine sx_seqd (es' := [.im (.d (.int n)), .mu (([] : List (Nat × Nat)).map trE), .no, .no]) (sx_setLd (ev_lstd ea_nil .nil (by simp)) rfl) ?_
  refine sx_seq (M := fun es => ∃ (y2 y3 : Sl), es = [.im (.d (.int n)), .mu ((allPi n n).map trE), y2, y3]) ?_ fun es ⟨y2, y3, e⟩ => by
    subst e
    exact sx_retMu (i := 1) rfl fun n' e => by
      have := PyData.int.inj (Dv.d.inj (List.cons.inj e).1)
      have : n = n' := by omega
      subst this
      rfl
  refine sx_forRange (lo := 0) (n := n) ((ei_range1 (n := (n : Int)) (ea_consd (ev_var rfl) ea_nil) (by omega) (by omega)).imp fun m g ⟨e1, e2⟩ => ⟨by rw [e1]; omega, by rw [e2]; funext i; rw [Int.zero_add]⟩)
    (fun i es => ∃ (y2 y3 : Sl), es = [.im (.d (.int n)), .mu ((allPi n i).map trE), y2, y3]) ⟨_, _, rfl⟩ ?_ fun es h => h
  rintro i hi es ⟨y2, y3, rfl⟩
  have hps : (allPi n i).length ≤ 100 := by
    have h3 := (allPi_ok n i (by omega)).2.2
    have : n * (n - 1) ≤ 10 * 10 := Nat.mul_le_mul hl (by omega)
    omega
  refine sx_ext (i := 1) (xs := (allPi n i).map trE) rfl (ev_lcRange (lo := (i : Int) + 1) (n := n - i - 1) (fun k => trE (i, i + 1 + k)) ((ei_range2 (lo := (i : Int) + 1) (n := (n : Int)) (ea_consd (ev_opd (Ev.to (y := .d (.int (i : Int))) (ev_var (i := 2) rfl) (by rw [Int.zero_add])) ev_int rv_add) (ea_consd (ev_var (i := 0) rfl) ea_nil)) (by omega) (by omega) (by omega) (by omega)).imp fun m f ⟨e1, e2⟩ => ⟨by rw [e1]; omega, e2⟩) (by omega) (by simp) fun k hk => Ev.to (ev_tupd (ea_consd (ev_var (i := 2) rfl) (ea_consd (ev_var (i := 3) rfl) ea_nil)) (.cons (.cons .nil)) (by show 2 ≤ 1000000; omega)) (by unfold trE; simp)) (by rw [List.length_map]; omega) fun ys hy => ?_
  subst hy
  refine ⟨by rw [List.length_map, List.length_range]; omega, .im (.d (.int (0 + (i : Nat)))), y3, ?_⟩
  rw [allPi_succ, List.map_append, List.map_map]
  rfl
theorem has_any (v : Nat) (p : Nat × Nat) : ([PyData.int p.1, .int p.2].any fun y => PyData.eqv y (.int (v : Int))) = has v p := by
  simp only [List.any_cons, List.any_nil, Bool.or_false, eqv_int, has]
  congr 1 <;> (rw [decide_eq_decide]; omega)
theorem flat_tr (p : Nat × Nat) : Flat (trE p) := ⟨by simp [trE, PyData.plain, PyData.plainAll], by simp [trE, PyData.depth, PyData.depthAll]⟩
theorem ok__law_counts {f : Addr} {fd : FuncData} (F : Fun K "_law_counts" "_law_counts" s__law_counts f fd) (B : Blt mg) : FnOk P w K mg base CX0 1 f fd ["persons", "pairs"] (sp__law_counts K) := by
  refine fnG F sc__law_counts (fun xs ⟨n, ps, d, e, _⟩ => by rw [e]; rfl) fun cdv A outer s H E hr => ?_
  have hu := hr.units
  refine ⟨_, (pss_one (ps_ret (pe_callTy call_tupG (by rfl) B.n_tuple (by decide +kernel) (pa_cons (pe_lc (own := [("person", 2)]) (g := (gName 2)) (tt := tYes) (te := (tCB (rLenS K) (tCons (tLc (iSeq K (tVar 1)) (gName 3) (tTest (tOp (rInP K) (tVar 2) (tVar 3))) (tVar 3) [3]) tNil))) (by rfl) sc__law_counts.nd (pi_range1 (by rfl) B.n_range (pa_cons (pv 0) pa_nil)) (blkOk_by (own := [("person", 2)]) (by first | decide +kernel | rfl)) (fun _ _ _ _ _ => (pg_name (i := 2) sc__law_counts.nd rfl (by first | exact Or.inl rfl | exact Or.inr rfl))) (fun _ _ _ _ _ => pts_nil) (fun _ _ _ _ _ => (pe_callB call_lenG (by rfl) B.n_len (by decide +kernel) (pa_cons (pe_lc (own := [("pair", 3)]) (g := (gName 3)) (tt := (tTest (tOp (rInP K) (tVar 2) (tVar 3)))) (te := (tVar 3)) (by rfl) sc__law_counts.nd (pi_seq (pv 1)) (blkOk_by (own := [("pair", 3)]) (by first | decide +kernel | rfl)) (fun _ _ _ _ _ => (pg_name (i := 3) sc__law_counts.nd rfl (by first | exact Or.inl rfl | exact Or.inr rfl))) (fun _ _ _ _ _ => (pts_one (pt_cmpR (op_inP hu) (pv 2) (pv 3) (by rfl)))) (fun _ _ _ _ _ => (pv 3))) pa_nil)))) pa_nil)))), fun xs ⟨n, ps, d, e, hd, hn, hl⟩ => ?_⟩
  subst e
  refine sx_retd (ev_cbd (ea_consd (ev_lcRange (lo := 0) (n := n) (fun i => .int ((ps.filter (has i)).length : Int)) ((ei_range1 (n := (n : Int)) (ea_consd (ev_var (i := 0) rfl) ea_nil) (by omega) (by omega)).imp fun m g ⟨e1, e2⟩ => ⟨by rw [e1]; omega, by rw [e2]; funext i; rw [Int.zero_add]⟩) (by omega) (by simp) fun i hi => Ev.to (ev_cbd (ea_consd (ev_lcFil ps trE (has i) trE ?_ (by omega) (by simp) fun p hp => ⟨(et_testd (ev_opd (Ev.to (y := .d (.int (i : Int))) (ev_var (i := 2) rfl) (by rw [Int.zero_add])) (ev_var (i := 3) (x := .d (trE p)) rfl) (rv_in (xs := [.int p.1, .int p.2]) (.inl rfl) (.inl rfl) (.inr rfl) (flat_int _) (flat_tr p)))).to (has_any i p), fun _ => ev_var rfl⟩).evd ea_nil) (rc_len (.inl rfl) (.inl rfl))) (by rw [List.length_map])).evd ea_nil) rc_tupL) fun n' ps' d' e hd' => ?_
  · rcases hd with rfl | rfl
    · exact ei_seqL (ev_var rfl)
    · exact ei_seqT (ev_var rfl)
  · have e1 : n = n' := by have := PyData.int.inj (Dv.d.inj (List.cons.inj e).1); omega
    have e2 : d = d' := Dv.d.inj (List.cons.inj (List.cons.inj e).2).1
    subst e1; subst e2
    have e3 : ps = ps' := by
      rcases hd with rfl | rfl
      · rcases hd' with h | h
        · exact trE_inj (PyData.list.inj h)
        · cases h
      · rcases hd' with h | h
        · cases h
        · exact trE_inj (PyData.tuple.inj h)
    subst e3
    unfold counts tI
    rw [List.map_map]
    rfl
theorem prs_sub {n : Nat} {qs ps : List (Nat × Nat)} (h : qs.Sublist ps) (hp : Prs n ps) : Prs n qs := ⟨hp.1.sublist h, fun p hq => hp.2 p (h.subset hq)⟩
theorem ok__law_web {f : Addr} {fd : FuncData} (F : Fun K "_law_web" "_law_web" s__law_web f fd) (B : Blt mg) (c__law_draw : Cl P w K mg base 1 "_law_draw" (sp__law_draw K)) (c__law_pairs : Cl P w K mg base 1 "_law_pairs" (sp__law_pairs K)) : FnOk P w K mg base CX0 2 f fd ["pot", "persons"] (sp__law_web K) := by
  refine fnG F sc__law_web (fun xs ⟨n, e, _⟩ => by rw [e]; rfl) fun cdv A outer s H E hr => ?_
  have hu := hr.units
  refine ⟨_, (pss_cons (ps_set (i := 2) sc__law_web.nd rfl (.inr rfl) (pe_op op_addG pe_int (pe_cl c__law_draw hr (by decide) (by rfl) (pa_cons (pv 0) (pa_cons pe_int pa_nil)))))
      (pss_one (ps_ret (pe_tup (pa_cons pe_str (pa_cons (pv 1) (pa_cons (pe_callTy call_tupG (by rfl) B.n_tuple (by decide +kernel) (pa_cons (pe_lc (own := [("pair", 3)]) (g := (gName 3)) (tt := (tTest (tOp (rEqP K) (tCall (sp__law_draw K) [] E0 (tCons (tVar 0) (tCons (tVar 2) tNil))) (tC (.int 0))))) (te := (tVar 3)) (by rfl) sc__law_web.nd (pi_seq (pe_cl c__law_pairs hr (by decide) (by rfl) (pa_cons (pv 1) pa_nil))) (blkOk_by (own := [("pair", 3)]) (by first | decide +kernel | rfl)) (fun _ _ _ _ _ => (pg_name (i := 3) sc__law_web.nd rfl (by first | exact Or.inl rfl | exact Or.inr rfl))) (fun _ _ _ _ _ => (pts_one (pt_cmpR (op_eqP hu) (pe_cl c__law_draw hr (by decide) (by rfl) (pa_cons (pv 0) (pa_cons (pv 2) pa_nil))) pe_int (nomark _)))) (fun _ _ _ _ _ => (pv 3))) pa_nil)) pa_nil))))))), fun xs ⟨n, e, hn⟩ => ?_⟩
  subst e
  refine sx_seq (M := fun es => ∃ wy : Int, es = [.im .pot, .im (.d (.int n)), .im (.d (.int wy)), .no] ∧ 2 ≤ wy ∧ wy ≤ 10) (sx_set (P := fun z => ∃ wy : Int, z = .d (.int wy) ∧ 2 ≤ wy ∧ wy ≤ 10) (ev_op ev_int (e_draw (ea_consd (ev_var rfl) (ea_consd ev_int ea_nil)) (by omega) (by omega)) fun x y e1 ⟨d, e2, d0, d1⟩ => ?_) fun x ⟨wy, e, h⟩ => by subst e; exact ⟨trivial, wy, rfl, h⟩) ?_
  · subst e1; subst e2
    exact fun B H v w e a b Q q => rv_add B H v w e a b Q fun x u B2 H2 ex => q x u B2 H2 ⟨2 + d, ex, by omega, by omega⟩
  · rintro es ⟨wy, rfl, w0, w1⟩
    have hps : n * (n - 1) ≤ 10 * 10 := Nat.mul_le_mul hn (by omega)
    have hal := allP_len n
    have hel : EvL K (tCall (sp__law_pairs K) [] E0 (tCons (tVar 1) tNil)) [.im .pot, .im (.d (.int n)), .im (.d (.int wy)), .no] (· = (allPi n n).map trE) := ev_callLd (ea_consd (ev_var rfl) ea_nil) ⟨n, rfl, hn⟩ fun ys hy => hy n rfl
    refine sx_ret (P := fun z => ∃ ps : List (Nat × Nat), z = .d (.tuple [.str "web", .int n, .tuple (ps.map trE)]) ∧ Prs n ps ∧ ps.length ≤ 100) (ev_tup (Pt := fun l => ∃ ps : List (Nat × Nat), l = [.d (.str "web"), .d (.int n), .d (.tuple (ps.map trE))] ∧ Prs n ps ∧ ps.length ≤ 100) ((ea_cons ev_str (ea_cons (ev_var rfl) (ea_cons (P := fun z => ∃ ps : List (Nat × Nat), z = .d (.tuple (ps.map trE)) ∧ Prs n ps ∧ ps.length ≤ 100) (ev_cb (ea_cons ((ev_lc (js := [3]) (P := fun ys => ∃ qs : List (Nat × Nat), ys = qs.map trE ∧ qs.Sublist (allPi n n)) (ei_seqL hel.evd)
        (fun i ys => ∃ qs : List (Nat × Nat), ys = qs.map trE ∧ qs.Sublist ((allPi n n).take i)) (fun _ _ => True) (fun i d => ∃ h : i < (allPi n n).length, d = trE (allPi n n)[i]) ⟨[], rfl, List.nil_sublist _⟩ (by simp) fun m f ⟨em, ef⟩ => ?_).ev) ea_nil) fun xs ⟨x, ys, e, ⟨zs, ex, qs, ez, h⟩, ey⟩ => ?_) ea_nil))).imp fun l ⟨x, xs, e1, ex, y, ys, e2, ey, z, zs, e3, ⟨ps, ez, h⟩, e4⟩ => ⟨ps, by rw [e1, ex, e2, ey, e3, ez, e4], h⟩) fun l ⟨ps, e, h⟩ => ⟨_, by rw [e]; exact .cons (.cons (.cons .nil)), by show 3 ≤ 1000000; omega, ps, rfl, h⟩) fun z hz n' e => ?_
    · subst em; subst ef
      rw [List.length_map]
      refine ⟨by omega, fun i hi => ⟨_, tg_name trivial, ?_, fun _ => (ev_var (i := 3) (x := .d (((allPi n n).map trE).getD i .none)) rfl).imp fun z e => ⟨_, e, hi, getD_map _ trE i hi⟩⟩, fun i ys d hi ⟨qs, e, hs⟩ _ ⟨_, hd⟩ => ⟨qs ++ [(allPi n n)[i]], by rw [e, hd, List.map_append]; rfl, ?_⟩, fun i ys hi ⟨qs, e, hs⟩ _ => ⟨qs, e, ?_⟩, fun ys ⟨qs, e, hs⟩ => ⟨qs, e, ?_⟩⟩
      · exact et_test ((ev_op (e_draw (n := wy) (ea_consd (ev_var rfl) (ea_consd (ev_var (i := 2) rfl) ea_nil)) (by omega) (by omega)) ev_int fun x y ⟨d, e1, _, _⟩ e2 => by
          subst e1; subst e2
          exact fun B H v w e a b Q q => rv_eqI B H v w e a b Q fun x u B2 H2 ex => q x u B2 H2 ⟨_, ex, trivial⟩))
      · rw [List.take_add_one, List.getElem?_eq_getElem hi]
        exact hs.append (List.Sublist.refl _)
      · rw [List.take_add_one]
        exact hs.trans (List.sublist_append_left _ _)
      · exact hs.trans (List.take_sublist _ _)
    · subst e; subst ex; subst ez; subst ey
      have hq := h.length_le
      exact fun B H vs e a Q q => rc_tupL B H vs e a Q fun x u B2 H2 ex => q x u B2 H2 ⟨qs, ex, prs_sub h (allP_prs n), by omega⟩
    · have := PyData.int.inj (Dv.d.inj (List.cons.inj (List.cons.inj e).2).1)
      have : n = n' := by omega
      subst this
      exact hz
theorem ok__law_transfers {f : Addr} {fd : FuncData} (F : Fun K "_law_transfers" "_law_transfers" s__law_transfers f fd) (B : Blt mg) : FnOk P w K mg base CX0 1 f fd ["row"] (sp__law_transfers K) := by
  refine fnL F sc__law_transfers (fun xs ⟨n, e, _⟩ => by rw [e]; rfl) fun cdv A outer s H E hr => ?_
  have hu := hr.units
  refine ⟨_, (pss_cons (ps_set (i := 1) sc__law_transfers.nd rfl (.inl rfl) (pe_lst pa_nil))
      (pss_cons (ps_for PassesOwn.never rfl (pi_range1 (by rfl) B.n_range (pa_cons (pe_callB call_lenG (by rfl) B.n_len (by decide +kernel) (pa_cons (pv 0) pa_nil)) pa_nil)) (pg_name (i := 2) sc__law_transfers.nd rfl (.inr rfl))
      (pss_one (ps_expr (pe_bm PySem.F.plainAttrs_list PySem.F.slot_list_extend PySem.F.type_list_extend mt_extend (pv 1) (pa_cons (pe_lc (own := [("taker", 3)]) (g := (gName 3)) (tt := (tTest (tOp rGeI (tOp (rIx K) (tVar 0) (tVar 2)) (tOp (rAddG K) (tOp (rIx K) (tVar 0) (tVar 3)) (tC (.int 2)))))) (te := (tTup (tCons (tVar 2) (tCons (tVar 3) tNil)))) (by rfl) sc__law_transfers.nd (pi_range1 (by rfl) B.n_range (pa_cons (pe_callB call_lenG (by rfl) B.n_len (by decide +kernel) (pa_cons (pv 0) pa_nil)) pa_nil)) (blkOk_by (own := [("taker", 3)]) (by first | decide +kernel | rfl)) (fun _ _ _ _ _ => (pg_name (i := 3) sc__law_transfers.nd rfl (by first | exact Or.inl rfl | exact Or.inr rfl))) (fun _ _ _ _ _ => (pts_one (pt_cmpR op_geG (pe_ix ix_seq (pv 0) (pv 2) (fun _ _ => rfl)) (pe_op op_addG (pe_ix ix_seq (pv 0) (pv 3) (fun _ _ => rfl)) pe_int) (nomark _)))) (fun _ _ _ _ _ => (pe_tup (pa_cons (pv 2) (pa_cons (pv 3) pa_nil))))) pa_nil)))))
      (pss_one (ps_ret (pv 1))))), fun xs ⟨a, e, hl⟩ => ?_⟩
  subst e
  have at' : ∀ i, i < a.length → (a.map PyData.int)[i]? = some (.int (a.getD i 0)) := fun i hi => by rw [List.getElem?_map, List.getElem?_eq_getElem hi, MJ.getD_at hi]; rfl
  have el : ∀ {y1 y2 y3 : Sl}, EvA K (tCons (tCB (rLenS K) (tCons (tVar 0) tNil)) tNil) [.im (.d (tI a)), y1, y2, y3] (· = [.d (.int (a.length : Nat))]) := fun {y1 y2 y3} => ea_consd (Ev.to (ev_cbd (ea_consd (ev_var (i := 0) rfl) ea_nil) (rc_len (.inl rfl) (.inr rfl))) (by rw [List.length_map])) ea_nil
  refine sx_seqd (es' := [.im (.d (tI a)), .mu ((tsL a 0).map trE), .no, .no]) (sx_setLd (ev_lstd ea_nil .nil (by simp)) rfl) ?_
  refine sx_seq (M := fun es => ∃ (y2 y3 : Sl), es = [.im (.d (tI a)), .mu ((tsL a a.length).map trE), y2, y3]) ?_ fun es ⟨y2, y3, e⟩ => by
    subst e
    exact sx_retMu (i := 1) rfl fun a' e => by obtain rfl := tI1 e; rfl
  refine sx_forRange (lo := 0) (n := a.length) ((ei_range1 (n := (a.length : Int)) el (by omega) (by omega)).imp fun m g ⟨e1, e2⟩ => ⟨by rw [e1]; omega, by rw [e2]; funext i; rw [Int.zero_add]⟩)
    (fun i es => ∃ (y2 y3 : Sl), es = [.im (.d (tI a)), .mu ((tsL a i).map trE), y2, y3]) ⟨_, _, rfl⟩ ?_ fun es h => h
  rintro g hg es ⟨y2, y3, rfl⟩
  have hts := tsL_len a g
  have hm : g * a.length ≤ 10 * 10 := Nat.mul_le_mul (by omega) hl
  refine sx_ext (i := 1) (xs := (tsL a g).map trE) rfl (ev_lcIf (n := a.length) (f := fun i => .d (.int i)) (js := [3]) (g := gName 3) ((ei_range1 (n := (a.length : Int)) el (by omega) (by omega)).imp fun m f ⟨e1, e2⟩ => ⟨by rw [e1]; omega, e2⟩) (fun t => decide (a.getD t 0 + 2 ≤ a.getD g 0)) (fun t => trE (g, t)) (by omega) (by simp) fun t ht => ⟨_, tg_name trivial, et_testd (ev_opd (ev_opd (ev_var (i := 0) rfl) (Ev.to (y := .d (.int (g : Int))) (ev_var (i := 2) rfl) (by rw [Int.zero_add])) (rv_ixT (atI_of (at' g hg) rfl))) (ev_opd (ev_opd (ev_var (i := 0) rfl) (ev_var (i := 3) rfl) (rv_ixT (atI_of (at' t ht) rfl))) ev_int rv_add) rv_ge), fun _ => Ev.to (ev_tupd (ea_consd (ev_var (i := 2) rfl) (ea_consd (ev_var (i := 3) rfl) ea_nil)) (.cons (.cons .nil)) (by show 2 ≤ 1000000; omega)) (by unfold trE; simp)⟩) (by rw [List.length_map]; omega) fun ys hy => ?_
  subst hy
  have fl2 := List.length_filter_le (fun t => decide (a.getD t 0 + 2 ≤ a.getD g 0)) (List.range a.length)
  rw [List.length_range] at fl2
  refine ⟨by rw [List.length_map]; omega, .im (.d (.int (0 + (g : Nat)))), y3, ?_⟩
  unfold tsL
  rw [List.range_succ, List.flatMap_append, List.map_append]
  simp only [List.flatMap_cons, List.flatMap_nil, List.append_nil, List.map_map]
  rfl
theorem ok__law_flat {f : Addr} {fd : FuncData} (F : Fun K "_law_flat" "_law_flat" s__law_flat f fd) (B : Blt mg) : FnOk P w K mg base CX0 1 f fd ["total", "persons"] (sp__law_flat K) := by
  refine fnG F sc__law_flat (fun xs ⟨s, n, e, _⟩ => by rw [e]; rfl) fun cdv A outer s H E hr => ?_
  have hu := hr.units
  refine ⟨_, (pss_cons (ps_set (i := 2) sc__law_flat.nd rfl (.inr rfl) (pe_op op_divG (pv 0) (pv 1)))
      (pss_one (ps_ret (pe_callTy call_tupZ (by rfl) B.n_tuple (by decide +kernel) (pa_cons (pe_lc (own := [("at", 3)]) (g := (gName 3)) (tt := tYes) (te := (tOp (rAddG K) (tVar 2) (tCB rInt1 (tCons (tOp rLtI (tVar 3) (tOp rSubI (tVar 0) (tOp (rMulG K) (tVar 2) (tVar 1)))) tNil)))) (by rfl) sc__law_flat.nd (pi_range1 (by rfl) B.n_range (pa_cons (pv 1) pa_nil)) (blkOk_by (own := [("at", 3)]) (by first | decide +kernel | rfl)) (fun _ _ _ _ _ => (pg_name (i := 3) sc__law_flat.nd rfl (by first | exact Or.inl rfl | exact Or.inr rfl))) (fun _ _ _ _ _ => pts_nil) (fun _ _ _ _ _ => (pe_op op_addG (pv 2) (pe_callTy call_intG (by rfl) B.n_int (by decide +kernel) (pa_cons (pe_cmpR op_ltG (pv 3) (pe_op op_subG (pv 0) (pe_op op_mulG (pv 2) (pv 1))) (nomark _)) pa_nil))))) pa_nil))))), fun xs ⟨t, n, e, h1, h2⟩ => ?_⟩
  subst e
  refine sx_seqd (es' := [.im (.d (.int t)), .im (.d (.int n)), .im (.d (.int (t / (n : Int)))), .no]) (sx_setd (ev_opd (ev_var rfl) (ev_var rfl) (rv_div (by omega) (by omega))) trivial rfl) ?_
  refine sx_retd (ev_cbd (ea_consd (EvL.to (y := (fl t n).map .int) (ev_lcRange (lo := 0) (n := n) (fun i => .int (t / (n : Int) + if (i : Int) < t - t / (n : Int) * (n : Int) then 1 else 0)) ((ei_range1 (n := (n : Int)) (ea_consd (ev_var (i := 1) rfl) ea_nil) (by omega) (by omega)).imp fun m g ⟨e1, e2⟩ => ⟨by rw [e1]; omega, by rw [e2]; funext i; rw [Int.zero_add]⟩) (by omega) (by simp) fun i hi => Ev.to (ev_opd (ev_var (i := 2) rfl) (ev_cbd (ea_consd (ev_opd (Ev.to (y := .d (.int (i : Int))) (ev_var (i := 3) rfl) (by rw [Int.zero_add])) (ev_opd (ev_var (i := 0) rfl) (ev_opd (ev_var (i := 2) rfl) (ev_var (i := 1) rfl) (rv_mul (.inr ⟨by omega, by omega⟩))) rv_sub) rv_lt) ea_nil) rc_intB) rv_add) (by simp)) (by unfold fl; rw [List.map_map]; rfl)).evd ea_nil) rc_tupZ) fun s' n' e => ?_
  have e1 := PyData.int.inj (Dv.d.inj (List.cons.inj e).1)
  have e2 := PyData.int.inj (Dv.d.inj (List.cons.inj (List.cons.inj e).2).1)
  have e2 : n = n' := by omega
  subst e1; subst e2
  rfl
theorem room_dn2 (a : List Int) (k : Nat) : room (dn a) k = room a k := by
  unfold room
  rw [dn_self (dn_dn a)]
theorem poss_le {m a : List Int} (h : Le m a) (hl : m.length = a.length) (hs : m.sum = a.sum) (hp : possB a = true) : possB m = true := by
  rw [possB_iff] at hp ⊢
  refine ⟨by rw [hs]; exact hp.1, fun k hk => ?_⟩
  exact Int.le_trans (hp.2 k (by omega)) (room_mono h hl hs (by omega))
theorem poss_bars {a : List Int} (h : possB a = true) : barsL a = [] := barsL_nil.mpr (possB_iff.mp h).2
theorem rv_notB {K0 : PySem.W.Frag} {a b : Bool} : Rv K0 rIsNotG (.d (.bool a)) (.d (.bool b)) (· = .d (.bool (!decide (a = b)))) := fun B H v w e h1 h2 Q q => by
  cases h1; cases h2
  exact .inl ⟨a, b, rfl, rfl, q _ _ B H rfl (Stp.refl e) (.bl _)⟩
theorem sum_le_mul {c : Int} : ∀ {l : List Int}, (∀ x ∈ l, x ≤ c) → l.sum ≤ (l.length : Int) * c
  | [], _ => by simp
  | x :: l, h => by
    have h1 := h x List.mem_cons_self
    have h2 := sum_le_mul fun y hy => h y (List.mem_cons_of_mem _ hy)
    rw [List.sum_cons, List.length_cons, Int.natCast_add, Int.add_mul]
    simp
    omega
theorem gd_fl {s : Int} {n : Nat} (h0 : 0 ≤ s) (h1 : s ≤ 40 * (n : Int)) (n1 : 1 ≤ n) (n2 : n ≤ 10) : Gd (fl s n) := by
  refine ⟨by rw [fl_len]; exact n1, by rw [fl_len]; exact n2, fun x hx => ?_⟩
  obtain ⟨i, hi, rfl⟩ := List.mem_map.mp hx
  have hd := Int.mul_ediv_add_emod s n
  have hm := Int.emod_nonneg s (show (n : Int) ≠ 0 by omega)
  have hq : 0 ≤ s / (n : Int) := Int.ediv_nonneg h0 (by omega)
  have hq2 : s / (n : Int) < 41 := Int.ediv_lt_of_lt_mul (by omega) (by omega)
  have hc : s / (n : Int) * (n : Int) = (n : Int) * (s / (n : Int)) := Int.mul_comm _ _
  by_cases h40 : s / (n : Int) = 40
  · rw [h40] at *
    split <;> omega
  · split <;> omega
theorem poss_fl {n d : Nat} (h1 : 2 ≤ n) (h2 : n < 9) (hd : d < n * n) : possB (fl ((2 * d : Nat) : Int) n) = decide (2 * d ≤ n * (n - 1)) := by
  have h := flat_rooms n h2 h1 d hd
  have hs := fl_sum ((2 * d : Nat) : Int) n (by omega)
  rw [h, Bool.eq_iff_iff, possB_iff, List.all_eq_true, hs, fl_len]
  constructor
  · intro ⟨_, k⟩ i hi
    have := k i (List.mem_range.mp hi)
    rw [room_dn (fl_dn _ _)] at this
    exact decide_eq_true this
  · intro k
    refine ⟨by omega, fun i hi => ?_⟩
    rw [room_dn (fl_dn _ _)]
    exact of_decide_eq_true (k i (List.mem_range.mpr hi))
theorem ev_slLE {K : PySem.W.Frag} {es : List Sl} {te : TE} {R : List PyData → Prop} {lo hi : Option Int} {tl th : TO} (h : Ev K te es (fun x => ∃ xs, x = .d (.list xs) ∧ R xs)) (hl : EvO K tl es (· = lo)) (hh : EvO K th es (· = hi)) : EvL K (tSl (rSlG K) te tl th) es (fun ys => ∃ xs, R xs ∧ ys = cutD xs lo hi) := fun B0 H0 B σ H o Q q =>
  h B0 H0 B σ H o _ fun x v B1 H1 ⟨xs, e, hR⟩ s1 d1 => hl B0 H0 B1 σ H1 (o.mono s1) _ fun l B2 H2 el s2 => hh B0 H0 B2 σ H2 ((o.mono s1).mono s2) _ fun u B3 H3 eu s3 => by
    subst e; subst el; subst eu
    have d3 : DV K B3 H3 (.d (.list xs)) v := DV.mono (s2.bb.trans s3.bb) (s2.hh.trans s3.hh) d1
    cases d3 with
    | @lst a vs _ hs ha =>
      have s13 := s1.trans (s2.trans s3)
      exact .inl ⟨a, vs, rfl, Same.seq s3.bh hs, fun p hp => q _ p _ B3 _ ⟨xs, hR, rfl⟩ (s13.trans (Stp.open s3.bh hp)) (s13.hh.free hp) (s3.bh.free hp) upd_same (dpAll_cut ha l u)⟩
theorem ok__law_chain_right {f : Addr} {fd : FuncData} (F : Fun K "_law_chain_right" "_law_chain_right" s__law_chain_right f fd) (B : Blt mg) (c_sorted_down : Cl P w K mg base 5 "sorted_down" (sp_sorted_down K)) (c__law_transfers : Cl P w K mg base 1 "_law_transfers" (sp__law_transfers K)) (c__law_flat : Cl P w K mg base 1 "_law_flat" (sp__law_flat K)) (c_transferred : Cl P w K mg base 5 "transferred" (sp_transferred K)) (c__law_pick : Cl P w K mg base 2 "_law_pick" (sp__law_pick K)) (c_is_more_even : Cl P w K mg base 6 "is_more_even" (sp_is_more_even K)) (q_is_possible_counts : ClK P w K mg base 6 "is_possible" 0 ["counts"] [0] (sp_is_possible K)) (c_bars : Cl P w K mg base 5 "bars" (sp_bars K)) (c_rooms : Cl P w K mg base 5 "rooms" (sp_rooms K)) :
    FnG P w K mg base 7 f fd ["pot", "counts"] (sp__law_chain_right K) := by
  refine fgG F sc__law_chain_right (fun xs ⟨a, e, _⟩ => by rw [e]; rfl) fun cdv A outer s H E hr hgd => ?_
  have hu := hr.units
  refine ⟨_, (pss_cons (ps_set (i := 2) sc__law_chain_right.nd rfl (.inl rfl) (pe_cl c_sorted_down hr (by decide) (by rfl) (pa_cons (pv 1) pa_nil)))
      (pss_cons (ps_for PassesOwn.never rfl (pi_range1 (by rfl) B.n_range (pa_cons pe_int pa_nil)) (pg_name (i := 3) sc__law_chain_right.nd rfl (.inl rfl))
      (pss_cons (ps_set (i := 4) sc__law_chain_right.nd rfl (.inl rfl) (pe_cl c__law_transfers hr (by decide) (by rfl) (pa_cons (pv 2) pa_nil)))
      (pss_cons (ps_if (pt_cmpR (op_eqP hu) (pv 4) (pe_lst pa_nil) (nomark _))
      (pss_one (ps_ret (pe_cmpR (op_eqP hu) (pv 2) (pe_cl c__law_flat hr (by decide) (by rfl) (pa_cons (pe_callB (cr_sumD rfl) (by rfl) B.n_sum (by decide +kernel) (pa_cons (pv 1) pa_nil)) (pa_cons (pe_callB call_lenG (by rfl) B.n_len (by decide +kernel) (pa_cons (pv 1) pa_nil)) pa_nil))) (nomark _))))
      pss_nil)
      (pss_cons (ps_set (i := 5) sc__law_chain_right.nd rfl (.inl rfl) (pe_cl c_transferred hr (by decide) (by rfl) (pa_cons (pv 2) (pa_cons (pe_lst (pa_cons (pe_cl c__law_pick hr (by decide) (by rfl) (pa_cons (pv 0) (pa_cons (pv 4) pa_nil))) pa_nil)) pa_nil))))
      (pss_cons (ps_if (PW.pt (pw_or (pt_not (pt_val (pe_cl c_is_more_even hr (by decide) (by rfl) (pa_cons (pv 5) (pa_cons (pv 2) pa_nil))))) (pw_or (pt_cmpR op_isNotG (pe_clk0 q_is_possible_counts hgd hr (by decide) (by rfl) (pk_cons (pv 5) pk_nil)) pe_bl (nomark _)) (pw_or1 (pt_cmpR (op_neP hu) (pe_cl c_bars hr (by decide) (by rfl) (pa_cons (pv 5) pa_nil)) (pe_lst pa_nil) (nomark _))))))
      (pss_one (ps_ret pe_bl))
      pss_nil)
      (pss_cons (ps_if (pt_not (pt_val (pe_callB (cr_all rfl) (by rfl) B.n_all (by decide +kernel) (pa_cons (pe_lc (own := [("near", 6), ("far", 7)]) (g := (gTup K 2 (gCons (gName 6) (gCons (gName 7) gNil)))) (tt := tYes) (te := (tOp rGeI (tVar 7) (tVar 6))) (by rfl) sc__law_chain_right.nd (RZ.pi_zipA (by rfl) B.n_zip (pa_cons (pe_cl c_rooms hr (by decide) (by rfl) (pa_cons (pv 2) pa_nil)) (pa_cons (pe_cl c_rooms hr (by decide) (by rfl) (pa_cons (pv 5) pa_nil)) pa_nil))) (blkOk_by (own := [("near", 6), ("far", 7)]) (by first | decide +kernel | rfl)) (fun _ _ _ _ _ => (pg_tup (by rfl) (pgs_cons (pg_name (i := 6) sc__law_chain_right.nd rfl (by first | exact Or.inl rfl | exact Or.inr rfl)) (pgs_cons (pg_name (i := 7) sc__law_chain_right.nd rfl (by first | exact Or.inl rfl | exact Or.inr rfl)) pgs_nil)))) (fun _ _ _ _ _ => pts_nil) (fun _ _ _ _ _ => (pe_cmpR op_geG (pv 7) (pv 6) (nomark _)))) pa_nil))))
      (pss_one (ps_ret pe_bl))
      pss_nil)
      (pss_one (ps_set (i := 2) sc__law_chain_right.nd rfl (.inl rfl) (pv 5)))))))))
      (pss_one (ps_ret pe_bl)))), fun xs ⟨c, e, gc, pc⟩ => ?_⟩
  subst e
  have al0 : Al c (dn c) := ⟨gc, gc.dn, (dn_len c).symm, (dn_sum c).symm⟩
  refine sx_seqd (es' := [.im .pot, .im (.d (tI c)), .im (.d (tI (dn c))), .no, .no, .no, .no, .no]) (sx_setd (e_down (ea_consd (ev_var rfl) ea_nil) gc) trivial rfl) ?_
  refine sx_seq (M := fun es => True) ?_ fun es _ => sx_retd ev_bl rfl
  refine sx_forRange (lo := 0) (n := 6) ((ei_range1 (n := 6) (ea_consd ev_int ea_nil) (by omega) (by omega)).imp fun m g ⟨e1, e2⟩ => ⟨e1, by rw [e2]; funext i; rw [Int.zero_add]⟩)
    (fun i es => ∃ (x : List Int) (y3 y4 y5 y6 y7 : Sl), es = [.im .pot, .im (.d (tI c)), .im (.d (tI x)), y3, y4, y5, y6, y7] ∧ Dn x ∧ Al c x ∧ possB x = true) ⟨dn c, _, _, _, _, _, rfl, dn_dn c, al0, poss_le (le_dn_l (Le.refl c)) (dn_len c) (dn_sum c) pc⟩ ?_ fun es _ => trivial
  rintro i hi es ⟨x, y3, y4, y5, y6, y7, rfl, dx, al, px⟩
  have gx := al.gb
  have lx := gx.2.1
  refine sx_seqd (es' := [.im .pot, .im (.d (tI c)), .im (.d (tI x)), .im (.d (.int (0 + (i : Nat)))), .mu ((tsL x x.length).map trE), y5, y6, y7]) (sx_setLd (ev_callLd (ea_consd (ev_var rfl) ea_nil) ⟨x, rfl, lx⟩ fun z hz => hz x rfl) rfl) ?_
  refine sx_shut 4 (xs := (tsL x x.length).map trE) rfl ?_
  have tl := tsL_len x x.length
  have tl2 : x.length * x.length ≤ 10 * 10 := Nat.mul_le_mul lx lx
  refine sx_seq (M := fun es => es = [.im .pot, .im (.d (tI c)), .im (.d (tI x)), .im (.d (.int (0 + (i : Nat)))), .im (.d (.list ((tsL x x.length).map trE))), y5, y6, y7] ∧ tsL x x.length ≠ []) (sx_if (Pb := fun b => b = decide (tsL x x.length = [])) ((et_testd (ev_opd (ev_var (i := 4) rfl) (ev_lstd ea_nil .nil (by simp)).evd (rv_eq (.inl rfl) (.inl rfl) (flat_trs _) flat_nil))).to (eqv_nil _)) (fun hb => ?_) fun hb => sx_next ⟨rfl, of_decide_eq_false hb.symm⟩) ?_
  · have hn := of_decide_eq_true hb.symm
    have ef := fl_of gx.1 dx (tsL_nil hn)
    refine sx_retd ((ev_opd (ev_var (i := 2) rfl) (Ev.zd (ev_calld (P := (· = .z ((fl c.sum c.length).map .int))) (ea_consd (ev_cbd (ea_consd (ev_var (i := 1) rfl) ea_nil) (rc_sum (.inr (.inl rfl)))) (ea_consd (Ev.to (y := .d (.int (c.length : Nat))) (ev_cbd (ea_consd (ev_var (i := 1) rfl) ea_nil) (rc_len (.inl rfl) (.inr rfl))) (by rw [List.length_map])) ea_nil)) ⟨c.sum, c.length, rfl, gc.1, gc.2.1⟩ fun z hz => hz _ _ rfl)) (rv_eqT (a := x) (b := fl c.sum c.length))).to ?_) rfl
    rw [al.sm, al.ln, ← ef, decide_eq_true rfl]
  · rintro es ⟨rfl, hne⟩
    refine sx_seq (M := fun es => ∃ g t, (∃ (hg : g < x.length) (ht : t < x.length), x[t] + 2 ≤ x[g]) ∧ es = [.im .pot, .im (.d (tI c)), .im (.d (tI x)), .im (.d (.int (0 + (i : Nat)))), .im (.d (.list ((tsL x x.length).map trE))), .im (.d (tI (dn (shift x g t)))), y6, y7]) (sx_set (P := fun z => ∃ g t, (∃ (hg : g < x.length) (ht : t < x.length), x[t] + 2 ≤ x[g]) ∧ z = .d (tI (dn (shift x g t)))) (ev_call (Pt := fun l => ∃ g t, (∃ (hg : g < x.length) (ht : t < x.length), x[t] + 2 ≤ x[g]) ∧ l = [.d (tI x), .d (.list ([(g, t)].map trE))]) ((ea_cons (ev_var (i := 2) rfl) (ea_cons ((ev_lst (P := fun ds => ∃ g t, (∃ (hg : g < x.length) (ht : t < x.length), x[t] + 2 ≤ x[g]) ∧ ds = [(g, t)].map trE) (Pt := fun l => ∃ g t, (∃ (hg : g < x.length) (ht : t < x.length), x[t] + 2 ≤ x[g]) ∧ l = [.d (trE (g, t))]) ((ea_cons (ev_calld (P := fun z => ∃ g t, (∃ (hg : g < x.length) (ht : t < x.length), x[t] + 2 ≤ x[g]) ∧ z = .d (trE (g, t))) (ea_consd (ev_var (i := 0) rfl) (ea_consd (ev_var (i := 4) rfl) ea_nil)) ⟨_, rfl, by simpa using hne, by rw [List.length_map]; omega⟩ fun z hz => ?_) ea_nil).imp fun l ⟨x', xs, e, ⟨g, t, h, ez⟩, en⟩ => ⟨g, t, h, by rw [e, ez, en]⟩) fun l ⟨g, t, h, e⟩ => ⟨_, by rw [e]; exact .cons .nil, by show 1 ≤ 1000000; omega, g, t, h, rfl⟩).ev) ea_nil)).imp fun l ⟨x', xs, e, ex, y, ys, e2, ⟨zs, ey, g, t, h, ez⟩, en⟩ => ⟨g, t, h, by rw [e, ex, e2, ey, ez, en]⟩) fun l ⟨g, t, ⟨hg, ht, hd⟩, e⟩ => ?_) fun z ⟨g, t, h, e⟩ => by subst e; exact ⟨trivial, g, t, h, rfl⟩) ?_
    · obtain ⟨d, e, hd⟩ := hz _ rfl
      obtain ⟨⟨g, t⟩, hm, rfl⟩ := List.mem_map.mp hd
      exact ⟨g, t, tsL_mem hm, e⟩
    · rintro es ⟨g, t, ⟨hg, ht, hd⟩, rfl⟩
      have sa := shift_al gx hg ht hd
      have sl := shift_le gx hg ht hd
      generalize shift x g t = y at *
      have la : Al (dn y) x := ⟨sa.gb.dn, gx, by rw [dn_len]; exact sa.ln.symm, by rw [dn_sum]; exact sa.sm.symm⟩
      have lle : Le (dn y) x := le_dn_l sl
      have py : possB (dn y) = true := poss_le lle la.ln la.sm px
      have gl := la.ga
      refine sx_ifGo (et_or2 (et_nb (b := false) (et_Bd (e_more (ea_consd (ev_var (i := 5) rfl) (ea_consd (ev_var (i := 2) rfl) ea_nil)) la)) (by rw [leB_iff.mpr lle]; rfl)) (et_or2 ((et_testd (ev_opd (ev_kcalld (P := (· = .d (.bool true))) ea_nil (ea_consd (ev_var (i := 5) rfl) ea_nil) rfl rfl ⟨dn y, rfl, gl⟩ fun z hz => by rw [hz (dn y) rfl, py]) ev_bl rv_notB)).to rfl) ((et_testd (ev_opd (ev_callLd (P := (· = [])) (ea_consd (ev_var (i := 5) rfl) ea_nil) ⟨dn y, rfl, gl⟩ fun z hz => by rw [hz (dn y) rfl, poss_bars py]; rfl).evd (ev_lstd ea_nil .nil (by simp)).evd (rv_ne (.inl rfl) (.inl rfl) flat_nil flat_nil))).to (by simp [PyData.eqv, PyData.eqvAll])))) ?_
      have rlen : ∀ u : List Int, (roomsL u).length = u.length := fun u => by simp [roomsL]
      refine sx_ifGo (et_nb (b := false) (a := true) ((et_Bd (ev_cbd (ea_consd (ev_lcZip (roomsL x) (roomsL (dn y)) .int .int (fun u v => .bool (decide (u ≤ v))) (ei_zipL (ea_consd (ev_callLd (ea_consd (ev_var (i := 2) rfl) ea_nil) ⟨x, rfl, gx⟩ fun z hz => hz x rfl).evd (ea_consd (ev_callLd (ea_consd (ev_var (i := 5) rfl) ea_nil) ⟨dn y, rfl, gl⟩ fun z hz => hz (dn y) rfl).evd ea_nil))) (by rw [rlen]; omega) (by simp) (by simp) fun u v _ => ev_opd (ev_var rfl) (ev_var rfl) rv_ge).evd ea_nil) (rc_allM (q := fun p : Int × Int => decide (p.1 ≤ p.2))))).to ?_) rfl) ?_
      · rw [List.all_eq_true]
        intro p hp
        obtain ⟨k, hk, rfl⟩ := List.getElem_of_mem hp
        rw [List.length_zip, rlen, rlen] at hk
        rw [List.getElem_zip]
        simp only [roomsL, List.getElem_map, List.getElem_range]
        exact decide_eq_true (room_mono lle la.ln la.sm (by rw [la.ln]; omega))
      · exact sx_setd (ev_var (i := 5) rfl) trivial ⟨dn y, _, _, _, _, _, rfl, dn_dn y, al.trans la.symm, py⟩
    · subst e
      have st : Steps (dn x) [(g, t)] (dn (shift x g t)) := by
        rw [dn_self dx]
        exact .cons hg ht hd .nil
      exact ⟨⟨x, _, [(g, t)], rfl, gx, st⟩, fun z hz => ⟨g, t, ⟨hg, ht, hd⟩, hz x _ [(g, t)] rfl st⟩⟩
theorem nn_a {n m : Nat} (h1 : 2 ≤ n) (h2 : n < 9) (h : 2 * (m : Int) ≤ (n : Int) * ((n : Int) - 1)) : 2 * m ≤ n * (n - 1) ∧ m < n * n ∧ 2 * m ≤ 40 * n := by
  rcases (by omega : n = 2 ∨ n = 3 ∨ n = 4 ∨ n = 5 ∨ n = 6 ∨ n = 7 ∨ n = 8) with rfl | rfl | rfl | rfl | rfl | rfl | rfl <;> omega
theorem nn_b {n m : Nat} (h1 : 2 ≤ n) (h2 : n < 9) : 2 * m ≤ n * (n - 1) ↔ ((2 * m : Nat) : Int) ≤ (n : Int) * ((n : Int) - 1) := by
  rcases (by omega : n = 2 ∨ n = 3 ∨ n = 4 ∨ n = 5 ∨ n = 6 ∨ n = 7 ∨ n = 8) with rfl | rfl | rfl | rfl | rfl | rfl | rfl <;> omega
theorem nn_c {n : Nat} (h1 : 2 ≤ n) (h2 : n < 9) : (n : Int) * (n : Int) = ((n * n : Nat) : Int) ∧ 4 ≤ n * n ∧ n * n ≤ 64 ∧ n * (n - 1) ≤ 56 := by
  rcases (by omega : n = 2 ∨ n = 3 ∨ n = 4 ∨ n = 5 ∨ n = 6 ∨ n = 7 ∨ n = 8) with rfl | rfl | rfl | rfl | rfl | rfl | rfl <;> omega
theorem gd_counts {n : Nat} (h1 : 2 ≤ n) (h2 : n < 9) {ps : List (Nat × Nat)} (h : Prs n ps) : Gd (counts n ps) := ⟨by rw [counts_len]; omega, by rw [counts_len]; omega, fun x hx => by
  have := counts_bound h x hx
  omega⟩
theorem poss_counts {n : Nat} {ps : List (Nat × Nat)} (h : Prs n ps) : possB (counts n ps) = true := possB_iff.mpr ⟨by rw [counts_sum h]; omega, fun k hk => counts_room h (by rw [counts_len] at hk; omega)⟩
theorem prs_take {n m : Nat} {qs : List (Nat × Nat)} (p : qs.Perm (allPi n n)) : Prs n (qs.take m) :=
  have h := allP_prs n
  ⟨((p.nodup_iff.mpr h.1)).sublist (List.take_sublist m qs), fun x hx => h.2 x (p.mem_iff.mp (List.mem_of_mem_take hx))⟩
theorem ok__law_right {f : Addr} {fd : FuncData} (F : Fun K "_law_right" "_law_right" s__law_right f fd) (B : Blt mg) (c__law_draw : Cl P w K mg base 1 "_law_draw" (sp__law_draw K)) (c__law_counts : Cl P w K mg base 1 "_law_counts" (sp__law_counts K)) (c__law_web : Cl P w K mg base 2 "_law_web" (sp__law_web K)) (g__law_chain_right : ClG P w K mg base 7 "_law_chain_right" (sp__law_chain_right K)) (c_web_of : Cl P w K mg base 5 "web_of" (sp_web_of K)) (c__law_flat : Cl P w K mg base 1 "_law_flat" (sp__law_flat K)) (c_is_possible : Cl P w K mg base 6 "is_possible" (sp_is_possible K)) (c__law_mixed : Cl P w K mg base 2 "_law_mixed" (sp__law_mixed K)) (c__law_pairs : Cl P w K mg base 1 "_law_pairs" (sp__law_pairs K)) (q_even_below_others_counts : ClK P w K mg base 6 "even_below" 0 ["others", "counts"] [1, 0] (sp_even_below K)) :
    FnG P w K mg base 8 f fd ["pot"] (sp__law_right K) := by
  refine fgG F sc__law_right (fun xs e => by rw [e]; rfl) fun cdv A outer s H E hr hgd => ?_
  have hu := hr.units
  refine ⟨_, (pss_cons (ps_set (i := 1) sc__law_right.nd rfl (.inl rfl) (pe_op op_addG pe_int (pe_cl c__law_draw hr (by decide) (by rfl) (pa_cons (pv 0) (pa_cons pe_int pa_nil)))))
      (pss_cons (ps_set (i := 2) sc__law_right.nd rfl (.inl rfl) (pe_cl c__law_counts hr (by decide) (by rfl) (pa_cons (pv 1) (pa_cons (pe_ix ix_seq (pe_cl c__law_web hr (by decide) (by rfl) (pa_cons (pv 0) (pa_cons (pv 1) pa_nil))) pe_int (fun _ _ => rfl)) pa_nil))))
      (pss_cons (ps_if (PW.pt (pw_or (pt_not (pt_val (pe_clg g__law_chain_right hgd hr (by decide) (by rfl) (pa_cons (pv 0) (pa_cons (pv 2) pa_nil))))) (pw_or1 (pt_cmpR op_isG (pe_cl c_web_of hr (by decide) (by rfl) (pa_cons (pe_cl c__law_flat hr (by decide) (by rfl) (pa_cons (pe_callB (cr_sumD rfl) (by rfl) B.n_sum (by decide +kernel) (pa_cons (pv 2) pa_nil)) (pa_cons (pv 1) pa_nil))) pa_nil)) pe_non (nomark _)))))
      (pss_one (ps_ret pe_bl))
      pss_nil)
      (pss_cons (ps_set (i := 3) sc__law_right.nd rfl (.inl rfl) (pe_op op_mulG pe_int (pe_cl c__law_draw hr (by decide) (by rfl) (pa_cons (pv 0) (pa_cons (pe_op op_mulG (pv 1) (pv 1)) pa_nil)))))
      (pss_cons (ps_if (PW.pt (pw_and (pt_cmpR op_leG (pv 3) (pe_op op_mulG pe_int (pv 1)) (nomark _)) (pw_and1 (pt_cmpR (op_neP hu) (pe_cl c_is_possible hr (by decide) (by rfl) (pa_cons (pe_cl c__law_flat hr (by decide) (by rfl) (pa_cons (pv 3) (pa_cons (pv 1) pa_nil))) pa_nil)) (pe_cmpR op_leG (pv 3) (pe_op op_mulG (pv 1) (pe_op op_subG (pv 1) pe_int)) (nomark _)) (nomark _)))))
      (pss_one (ps_ret pe_bl))
      pss_nil)
      (pss_cons (ps_set (i := 4) sc__law_right.nd rfl (.inl rfl) (pe_slice sl_seq (pe_cl c__law_mixed hr (by decide) (by rfl) (pa_cons (pv 0) (pa_cons (pe_cl c__law_pairs hr (by decide) (by rfl) (pa_cons (pv 1) pa_nil)) pa_nil))) po_none (po_some (pe_op op_divG (pe_callB (cr_sumD rfl) (by rfl) B.n_sum (by decide +kernel) (pa_cons (pv 2) pa_nil)) pe_int))))
      (pss_cons (ps_set (i := 5) sc__law_right.nd rfl (.inl rfl) (pe_cl c__law_counts hr (by decide) (by rfl) (pa_cons (pv 1) (pa_cons (pv 4) pa_nil))))
      (pss_one (ps_ret (pe_cmpR op_isG (pe_cl c_is_possible hr (by decide) (by rfl) (pa_cons (pe_clk0 q_even_below_others_counts hgd hr (by decide) (by rfl) (pk_cons (pv 5) (pk_cons (pv 2) pk_nil))) pa_nil)) pe_bl (nomark _))))))))))), fun xs e => ?_⟩
  subst e
  refine sx_seq (M := fun es => ∃ n : Nat, 2 ≤ n ∧ n < 9 ∧ es = [.im .pot, .im (.d (.int n)), .no, .no, .no, .no]) (sx_set (P := fun z => ∃ n : Nat, 2 ≤ n ∧ n < 9 ∧ z = .d (.int n)) (ev_op ev_int (e_draw (ea_consd (ev_var (i := 0) rfl) (ea_consd ev_int ea_nil)) (by omega) (by omega)) fun x y e1 ⟨d, e2, d0, d1⟩ => ?a1) fun z ⟨n, h1, h2, e⟩ => by subst e; exact ⟨trivial, n, h1, h2, rfl⟩) ?r1
  case a1 =>
    subst e1 e2
    exact fun B H v w e a b Q q => rv_add B H v w e a b Q fun x u B2 H2 ex => q x u B2 H2 ⟨d.toNat + 2, by omega, by omega, by rw [ex]; congr 2; omega⟩
  rintro es ⟨n, n2, n9, rfl⟩
  obtain ⟨nn, nl, nu, nk⟩ := nn_c n2 n9
  refine sx_seq (M := fun es => ∃ ps, Prs n ps ∧ es = [.im .pot, .im (.d (.int n)), .im (.d (tI (counts n ps))), .no, .no, .no]) (sx_set (P := fun z => ∃ ps, Prs n ps ∧ z = .d (tI (counts n ps))) (ev_call (Pt := fun l => ∃ ps : List (Nat × Nat), Prs n ps ∧ ps.length ≤ 100 ∧ l = [.d (.int n), .d (.tuple (ps.map trE))]) ((ea_cons (ev_var (i := 1) rfl) (ea_cons (ev_op (P := fun z => ∃ ps : List (Nat × Nat), Prs n ps ∧ ps.length ≤ 100 ∧ z = .d (.tuple (ps.map trE))) (ev_calld (P := fun z => ∃ ps : List (Nat × Nat), z = .d (.tuple [.str "web", .int n, .tuple (ps.map trE)]) ∧ Prs n ps ∧ ps.length ≤ 100) (ea_consd (ev_var (i := 0) rfl) (ea_consd (ev_var (i := 1) rfl) ea_nil)) ⟨n, rfl, by omega⟩ fun z hz => hz n rfl) ev_int fun x y ⟨ps, e1, hp, hl⟩ e2 => ?a2) ea_nil)).imp fun l h => ?b2) fun l ⟨ps, hp, hl, e⟩ => ?c2) fun z ⟨ps, hp, e⟩ => by subst e; exact ⟨trivial, ps, hp, rfl⟩) ?r2
  case a2 =>
    subst e1 e2
    exact fun B H v w e a b Q q => rv_ixT (d := .tuple (ps.map trE)) rfl B H v w e a b Q fun x u B2 H2 ex => q x u B2 H2 ⟨ps, hp, hl, ex⟩
  case b2 =>
    obtain ⟨x, xs, e, ex, y, ys, e2, ⟨ps, hp, hl, ey⟩, en⟩ := h
    exact ⟨ps, hp, hl, by rw [e, ex, e2, ey, en]⟩
  case c2 =>
    subst e
    exact ⟨⟨n, ps, _, rfl, .inr rfl, by omega, by omega⟩, fun z hz => ⟨ps, hp, hz n ps _ rfl (.inr rfl)⟩⟩
  rintro es ⟨ps, hp, rfl⟩
  have gC := gd_counts n2 n9 hp
  have pC := poss_counts hp
  have sC := counts_sum hp
  obtain ⟨m1, m2, m3⟩ := nn_a (m := ps.length) n2 n9 (by
    have := sum_le_mul (fun x hx => (counts_bound hp x hx).2)
    rw [counts_len, sC] at this
    exact this)
  have sC2 : (counts n ps).sum = ((2 * ps.length : Nat) : Int) := by rw [sC]; omega
  have gF : Gd (fl (counts n ps).sum n) := by
    rw [sC2]
    exact gd_fl (by omega) (by omega) (by omega) (by omega)
  have hF : hh 8 (fl (counts n ps).sum n) = true := by
    rw [sC2]
    exact flat_hh n n9 n2 _ m2 m1
  refine sx_ifGo (et_or2 (et_nb (b := false) (a := true) (et_Bd (ev_calld (ea_consd (ev_var (i := 0) rfl) (ea_consd (ev_var (i := 2) rfl) ea_nil)) ⟨_, rfl, gC, pC⟩ fun z hz => hz)) rfl) ((et_testd (b := false) (ev_op (ev_calld (P := fun z => ∃ ds, z = .d (.tuple ds)) (ea_consd (ev_calld (P := (· = .z ((fl (counts n ps).sum n).map .int))) (ea_consd (ev_cbd (ea_consd (ev_var (i := 2) rfl) ea_nil) (rc_sum (.inr (.inl rfl)))) (ea_consd (ev_var (i := 1) rfl) ea_nil)) ⟨_, n, rfl, by omega, by omega⟩ fun z hz => hz _ _ rfl) ea_nil) ⟨_, rfl, gF, hF⟩ fun z hz => hz) ev_non fun x y ⟨ds, e1⟩ e2 => by subst e1 e2; exact rv_isNon)).to rfl)) ?_
  refine sx_seq (M := fun es => ∃ d : Nat, d < n * n ∧ es = [.im .pot, .im (.d (.int n)), .im (.d (tI (counts n ps))), .im (.d (.int ((2 * d : Nat) : Int))), .no, .no]) (sx_set (P := fun z => ∃ d : Nat, d < n * n ∧ z = .d (.int ((2 * d : Nat) : Int))) (ev_op ev_int (e_draw (ea_consd (ev_var (i := 0) rfl) (ea_consd (ev_opd (ev_var (i := 1) rfl) (ev_var (i := 1) rfl) (rv_mul (.inl ⟨by omega, by omega⟩))) ea_nil)) (by omega) (by omega)) fun x y e1 ⟨d, e2, d0, d1⟩ => ?a3) fun z ⟨d, h1, e⟩ => by subst e; exact ⟨trivial, d, h1, rfl⟩) ?r3
  case a3 =>
    subst e1 e2
    exact fun B H v w e a b Q q => rv_mul (.inl ⟨by omega, by omega⟩) B H v w e a b Q fun x u B2 H2 ex => q x u B2 H2 ⟨d.toNat, by omega, by rw [ex]; congr 2; omega⟩
  rintro es ⟨d, hd, rfl⟩
  refine sx_ifGo (et_and (et_testd (ev_opd (ev_var (i := 3) rfl) (ev_opd ev_int (ev_var (i := 1) rfl) (rv_mul (.inl ⟨by omega, by omega⟩))) rv_le)) (fun _ => rfl) fun ht => et_neB (x := possB (fl ((2 * d : Nat) : Int) n)) (y := decide (((2 * d : Nat) : Int) ≤ (n : Int) * ((n : Int) - 1))) (ev_calld (ea_consd (Ev.zd (ev_calld (P := (· = .z ((fl ((2 * d : Nat) : Int) n).map .int))) (ea_consd (ev_var (i := 3) rfl) (ea_consd (ev_var (i := 1) rfl) ea_nil)) ⟨_, n, rfl, by omega, by omega⟩ fun z hz => hz _ _ rfl)) ea_nil) ⟨fl ((2 * d : Nat) : Int) n, rfl, ?a4⟩ fun z hz => hz _ rfl) (ev_opd (ev_var (i := 3) rfl) (ev_opd (ev_var (i := 1) rfl) (ev_opd (ev_var (i := 1) rfl) ev_int rv_sub) (rv_mul (.inl ⟨by omega, by omega⟩))) rv_le) ?b4) ?_
  case a4 =>
    have ht2 := of_decide_eq_true (Eq.symm ht)
    exact gd_fl (by omega) (by omega) (by omega) (by omega)
  case b4 =>
    rw [poss_fl n2 n9 hd]
    exact decide_eq_decide.mpr (nn_b n2 n9)
  have al2 := allP_len n
  refine sx_seq (M := fun es => ∃ qs : List (Nat × Nat), qs.Perm (allPi n n) ∧ es = [.im .pot, .im (.d (.int n)), .im (.d (tI (counts n ps))), .im (.d (.int ((2 * d : Nat) : Int))), .mu ((qs.take ps.length).map trE), .no]) (sx_setL (P := fun ys => ∃ qs : List (Nat × Nat), qs.Perm (allPi n n) ∧ ys = (qs.take ps.length).map trE) ((ev_slLE (R := fun ys => ∃ qs : List (Nat × Nat), ys = qs.map trE ∧ qs.Perm (allPi n n)) (ev_callLd (P := fun ys => ∃ qs : List (Nat × Nat), ys = qs.map trE ∧ qs.Perm (allPi n n)) (ea_consd (ev_var (i := 0) rfl) (ea_consd (ev_callLd (P := (· = (allPi n n).map trE)) (ea_consd (ev_var (i := 1) rfl) ea_nil) ⟨n, rfl, by omega⟩ fun z hz => hz n rfl).evd ea_nil)) ⟨allPi n n, rfl, by omega⟩ fun z hz => hz _ rfl).ev eo_none (eo_somed (n := (ps.length : Int)) (Ev.to (ev_opd (ev_cbd (ea_consd (ev_var (i := 2) rfl) ea_nil) (rc_sum (.inr (.inl rfl)))) ev_int (rv_div (by omega) (by omega))) ?a5))).imp fun ys ⟨xs, ⟨qs, ex, hq⟩, ey⟩ => ⟨qs, hq, by rw [ey, ex, cut_to, List.map_take]⟩) fun ys ⟨qs, hq, e⟩ => by subst e; exact ⟨qs, hq, rfl⟩) ?r5
  case a5 =>
    rw [sC]
    congr 2
    omega
  rintro es ⟨qs, hq, rfl⟩
  refine sx_shut 4 (xs := (qs.take ps.length).map trE) rfl ?_
  have hL : Prs n (qs.take ps.length) := prs_take hq
  have lL : (qs.take ps.length).length = ps.length := by
    rw [List.length_take, hq.length_eq]
    omega
  have gL := gd_counts n2 n9 hL
  have sL := counts_sum hL
  refine sx_seqd (es' := [.im .pot, .im (.d (.int n)), .im (.d (tI (counts n ps))), .im (.d (.int ((2 * d : Nat) : Int))), .im (.d (.list ((qs.take ps.length).map trE))), .im (.d (tI (counts n (qs.take ps.length))))]) (sx_setd (ev_calld (ea_consd (ev_var (i := 1) rfl) (ea_consd (ev_var (i := 4) rfl) ea_nil)) ⟨n, qs.take ps.length, .list _, rfl, .inl rfl, by omega, by omega⟩ fun z hz => hz n _ _ rfl (.inl rfl)) trivial rfl) ?_
  have al : Al (counts n ps) (counts n (qs.take ps.length)) := ⟨gC, gL, by rw [counts_len, counts_len], by rw [sC, sL, lL]⟩
  have pm : possB (meet (counts n ps) (counts n (qs.take ps.length))) = true := poss_le (meet_le1 al.ln) (meet_len al.ln) (meet_sum al) pC
  exact sx_retd ((ev_opd (ev_calld (P := (· = .d (.bool true))) (ea_consd (ev_kcalld (P := (· = .d (tI (meet (counts n ps) (counts n (qs.take ps.length)))))) ea_nil (ea_consd (ev_var (i := 5) rfl) (ea_consd (ev_var (i := 2) rfl) ea_nil)) rfl rfl ⟨_, _, rfl, al⟩ fun z hz => hz _ _ rfl) ea_nil) ⟨_, rfl, meet_gd al⟩ fun z hz => by rw [hz _ rfl, pm]) ev_bl rv_isB).to rfl) rfl
theorem ok_law {f : Addr} {fd : FuncData} (F : Fun K "law" "law" s_law f fd) (B : Blt mg) (c__law_pot : Cl P w K mg base 1 "_law_pot" (sp__law_pot K)) (g__law_right : ClG P w K mg base 8 "_law_right" (sp__law_right K)) :
    FnG P w K mg base 9 f fd ["script"] (sp_law K) := by
  refine fgG F sc_law (fun xs ⟨a, e, _⟩ => by rw [e]; rfl) fun cdv A outer s H E hr hgd => ?_
  have hu := hr.units
  refine ⟨_, (pss_one (ps_ret (pe_callB (cr_all rfl) (by rfl) B.n_all (by decide +kernel) (pa_cons (pe_lc (own := [("k", 1)]) (g := (gName 1)) (tt := tYes) (te := (tCall (sp__law_right K) [] E0 (tCons (tCall (sp__law_pot K) [] E0 (tCons (tVar 0) (tCons (tVar 1) tNil))) tNil))) (by rfl) sc_law.nd (pi_range1 (by rfl) B.n_range (pa_cons (pe_callB (call_maxG rfl hu) (by rfl) B.n_max (by decide +kernel) (pa_cons pe_int (pa_cons (pe_callB (call_minG rfl hu) (by rfl) B.n_min (by decide +kernel) (pa_cons pe_int (pa_cons (pe_callB call_lenG (by rfl) B.n_len (by decide +kernel) (pa_cons (pv 0) pa_nil)) pa_nil))) pa_nil))) pa_nil)) (blkOk_by (own := [("k", 1)]) (by first | decide +kernel | rfl)) (fun _ _ _ _ _ => (pg_name (i := 1) sc_law.nd rfl (by first | exact Or.inl rfl | exact Or.inr rfl))) (fun _ _ _ _ _ => pts_nil) (fun _ _ _ _ _ => (pe_clg g__law_right hgd hr (by decide) (by rfl) (pa_cons (pe_cl c__law_pot hr (by decide) (by rfl) (pa_cons (pv 0) (pa_cons (pv 1) pa_nil))) pa_nil)))) pa_nil)))), fun xs ⟨ns, e, hns⟩ => ?_⟩
  subst e
  have hlen : (ns.map PyData.int).length = ns.length := List.length_map ..
  have em : EvA K _ (startS ["script", "k"] [.d (lI ns)]) (· = [.d (.int (max 1 (min 3 (ns.length : Nat))))]) := ea_consd (ev_cbd (ea_consd ev_int (ea_consd (ev_cbd (ea_consd ev_int (ea_consd (Ev.to (ev_cbd (ea_consd (ev_var (i := 0) (x := .d (lI ns)) rfl) ea_nil) (rc_len (.inl rfl) (.inl rfl))) (by rw [hlen])) ea_nil)) rc_min2) ea_nil)) rc_max2) ea_nil
  refine sx_retd (ev_allTrue (js := [1]) (ei_range1 em (by omega) (by omega)) (by simp) fun n g ⟨e1, e2⟩ => ?_) rfl
  subst e1; subst e2
  refine ⟨by omega, fun i hi => ⟨_, tg_name trivial, ?_⟩⟩
  exact ev_calld (P := (· = .d (.bool true))) (ea_consd (ev_calld (P := (· = .pot)) (ea_consd (ev_var (i := 0) (x := .d (lI ns)) rfl) (ea_consd (ev_var rfl) ea_nil)) ⟨ns, _, rfl, by omega, by omega⟩ fun z hz => hz) ea_nil) rfl fun z hz => hz
end
end K35
end
namespace K35
open PySem PySem.Spec PyProof.Rows L2 RZ HM MJ
theorem law_sp {K : PySem.W.Frag} {H : Hp} {a : Addr} {ns : List Int} {E : XK} (hS : SqL K H a (ns.map V.int)) (hl : ns.length ≤ 63) : sp_law K [.ref a] H (fun v _ => v = .bl true) E := by
  refine ⟨H, [.d (lI ns)], Same.refl _, .cons (Dp.lst hS (dpAll_of_ints ns)) .nil, ⟨ns, rfl, by omega⟩, fun z u B2 H2 hz st d => ?_⟩
  subst hz
  cases d
  rfl
section
set_option maxHeartbeats 0 in
theorem all_mk {l : PySem.W.OpenLaw} {w : World} {K : PySem.W.Frag} {h : Heap} {mg : Str → Option Value} {fa : Addr} (X : K.In h) (G : h.Ns mainGlobals mg) (hfa : mg "law" = some (.ref fa))
    {f0 : Addr} {od0 an0 : Option Addr} {sl0 : Array (Option Value)} {oc0 kV0 dc0 pm0 cd0 ct0 : Value}
    {f1 : Addr} {od1 an1 : Option Addr} {sl1 : Array (Option Value)} {oc1 kV1 dc1 pm1 cd1 ct1 : Value}
    {f2 : Addr} {od2 an2 : Option Addr} {sl2 : Array (Option Value)} {oc2 kV2 dc2 pm2 cd2 ct2 : Value}
    {f3 : Addr} {od3 an3 : Option Addr} {sl3 : Array (Option Value)} {oc3 kV3 dc3 pm3 cd3 ct3 : Value}
    {f4 : Addr} {od4 an4 : Option Addr} {sl4 : Array (Option Value)} {oc4 kV4 dc4 pm4 cd4 ct4 : Value}
    {f5 : Addr} {od5 an5 : Option Addr} {sl5 : Array (Option Value)} {oc5 kV5 dc5 pm5 cd5 ct5 : Value}
    {f6 : Addr} {od6 an6 : Option Addr} {sl6 : Array (Option Value)} {oc6 kV6 dc6 pm6 cd6 ct6 : Value}
    {f7 : Addr} {od7 an7 : Option Addr} {sl7 : Array (Option Value)} {oc7 kV7 dc7 pm7 cd7 ct7 : Value}
    {f8 : Addr} {od8 an8 : Option Addr} {sl8 : Array (Option Value)} {oc8 kV8 dc8 pm8 cd8 ct8 : Value}
    {f9 : Addr} {od9 an9 : Option Addr} {sl9 : Array (Option Value)} {oc9 kV9 dc9 pm9 cd9 ct9 : Value}
    {f10 : Addr} {od10 an10 : Option Addr} {sl10 : Array (Option Value)} {oc10 kV10 dc10 pm10 cd10 ct10 : Value}
    {f11 : Addr} {od11 an11 : Option Addr} {sl11 : Array (Option Value)} {oc11 kV11 dc11 pm11 cd11 ct11 : Value}
    {f12 : Addr} {od12 an12 : Option Addr} {sl12 : Array (Option Value)} {oc12 kV12 dc12 pm12 cd12 ct12 : Value}
    {f13 : Addr} {od13 an13 : Option Addr} {sl13 : Array (Option Value)} {oc13 kV13 dc13 pm13 cd13 ct13 : Value}
    {f14 : Addr} {od14 an14 : Option Addr} {sl14 : Array (Option Value)} {oc14 kV14 dc14 pm14 cd14 ct14 : Value}
    {f15 : Addr} {od15 an15 : Option Addr} {sl15 : Array (Option Value)} {oc15 kV15 dc15 pm15 cd15 ct15 : Value}
    {f16 : Addr} {od16 an16 : Option Addr} {sl16 : Array (Option Value)} {oc16 kV16 dc16 pm16 cd16 ct16 : Value}
    {f17 : Addr} {od17 an17 : Option Addr} {sl17 : Array (Option Value)} {oc17 kV17 dc17 pm17 cd17 ct17 : Value}
    {f18 : Addr} {od18 an18 : Option Addr} {sl18 : Array (Option Value)} {oc18 kV18 dc18 pm18 cd18 ct18 : Value}
    {f19 : Addr} {od19 an19 : Option Addr} {sl19 : Array (Option Value)} {oc19 kV19 dc19 pm19 cd19 ct19 : Value}
    {f20 : Addr} {od20 an20 : Option Addr} {sl20 : Array (Option Value)} {oc20 kV20 dc20 pm20 cd20 ct20 : Value}
    {f21 : Addr} {od21 an21 : Option Addr} {sl21 : Array (Option Value)} {oc21 kV21 dc21 pm21 cd21 ct21 : Value}
    {f22 : Addr} {od22 an22 : Option Addr} {sl22 : Array (Option Value)} {oc22 kV22 dc22 pm22 cd22 ct22 : Value}
    {f23 : Addr} {od23 an23 : Option Addr} {sl23 : Array (Option Value)} {oc23 kV23 dc23 pm23 cd23 ct23 : Value}
    {f24 : Addr} {od24 an24 : Option Addr} {sl24 : Array (Option Value)} {oc24 kV24 dc24 pm24 cd24 ct24 : Value}
    {f25 : Addr} {od25 an25 : Option Addr} {sl25 : Array (Option Value)} {oc25 kV25 dc25 pm25 cd25 ct25 : Value}
    {f26 : Addr} {od26 an26 : Option Addr} {sl26 : Array (Option Value)} {oc26 kV26 dc26 pm26 cd26 ct26 : Value}
    {f27 : Addr} {od27 an27 : Option Addr} {sl27 : Array (Option Value)} {oc27 kV27 dc27 pm27 cd27 ct27 : Value}
    {f28 : Addr} {od28 an28 : Option Addr} {sl28 : Array (Option Value)} {oc28 kV28 dc28 pm28 cd28 ct28 : Value}
    {f29 : Addr} {od29 an29 : Option Addr} {sl29 : Array (Option Value)} {oc29 kV29 dc29 pm29 cd29 ct29 : Value}
    {f30 : Addr} {od30 an30 : Option Addr} {sl30 : Array (Option Value)} {oc30 kV30 dc30 pm30 cd30 ct30 : Value}
    {f31 : Addr} {od31 an31 : Option Addr} {sl31 : Array (Option Value)} {oc31 kV31 dc31 pm31 cd31 ct31 : Value}
    {f32 : Addr} {od32 an32 : Option Addr} {sl32 : Array (Option Value)} {oc32 kV32 dc32 pm32 cd32 ct32 : Value}
    {f33 : Addr} {od33 an33 : Option Addr} {sl33 : Array (Option Value)} {oc33 kV33 dc33 pm33 cd33 ct33 : Value}
    {f34 : Addr} {od34 an34 : Option Addr} {sl34 : Array (Option Value)} {oc34 kV34 dc34 pm34 cd34 ct34 : Value}
    {f35 : Addr} {od35 an35 : Option Addr} {sl35 : Array (Option Value)} {oc35 kV35 dc35 pm35 cd35 ct35 : Value}
    {f36 : Addr} {od36 an36 : Option Addr} {sl36 : Array (Option Value)} {oc36 kV36 dc36 pm36 cd36 ct36 : Value}
    {f37 : Addr} {od37 an37 : Option Addr} {sl37 : Array (Option Value)} {oc37 kV37 dc37 pm37 cd37 ct37 : Value}
    {f38 : Addr} {od38 an38 : Option Addr} {sl38 : Array (Option Value)} {oc38 kV38 dc38 pm38 cd38 ct38 : Value}
    {f39 : Addr} {od39 an39 : Option Addr} {sl39 : Array (Option Value)} {oc39 kV39 dc39 pm39 cd39 ct39 : Value}
    {f40 : Addr} {od40 an40 : Option Addr} {sl40 : Array (Option Value)} {oc40 kV40 dc40 pm40 cd40 ct40 : Value}
    {f41 : Addr} {od41 an41 : Option Addr} {sl41 : Array (Option Value)} {oc41 kV41 dc41 pm41 cd41 ct41 : Value}
    {t_MOST_PERSONS : Tok}
    {t_MOST_COUNT : Tok}
    {t_WEB_WORD : Tok}
    (a0 : PySem.W.nsIn K mainGlobals "is_integer" = some (some (.ref f0))) (l0 : K.lookup f0 = some ⟨oc0, od0, .func (PySem.W.fnOf "is_integer" "is_integer" (defArgs s_is_integer) (defBody s_is_integer) (defScope s_is_integer) .none kV0 dc0 pm0 an0 cd0 ct0), sl0⟩) (c0 : PySem.W.codeIn K cd0 "is_integer" = true) (k0 : PySem.W.keepIn K (.ref f0) = true)
    (a1 : PySem.W.nsIn K mainGlobals "is_within" = some (some (.ref f1))) (l1 : K.lookup f1 = some ⟨oc1, od1, .func (PySem.W.fnOf "is_within" "is_within" (defArgs s_is_within) (defBody s_is_within) (defScope s_is_within) .none kV1 dc1 pm1 an1 cd1 ct1), sl1⟩) (c1 : PySem.W.codeIn K cd1 "is_within" = true) (k1 : PySem.W.keepIn K (.ref f1) = true)
    (a2 : PySem.W.nsIn K mainGlobals "is_list_value" = some (some (.ref f2))) (l2 : K.lookup f2 = some ⟨oc2, od2, .func (PySem.W.fnOf "is_list_value" "is_list_value" (defArgs s_is_list_value) (defBody s_is_list_value) (defScope s_is_list_value) .none kV2 dc2 pm2 an2 cd2 ct2), sl2⟩) (c2 : PySem.W.codeIn K cd2 "is_list_value" = true) (k2 : PySem.W.keepIn K (.ref f2) = true)
    (a3 : PySem.W.nsIn K mainGlobals "want_list" = some (some (.ref f3))) (l3 : K.lookup f3 = some ⟨oc3, od3, .func (PySem.W.fnOf "want_list" "want_list" (defArgs s_want_list) (defBody s_want_list) (defScope s_want_list) .none kV3 dc3 pm3 an3 cd3 ct3), sl3⟩) (c3 : PySem.W.codeIn K cd3 "want_list" = true) (k3 : PySem.W.keepIn K (.ref f3) = true)
    (a4 : PySem.W.nsIn K mainGlobals "want_alike" = some (some (.ref f4))) (l4 : K.lookup f4 = some ⟨oc4, od4, .func (PySem.W.fnOf "want_alike" "want_alike" (defArgs s_want_alike) (defBody s_want_alike) (defScope s_want_alike) .none kV4 dc4 pm4 an4 cd4 ct4), sl4⟩) (c4 : PySem.W.codeIn K cd4 "want_alike" = true) (k4 : PySem.W.keepIn K (.ref f4) = true)
    (a5 : PySem.W.nsIn K mainGlobals "down" = some (some (.ref f5))) (l5 : K.lookup f5 = some ⟨oc5, od5, .func (PySem.W.fnOf "down" "down" (defArgs s_down) (defBody s_down) (defScope s_down) .none kV5 dc5 pm5 an5 cd5 ct5), sl5⟩) (c5 : PySem.W.codeIn K cd5 "down" = true) (k5 : PySem.W.keepIn K (.ref f5) = true)
    (a6 : PySem.W.nsIn K mainGlobals "heads" = some (some (.ref f6))) (l6 : K.lookup f6 = some ⟨oc6, od6, .func (PySem.W.fnOf "heads" "heads" (defArgs s_heads) (defBody s_heads) (defScope s_heads) .none kV6 dc6 pm6 an6 cd6 ct6), sl6⟩) (c6 : PySem.W.codeIn K cd6 "heads" = true) (k6 : PySem.W.keepIn K (.ref f6) = true)
    (a7 : PySem.W.nsIn K mainGlobals "are_below" = some (some (.ref f7))) (l7 : K.lookup f7 = some ⟨oc7, od7, .func (PySem.W.fnOf "are_below" "are_below" (defArgs s_are_below) (defBody s_are_below) (defScope s_are_below) .none kV7 dc7 pm7 an7 cd7 ct7), sl7⟩) (c7 : PySem.W.codeIn K cd7 "are_below" = true) (k7 : PySem.W.keepIn K (.ref f7) = true)
    (a8 : PySem.W.nsIn K mainGlobals "by_heads" = some (some (.ref f8))) (l8 : K.lookup f8 = some ⟨oc8, od8, .func (PySem.W.fnOf "by_heads" "by_heads" (defArgs s_by_heads) (defBody s_by_heads) (defScope s_by_heads) .none kV8 dc8 pm8 an8 cd8 ct8), sl8⟩) (c8 : PySem.W.codeIn K cd8 "by_heads" = true) (k8 : PySem.W.keepIn K (.ref f8) = true)
    (a9 : PySem.W.nsIn K mainGlobals "sorted_down" = some (some (.ref f9))) (l9 : K.lookup f9 = some ⟨oc9, od9, .func (PySem.W.fnOf "sorted_down" "sorted_down" (defArgs s_sorted_down) (defBody s_sorted_down) (defScope s_sorted_down) .none kV9 dc9 pm9 an9 cd9 ct9), sl9⟩) (c9 : PySem.W.codeIn K cd9 "sorted_down" = true) (k9 : PySem.W.keepIn K (.ref f9) = true)
    (a10 : PySem.W.nsIn K mainGlobals "is_more_even" = some (some (.ref f10))) (l10 : K.lookup f10 = some ⟨oc10, od10, .func (PySem.W.fnOf "is_more_even" "is_more_even" (defArgs s_is_more_even) (defBody s_is_more_even) (defScope s_is_more_even) .none kV10 dc10 pm10 an10 cd10 ct10), sl10⟩) (c10 : PySem.W.codeIn K cd10 "is_more_even" = true) (k10 : PySem.W.keepIn K (.ref f10) = true)
    (a11 : PySem.W.nsIn K mainGlobals "even_below" = some (some (.ref f11))) (l11 : K.lookup f11 = some ⟨oc11, od11, .func (PySem.W.fnOf "even_below" "even_below" (defArgs s_even_below) (defBody s_even_below) (defScope s_even_below) .none kV11 dc11 pm11 an11 cd11 ct11), sl11⟩) (c11 : PySem.W.codeIn K cd11 "even_below" = true) (k11 : PySem.W.keepIn K (.ref f11) = true)
    (a12 : PySem.W.nsIn K mainGlobals "is_list" = some (some (.ref f12))) (l12 : K.lookup f12 = some ⟨oc12, od12, .func (PySem.W.fnOf "is_list" "is_list" (defArgs s_is_list) (defBody s_is_list) (defScope s_is_list) .none kV12 dc12 pm12 an12 cd12 ct12), sl12⟩) (c12 : PySem.W.codeIn K cd12 "is_list" = true) (k12 : PySem.W.keepIn K (.ref f12) = true)
    (a13 : PySem.W.nsIn K mainGlobals "moved" = some (some (.ref f13))) (l13 : K.lookup f13 = some ⟨oc13, od13, .func (PySem.W.fnOf "moved" "moved" (defArgs s_moved) (defBody s_moved) (defScope s_moved) .none kV13 dc13 pm13 an13 cd13 ct13), sl13⟩) (c13 : PySem.W.codeIn K cd13 "moved" = true) (k13 : PySem.W.keepIn K (.ref f13) = true)
    (a14 : PySem.W.nsIn K mainGlobals "is_transfer" = some (some (.ref f14))) (l14 : K.lookup f14 = some ⟨oc14, od14, .func (PySem.W.fnOf "is_transfer" "is_transfer" (defArgs s_is_transfer) (defBody s_is_transfer) (defScope s_is_transfer) .none kV14 dc14 pm14 an14 cd14 ct14), sl14⟩) (c14 : PySem.W.codeIn K cd14 "is_transfer" = true) (k14 : PySem.W.keepIn K (.ref f14) = true)
    (a15 : PySem.W.nsIn K mainGlobals "transferred" = some (some (.ref f15))) (l15 : K.lookup f15 = some ⟨oc15, od15, .func (PySem.W.fnOf "transferred" "transferred" (defArgs s_transferred) (defBody s_transferred) (defScope s_transferred) .none kV15 dc15 pm15 an15 cd15 ct15), sl15⟩) (c15 : PySem.W.codeIn K cd15 "transferred" = true) (k15 : PySem.W.keepIn K (.ref f15) = true)
    (a16 : PySem.W.nsIn K mainGlobals "pair_of" = some (some (.ref f16))) (l16 : K.lookup f16 = some ⟨oc16, od16, .func (PySem.W.fnOf "pair_of" "pair_of" (defArgs s_pair_of) (defBody s_pair_of) (defScope s_pair_of) .none kV16 dc16 pm16 an16 cd16 ct16), sl16⟩) (c16 : PySem.W.codeIn K cd16 "pair_of" = true) (k16 : PySem.W.keepIn K (.ref f16) = true)
    (a17 : PySem.W.nsIn K mainGlobals "room_of" = some (some (.ref f17))) (l17 : K.lookup f17 = some ⟨oc17, od17, .func (PySem.W.fnOf "room_of" "room_of" (defArgs s_room_of) (defBody s_room_of) (defScope s_room_of) .none kV17 dc17 pm17 an17 cd17 ct17), sl17⟩) (c17 : PySem.W.codeIn K cd17 "room_of" = true) (k17 : PySem.W.keepIn K (.ref f17) = true)
    (a18 : PySem.W.nsIn K mainGlobals "rooms_of" = some (some (.ref f18))) (l18 : K.lookup f18 = some ⟨oc18, od18, .func (PySem.W.fnOf "rooms_of" "rooms_of" (defArgs s_rooms_of) (defBody s_rooms_of) (defScope s_rooms_of) .none kV18 dc18 pm18 an18 cd18 ct18), sl18⟩) (c18 : PySem.W.codeIn K cd18 "rooms_of" = true) (k18 : PySem.W.keepIn K (.ref f18) = true)
    (a19 : PySem.W.nsIn K mainGlobals "bars_of" = some (some (.ref f19))) (l19 : K.lookup f19 = some ⟨oc19, od19, .func (PySem.W.fnOf "bars_of" "bars_of" (defArgs s_bars_of) (defBody s_bars_of) (defScope s_bars_of) .none kV19 dc19 pm19 an19 cd19 ct19), sl19⟩) (c19 : PySem.W.codeIn K cd19 "bars_of" = true) (k19 : PySem.W.keepIn K (.ref f19) = true)
    (a20 : PySem.W.nsIn K mainGlobals "can_be" = some (some (.ref f20))) (l20 : K.lookup f20 = some ⟨oc20, od20, .func (PySem.W.fnOf "can_be" "can_be" (defArgs s_can_be) (defBody s_can_be) (defScope s_can_be) .none kV20 dc20 pm20 an20 cd20 ct20), sl20⟩) (c20 : PySem.W.codeIn K cd20 "can_be" = true) (k20 : PySem.W.keepIn K (.ref f20) = true)
    (a21 : PySem.W.nsIn K mainGlobals "rooms" = some (some (.ref f21))) (l21 : K.lookup f21 = some ⟨oc21, od21, .func (PySem.W.fnOf "rooms" "rooms" (defArgs s_rooms) (defBody s_rooms) (defScope s_rooms) .none kV21 dc21 pm21 an21 cd21 ct21), sl21⟩) (c21 : PySem.W.codeIn K cd21 "rooms" = true) (k21 : PySem.W.keepIn K (.ref f21) = true)
    (a22 : PySem.W.nsIn K mainGlobals "bars" = some (some (.ref f22))) (l22 : K.lookup f22 = some ⟨oc22, od22, .func (PySem.W.fnOf "bars" "bars" (defArgs s_bars) (defBody s_bars) (defScope s_bars) .none kV22 dc22 pm22 an22 cd22 ct22), sl22⟩) (c22 : PySem.W.codeIn K cd22 "bars" = true) (k22 : PySem.W.keepIn K (.ref f22) = true)
    (a23 : PySem.W.nsIn K mainGlobals "is_possible" = some (some (.ref f23))) (l23 : K.lookup f23 = some ⟨oc23, od23, .func (PySem.W.fnOf "is_possible" "is_possible" (defArgs s_is_possible) (defBody s_is_possible) (defScope s_is_possible) .none kV23 dc23 pm23 an23 cd23 ct23), sl23⟩) (c23 : PySem.W.codeIn K cd23 "is_possible" = true) (k23 : PySem.W.keepIn K (.ref f23) = true)
    (a24 : PySem.W.nsIn K mainGlobals "greatest_others" = some (some (.ref f24))) (l24 : K.lookup f24 = some ⟨oc24, od24, .func (PySem.W.fnOf "greatest_others" "greatest_others" (defArgs s_greatest_others) (defBody s_greatest_others) (defScope s_greatest_others) .none kV24 dc24 pm24 an24 cd24 ct24), sl24⟩) (c24 : PySem.W.codeIn K cd24 "greatest_others" = true) (k24 : PySem.W.keepIn K (.ref f24) = true)
    (a25 : PySem.W.nsIn K mainGlobals "less" = some (some (.ref f25))) (l25 : K.lookup f25 = some ⟨oc25, od25, .func (PySem.W.fnOf "less" "less" (defArgs s_less) (defBody s_less) (defScope s_less) .none kV25 dc25 pm25 an25 cd25 ct25), sl25⟩) (c25 : PySem.W.codeIn K cd25 "less" = true) (k25 : PySem.W.keepIn K (.ref f25) = true)
    (a26 : PySem.W.nsIn K mainGlobals "told_rows" = some (some (.ref f26))) (l26 : K.lookup f26 = some ⟨oc26, od26, .func (PySem.W.fnOf "told_rows" "told_rows" (defArgs s_told_rows) (defBody s_told_rows) (defScope s_told_rows) .none kV26 dc26 pm26 an26 cd26 ct26), sl26⟩) (c26 : PySem.W.codeIn K cd26 "told_rows" = true) (k26 : PySem.W.keepIn K (.ref f26) = true)
    (a27 : PySem.W.nsIn K mainGlobals "web_by" = some (some (.ref f27))) (l27 : K.lookup f27 = some ⟨oc27, od27, .func (PySem.W.fnOf "web_by" "web_by" (defArgs s_web_by) (defBody s_web_by) (defScope s_web_by) .none kV27 dc27 pm27 an27 cd27 ct27), sl27⟩) (c27 : PySem.W.codeIn K cd27 "web_by" = true) (k27 : PySem.W.keepIn K (.ref f27) = true)
    (a28 : PySem.W.nsIn K mainGlobals "told_web" = some (some (.ref f28))) (l28 : K.lookup f28 = some ⟨oc28, od28, .func (PySem.W.fnOf "told_web" "told_web" (defArgs s_told_web) (defBody s_told_web) (defScope s_told_web) .none kV28 dc28 pm28 an28 cd28 ct28), sl28⟩) (c28 : PySem.W.codeIn K cd28 "told_web" = true) (k28 : PySem.W.keepIn K (.ref f28) = true)
    (a29 : PySem.W.nsIn K mainGlobals "web_of" = some (some (.ref f29))) (l29 : K.lookup f29 = some ⟨oc29, od29, .func (PySem.W.fnOf "web_of" "web_of" (defArgs s_web_of) (defBody s_web_of) (defScope s_web_of) .none kV29 dc29 pm29 an29 cd29 ct29), sl29⟩) (c29 : PySem.W.codeIn K cd29 "web_of" = true) (k29 : PySem.W.keepIn K (.ref f29) = true)
    (a30 : PySem.W.nsIn K mainGlobals "_law_draw" = some (some (.ref f30))) (l30 : K.lookup f30 = some ⟨oc30, od30, .func (PySem.W.fnOf "_law_draw" "_law_draw" (defArgs s__law_draw) (defBody s__law_draw) (defScope s__law_draw) .none kV30 dc30 pm30 an30 cd30 ct30), sl30⟩) (c30 : PySem.W.codeIn K cd30 "_law_draw" = true) (k30 : PySem.W.keepIn K (.ref f30) = true)
    (a31 : PySem.W.nsIn K mainGlobals "_law_pot" = some (some (.ref f31))) (l31 : K.lookup f31 = some ⟨oc31, od31, .func (PySem.W.fnOf "_law_pot" "_law_pot" (defArgs s__law_pot) (defBody s__law_pot) (defScope s__law_pot) .none kV31 dc31 pm31 an31 cd31 ct31), sl31⟩) (c31 : PySem.W.codeIn K cd31 "_law_pot" = true) (k31 : PySem.W.keepIn K (.ref f31) = true)
    (a32 : PySem.W.nsIn K mainGlobals "_law_pick" = some (some (.ref f32))) (l32 : K.lookup f32 = some ⟨oc32, od32, .func (PySem.W.fnOf "_law_pick" "_law_pick" (defArgs s__law_pick) (defBody s__law_pick) (defScope s__law_pick) .none kV32 dc32 pm32 an32 cd32 ct32), sl32⟩) (c32 : PySem.W.codeIn K cd32 "_law_pick" = true) (k32 : PySem.W.keepIn K (.ref f32) = true)
    (a33 : PySem.W.nsIn K mainGlobals "_law_mixed" = some (some (.ref f33))) (l33 : K.lookup f33 = some ⟨oc33, od33, .func (PySem.W.fnOf "_law_mixed" "_law_mixed" (defArgs s__law_mixed) (defBody s__law_mixed) (defScope s__law_mixed) .none kV33 dc33 pm33 an33 cd33 ct33), sl33⟩) (c33 : PySem.W.codeIn K cd33 "_law_mixed" = true) (k33 : PySem.W.keepIn K (.ref f33) = true)
    (a34 : PySem.W.nsIn K mainGlobals "_law_pairs" = some (some (.ref f34))) (l34 : K.lookup f34 = some ⟨oc34, od34, .func (PySem.W.fnOf "_law_pairs" "_law_pairs" (defArgs s__law_pairs) (defBody s__law_pairs) (defScope s__law_pairs) .none kV34 dc34 pm34 an34 cd34 ct34), sl34⟩) (c34 : PySem.W.codeIn K cd34 "_law_pairs" = true) (k34 : PySem.W.keepIn K (.ref f34) = true)
    (a35 : PySem.W.nsIn K mainGlobals "_law_counts" = some (some (.ref f35))) (l35 : K.lookup f35 = some ⟨oc35, od35, .func (PySem.W.fnOf "_law_counts" "_law_counts" (defArgs s__law_counts) (defBody s__law_counts) (defScope s__law_counts) .none kV35 dc35 pm35 an35 cd35 ct35), sl35⟩) (c35 : PySem.W.codeIn K cd35 "_law_counts" = true) (k35 : PySem.W.keepIn K (.ref f35) = true)
    (a36 : PySem.W.nsIn K mainGlobals "_law_web" = some (some (.ref f36))) (l36 : K.lookup f36 = some ⟨oc36, od36, .func (PySem.W.fnOf "_law_web" "_law_web" (defArgs s__law_web) (defBody s__law_web) (defScope s__law_web) .none kV36 dc36 pm36 an36 cd36 ct36), sl36⟩) (c36 : PySem.W.codeIn K cd36 "_law_web" = true) (k36 : PySem.W.keepIn K (.ref f36) = true)
    (a37 : PySem.W.nsIn K mainGlobals "_law_transfers" = some (some (.ref f37))) (l37 : K.lookup f37 = some ⟨oc37, od37, .func (PySem.W.fnOf "_law_transfers" "_law_transfers" (defArgs s__law_transfers) (defBody s__law_transfers) (defScope s__law_transfers) .none kV37 dc37 pm37 an37 cd37 ct37), sl37⟩) (c37 : PySem.W.codeIn K cd37 "_law_transfers" = true) (k37 : PySem.W.keepIn K (.ref f37) = true)
    (a38 : PySem.W.nsIn K mainGlobals "_law_flat" = some (some (.ref f38))) (l38 : K.lookup f38 = some ⟨oc38, od38, .func (PySem.W.fnOf "_law_flat" "_law_flat" (defArgs s__law_flat) (defBody s__law_flat) (defScope s__law_flat) .none kV38 dc38 pm38 an38 cd38 ct38), sl38⟩) (c38 : PySem.W.codeIn K cd38 "_law_flat" = true) (k38 : PySem.W.keepIn K (.ref f38) = true)
    (a39 : PySem.W.nsIn K mainGlobals "_law_chain_right" = some (some (.ref f39))) (l39 : K.lookup f39 = some ⟨oc39, od39, .func (PySem.W.fnOf "_law_chain_right" "_law_chain_right" (defArgs s__law_chain_right) (defBody s__law_chain_right) (defScope s__law_chain_right) .none kV39 dc39 pm39 an39 cd39 ct39), sl39⟩) (c39 : PySem.W.codeIn K cd39 "_law_chain_right" = true) (k39 : PySem.W.keepIn K (.ref f39) = true)
    (a40 : PySem.W.nsIn K mainGlobals "_law_right" = some (some (.ref f40))) (l40 : K.lookup f40 = some ⟨oc40, od40, .func (PySem.W.fnOf "_law_right" "_law_right" (defArgs s__law_right) (defBody s__law_right) (defScope s__law_right) .none kV40 dc40 pm40 an40 cd40 ct40), sl40⟩) (c40 : PySem.W.codeIn K cd40 "_law_right" = true) (k40 : PySem.W.keepIn K (.ref f40) = true)
    (a41 : PySem.W.nsIn K mainGlobals "law" = some (some (.ref f41))) (l41 : K.lookup f41 = some ⟨oc41, od41, .func (PySem.W.fnOf "law" "law" (defArgs s_law) (defBody s_law) (defScope s_law) .none kV41 dc41 pm41 an41 cd41 ct41), sl41⟩) (c41 : PySem.W.codeIn K cd41 "law" = true) (k41 : PySem.W.keepIn K (.ref f41) = true)
    (q_MOST_PERSONS : PySem.W.nsIn K mainGlobals "MOST_PERSONS" = some (some (.int 10 t_MOST_PERSONS)))
    (q_MOST_COUNT : PySem.W.nsIn K mainGlobals "MOST_COUNT" = some (some (.int 40 t_MOST_COUNT)))
    (q_WEB_WORD : PySem.W.nsIn K mainGlobals "WEB_WORD" = some (some (.str "web" t_WEB_WORD)))
    (z_len : PySem.W.nsIn K mainGlobals "len" = some none)
    (z_tuple : PySem.W.nsIn K mainGlobals "tuple" = some none)
    (z_list : PySem.W.nsIn K mainGlobals "list" = some none)
    (z_range : PySem.W.nsIn K mainGlobals "range" = some none)
    (z_max : PySem.W.nsIn K mainGlobals "max" = some none)
    (z_min : PySem.W.nsIn K mainGlobals "min" = some none)
    (z_sum : PySem.W.nsIn K mainGlobals "sum" = some none)
    (z_all : PySem.W.nsIn K mainGlobals "all" = some none)
    (z_any : PySem.W.nsIn K mainGlobals "any" = some none)
    (z_sorted : PySem.W.nsIn K mainGlobals "sorted" = some none)
    (z_int : PySem.W.nsIn K mainGlobals "int" = some none)
    (z_bool : PySem.W.nsIn K mainGlobals "bool" = some none)
    (z_str : PySem.W.nsIn K mainGlobals "str" = some none)
    (z_abs : PySem.W.nsIn K mainGlobals "abs" = some none)
    (z_divmod : PySem.W.nsIn K mainGlobals "divmod" = some none)
    (z_isinstance : PySem.W.nsIn K mainGlobals "isinstance" = some none)
    (z_zip : PySem.W.nsIn K mainGlobals "zip" = some none)
    (z_enumerate : PySem.W.nsIn K mainGlobals "enumerate" = some none)
    (z_repr : PySem.W.nsIn K mainGlobals "repr" = some none)
    (z_set : PySem.W.nsIn K mainGlobals "set" = some none)
    : ∃ fd : FuncData, (∀ (s : Shared) (v : Value), BindsTo s fd ⟨[v], []⟩ [("script", v)]) ∧ ∀ base : Heap, K.In base → base.Ns mainGlobals mg → FnG l.prog w K mg base 9 fa fd ["script"] (sp_law K) := by
  have e := hfa.symm.trans (PySem.W.mg_of X G a41)
  cases e
  have Bl : Blt mg := ⟨PySem.W.mg_none_of X G z_len, PySem.W.mg_none_of X G z_tuple, PySem.W.mg_none_of X G z_list, PySem.W.mg_none_of X G z_range, PySem.W.mg_none_of X G z_max, PySem.W.mg_none_of X G z_min, PySem.W.mg_none_of X G z_sum, PySem.W.mg_none_of X G z_all, PySem.W.mg_none_of X G z_any, PySem.W.mg_none_of X G z_sorted, PySem.W.mg_none_of X G z_int, PySem.W.mg_none_of X G z_bool, PySem.W.mg_none_of X G z_str, PySem.W.mg_none_of X G z_abs, PySem.W.mg_none_of X G z_divmod, PySem.W.mg_none_of X G z_isinstance, PySem.W.mg_none_of X G z_zip, PySem.W.mg_none_of X G z_enumerate, PySem.W.mg_none_of X G z_repr, PySem.W.mg_none_of X G z_set⟩
  refine ⟨PySem.W.fnOf "law" "law" (defArgs s_law) (defBody s_law) (defScope s_law) .none kV41 dc41 pm41 an41 cd41 ct41, fun s v => .of_eq rfl, fun base _ _ => ?_⟩
  have F0 := fun_mk (st := s_is_integer) l0 c0 k0
  have b0 := F0.binds (ps := ["value"]) fun _ _ _ _ _ _ us hl => match us, hl with | [_], _ => rfl
  have O0 := ok_is_integer (P := l.prog) (w := w) (K := K) (mg := mg) (base := base) F0 Bl
  have C_is_integer : HM.Cl l.prog w K mg base 1 "is_integer" (sp_is_integer K) := ⟨f0, _, _, O0, PySem.W.mg_of X G a0, k0, b0⟩
  have F1 := fun_mk (st := s_is_within) l1 c1 k1
  have b1 := F1.binds (ps := ["value", "least", "most"]) fun _ _ _ _ _ _ us hl => match us, hl with | [_, _, _], _ => rfl
  have O1 := ok_is_within (P := l.prog) (w := w) (K := K) (mg := mg) (base := base) F1 Bl C_is_integer
  have C_is_within : HM.Cl l.prog w K mg base 2 "is_within" (sp_is_within K) := ⟨f1, _, _, O1, PySem.W.mg_of X G a1, k1, b1⟩
  have F2 := fun_mk (st := s_is_list_value) l2 c2 k2
  have b2 := F2.binds (ps := ["value"]) fun _ _ _ _ _ _ us hl => match us, hl with | [_], _ => rfl
  have O2 := ok_is_list_value (P := l.prog) (w := w) (K := K) (mg := mg) (base := base) F2 Bl ⟨_, PySem.W.mg_of X G q_MOST_PERSONS, _, rfl⟩ ⟨_, PySem.W.mg_of X G q_MOST_COUNT, _, rfl⟩ C_is_within
  have C_is_list_value : HM.Cl l.prog w K mg base 3 "is_list_value" (sp_is_list_value K) := ⟨f2, _, _, O2, PySem.W.mg_of X G a2, k2, b2⟩
  have F3 := fun_mk (st := s_want_list) l3 c3 k3
  have b3 := F3.binds (ps := ["counts"]) fun _ _ _ _ _ _ us hl => match us, hl with | [_], _ => rfl
  have O3 := ok_want_list (P := l.prog) (w := w) (K := K) (mg := mg) (base := base) F3 Bl C_is_list_value
  have C_want_list : HM.Cl l.prog w K mg base 4 "want_list" (sp_want_list K) := ⟨f3, _, _, O3, PySem.W.mg_of X G a3, k3, b3⟩
  have F4 := fun_mk (st := s_want_alike) l4 c4 k4
  have b4 := F4.binds (ps := ["counts", "others"]) fun _ _ _ _ _ _ us hl => match us, hl with | [_, _], _ => rfl
  have O4 := ok_want_alike (P := l.prog) (w := w) (K := K) (mg := mg) (base := base) F4 Bl C_want_list
  have C_want_alike : HM.Cl l.prog w K mg base 5 "want_alike" (sp_want_alike K) := ⟨f4, _, _, O4, PySem.W.mg_of X G a4, k4, b4⟩
  have F5 := fun_mk (st := s_down) l5 c5 k5
  have b5 := F5.binds (ps := ["counts"]) fun _ _ _ _ _ _ us hl => match us, hl with | [_], _ => rfl
  have O5 := ok_down (P := l.prog) (w := w) (K := K) (mg := mg) (base := base) F5 Bl
  have C_down : HM.Cl l.prog w K mg base 1 "down" (sp_down K) := ⟨f5, _, _, O5, PySem.W.mg_of X G a5, k5, b5⟩
  have F6 := fun_mk (st := s_heads) l6 c6 k6
  have b6 := F6.binds (ps := ["counts"]) fun _ _ _ _ _ _ us hl => match us, hl with | [_], _ => rfl
  have O6 := ok_heads (P := l.prog) (w := w) (K := K) (mg := mg) (base := base) F6 Bl C_down
  have C_heads : HM.Cl l.prog w K mg base 2 "heads" (sp_heads K) := ⟨f6, _, _, O6, PySem.W.mg_of X G a6, k6, b6⟩
  have F7 := fun_mk (st := s_are_below) l7 c7 k7
  have b7 := F7.binds (ps := ["near", "far"]) fun _ _ _ _ _ _ us hl => match us, hl with | [_, _], _ => rfl
  have O7 := ok_are_below (P := l.prog) (w := w) (K := K) (mg := mg) (base := base) F7 Bl
  have C_are_below : HM.Cl l.prog w K mg base 1 "are_below" (sp_are_below K) := ⟨f7, _, _, O7, PySem.W.mg_of X G a7, k7, b7⟩
  have F8 := fun_mk (st := s_by_heads) l8 c8 k8
  have b8 := F8.binds (ps := ["totals"]) fun _ _ _ _ _ _ us hl => match us, hl with | [_], _ => rfl
  have O8 := ok_by_heads (P := l.prog) (w := w) (K := K) (mg := mg) (base := base) F8 Bl
  have C_by_heads : HM.Cl l.prog w K mg base 1 "by_heads" (sp_by_heads K) := ⟨f8, _, _, O8, PySem.W.mg_of X G a8, k8, b8⟩
  have F9 := fun_mk (st := s_sorted_down) l9 c9 k9
  have b9 := F9.binds (ps := ["counts"]) fun _ _ _ _ _ _ us hl => match us, hl with | [_], _ => rfl
  have O9 := ok_sorted_down (P := l.prog) (w := w) (K := K) (mg := mg) (base := base) F9 Bl C_want_list C_down
  have C_sorted_down : HM.Cl l.prog w K mg base 5 "sorted_down" (sp_sorted_down K) := ⟨f9, _, _, O9, PySem.W.mg_of X G a9, k9, b9⟩
  have F10 := fun_mk (st := s_is_more_even) l10 c10 k10
  have b10 := F10.binds (ps := ["counts", "others"]) fun _ _ _ _ _ _ us hl => match us, hl with | [_, _], _ => rfl
  have O10 := ok_is_more_even (P := l.prog) (w := w) (K := K) (mg := mg) (base := base) F10 Bl C_want_alike C_heads C_are_below
  have C_is_more_even : HM.Cl l.prog w K mg base 6 "is_more_even" (sp_is_more_even K) := ⟨f10, _, _, O10, PySem.W.mg_of X G a10, k10, b10⟩
  have F11 := fun_mk (st := s_even_below) l11 c11 k11
  have b11 := F11.binds (ps := ["counts", "others"]) fun _ _ _ _ _ _ us hl => match us, hl with | [_, _], _ => rfl
  have O11 := ok_even_below (P := l.prog) (w := w) (K := K) (mg := mg) (base := base) F11 Bl C_want_alike C_heads C_by_heads
  have C_even_below : HM.Cl l.prog w K mg base 6 "even_below" (sp_even_below K) := ⟨f11, _, _, O11, PySem.W.mg_of X G a11, k11, b11⟩
  have F12 := fun_mk (st := s_is_list) l12 c12 k12
  have b12 := F12.binds (ps := ["value"]) fun _ _ _ _ _ _ us hl => match us, hl with | [_], _ => rfl
  have O12 := ok_is_list (P := l.prog) (w := w) (K := K) (mg := mg) (base := base) F12 Bl
  have C_is_list : HM.Cl l.prog w K mg base 1 "is_list" (sp_is_list K) := ⟨f12, _, _, O12, PySem.W.mg_of X G a12, k12, b12⟩
  have F13 := fun_mk (st := s_moved) l13 c13 k13
  have b13 := F13.binds (ps := ["counts", "giver", "taker"]) fun _ _ _ _ _ _ us hl => match us, hl with | [_, _, _], _ => rfl
  have O13 := ok_moved (P := l.prog) (w := w) (K := K) (mg := mg) (base := base) F13 Bl
  have C_moved : HM.Cl l.prog w K mg base 1 "moved" (sp_moved K) := ⟨f13, _, _, O13, PySem.W.mg_of X G a13, k13, b13⟩
  have F14 := fun_mk (st := s_is_transfer) l14 c14 k14
  have b14 := F14.binds (ps := ["counts", "value"]) fun _ _ _ _ _ _ us hl => match us, hl with | [_, _], _ => rfl
  have O14 := ok_is_transfer (P := l.prog) (w := w) (K := K) (mg := mg) (base := base) F14 Bl C_is_within
  have C_is_transfer : HM.Cl l.prog w K mg base 3 "is_transfer" (sp_is_transfer K) := ⟨f14, _, _, O14, PySem.W.mg_of X G a14, k14, b14⟩
  have F15 := fun_mk (st := s_transferred) l15 c15 k15
  have b15 := F15.binds (ps := ["counts", "rows"]) fun _ _ _ _ _ _ us hl => match us, hl with | [_, _], _ => rfl
  have O15 := ok_transferred (P := l.prog) (w := w) (K := K) (mg := mg) (base := base) F15 Bl C_want_list C_down C_is_list C_is_transfer C_moved
  have C_transferred : HM.Cl l.prog w K mg base 5 "transferred" (sp_transferred K) := ⟨f15, _, _, O15, PySem.W.mg_of X G a15, k15, b15⟩
  have F16 := fun_mk (st := s_pair_of) l16 c16 k16
  have b16 := F16.binds (ps := ["one", "other"]) fun _ _ _ _ _ _ us hl => match us, hl with | [_, _], _ => rfl
  have O16 := ok_pair_of (P := l.prog) (w := w) (K := K) (mg := mg) (base := base) F16 Bl
  have C_pair_of : HM.Cl l.prog w K mg base 1 "pair_of" (sp_pair_of K) := ⟨f16, _, _, O16, PySem.W.mg_of X G a16, k16, b16⟩
  have F17 := fun_mk (st := s_room_of) l17 c17 k17
  have b17 := F17.binds (ps := ["counts", "many"]) fun _ _ _ _ _ _ us hl => match us, hl with | [_, _], _ => rfl
  have O17 := ok_room_of (P := l.prog) (w := w) (K := K) (mg := mg) (base := base) F17 Bl C_down
  have C_room_of : HM.Cl l.prog w K mg base 2 "room_of" (sp_room_of K) := ⟨f17, _, _, O17, PySem.W.mg_of X G a17, k17, b17⟩
  have F18 := fun_mk (st := s_rooms_of) l18 c18 k18
  have b18 := F18.binds (ps := ["counts"]) fun _ _ _ _ _ _ us hl => match us, hl with | [_], _ => rfl
  have O18 := ok_rooms_of (P := l.prog) (w := w) (K := K) (mg := mg) (base := base) F18 Bl C_room_of
  have C_rooms_of : HM.Cl l.prog w K mg base 3 "rooms_of" (sp_rooms_of K) := ⟨f18, _, _, O18, PySem.W.mg_of X G a18, k18, b18⟩
  have F19 := fun_mk (st := s_bars_of) l19 c19 k19
  have b19 := F19.binds (ps := ["counts"]) fun _ _ _ _ _ _ us hl => match us, hl with | [_], _ => rfl
  have O19 := ok_bars_of (P := l.prog) (w := w) (K := K) (mg := mg) (base := base) F19 Bl C_rooms_of
  have C_bars_of : HM.Cl l.prog w K mg base 4 "bars_of" (sp_bars_of K) := ⟨f19, _, _, O19, PySem.W.mg_of X G a19, k19, b19⟩
  have F20 := fun_mk (st := s_can_be) l20 c20 k20
  have b20 := F20.binds (ps := ["counts"]) fun _ _ _ _ _ _ us hl => match us, hl with | [_], _ => rfl
  have O20 := ok_can_be (P := l.prog) (w := w) (K := K) (mg := mg) (base := base) F20 Bl C_bars_of
  have C_can_be : HM.Cl l.prog w K mg base 5 "can_be" (sp_can_be K) := ⟨f20, _, _, O20, PySem.W.mg_of X G a20, k20, b20⟩
  have F21 := fun_mk (st := s_rooms) l21 c21 k21
  have b21 := F21.binds (ps := ["counts"]) fun _ _ _ _ _ _ us hl => match us, hl with | [_], _ => rfl
  have O21 := ok_rooms (P := l.prog) (w := w) (K := K) (mg := mg) (base := base) F21 Bl C_want_list C_rooms_of
  have C_rooms : HM.Cl l.prog w K mg base 5 "rooms" (sp_rooms K) := ⟨f21, _, _, O21, PySem.W.mg_of X G a21, k21, b21⟩
  have F22 := fun_mk (st := s_bars) l22 c22 k22
  have b22 := F22.binds (ps := ["counts"]) fun _ _ _ _ _ _ us hl => match us, hl with | [_], _ => rfl
  have O22 := ok_bars (P := l.prog) (w := w) (K := K) (mg := mg) (base := base) F22 Bl C_want_list C_bars_of
  have C_bars : HM.Cl l.prog w K mg base 5 "bars" (sp_bars K) := ⟨f22, _, _, O22, PySem.W.mg_of X G a22, k22, b22⟩
  have F23 := fun_mk (st := s_is_possible) l23 c23 k23
  have b23 := F23.binds (ps := ["counts"]) fun _ _ _ _ _ _ us hl => match us, hl with | [_], _ => rfl
  have O23 := ok_is_possible (P := l.prog) (w := w) (K := K) (mg := mg) (base := base) F23 Bl C_want_list C_can_be
  have C_is_possible : HM.Cl l.prog w K mg base 6 "is_possible" (sp_is_possible K) := ⟨f23, _, _, O23, PySem.W.mg_of X G a23, k23, b23⟩
  have F24 := fun_mk (st := s_greatest_others) l24 c24 k24
  have b24 := F24.binds (ps := ["counts", "person"]) fun _ _ _ _ _ _ us hl => match us, hl with | [_, _], _ => rfl
  have O24 := ok_greatest_others (P := l.prog) (w := w) (K := K) (mg := mg) (base := base) F24 Bl
  have C_greatest_others : HM.Cl l.prog w K mg base 1 "greatest_others" (sp_greatest_others K) := ⟨f24, _, _, O24, PySem.W.mg_of X G a24, k24, b24⟩
  have F25 := fun_mk (st := s_less) l25 c25 k25
  have b25 := F25.binds (ps := ["counts", "person", "lot"]) fun _ _ _ _ _ _ us hl => match us, hl with | [_, _, _], _ => rfl
  have O25 := ok_less (P := l.prog) (w := w) (K := K) (mg := mg) (base := base) F25 Bl
  have C_less : HM.Cl l.prog w K mg base 1 "less" (sp_less K) := ⟨f25, _, _, O25, PySem.W.mg_of X G a25, k25, b25⟩
  have F26 := fun_mk (st := s_told_rows) l26 c26 k26
  have b26 := F26.binds (ps := ["counts"]) fun _ _ _ _ _ _ us hl => match us, hl with | [_], _ => rfl
  have O26 := ok_told_rows (P := l.prog) (w := w) (K := K) (mg := mg) (base := base) F26 Bl C_greatest_others C_less
  have C_told_rows : HM.Cl l.prog w K mg base 2 "told_rows" (sp_told_rows K) := ⟨f26, _, _, O26, PySem.W.mg_of X G a26, k26, b26⟩
  have F27 := fun_mk (st := s_web_by) l27 c27 k27
  have b27 := F27.binds (ps := ["counts", "row"]) fun _ _ _ _ _ _ us hl => match us, hl with | [_, _], _ => rfl
  have O27 := ok_web_by (P := l.prog) (w := w) (K := K) (mg := mg) (base := base) F27 Bl ⟨_, PySem.W.mg_of X G q_WEB_WORD, _, rfl⟩ C_pair_of
  have C_web_by : HM.Cl l.prog w K mg base 2 "web_by" (sp_web_by K) := ⟨f27, _, _, O27, PySem.W.mg_of X G a27, k27, b27⟩
  have F28 := fun_mk (st := s_told_web) l28 c28 k28
  have b28 := F28.binds (ps := ["counts"]) fun _ _ _ _ _ _ us hl => match us, hl with | [_], _ => rfl
  have O28 := ok_told_web (P := l.prog) (w := w) (K := K) (mg := mg) (base := base) F28 Bl C_told_rows C_web_by
  have C_told_web : HM.Cl l.prog w K mg base 3 "told_web" (sp_told_web K) := ⟨f28, _, _, O28, PySem.W.mg_of X G a28, k28, b28⟩
  have F29 := fun_mk (st := s_web_of) l29 c29 k29
  have b29 := F29.binds (ps := ["counts"]) fun _ _ _ _ _ _ us hl => match us, hl with | [_], _ => rfl
  have O29 := ok_web_of (P := l.prog) (w := w) (K := K) (mg := mg) (base := base) F29 Bl C_want_list C_told_web
  have C_web_of : HM.Cl l.prog w K mg base 5 "web_of" (sp_web_of K) := ⟨f29, _, _, O29, PySem.W.mg_of X G a29, k29, b29⟩
  have F30 := fun_mk (st := s__law_draw) l30 c30 k30
  have b30 := F30.binds (ps := ["pot", "many"]) fun _ _ _ _ _ _ us hl => match us, hl with | [_, _], _ => rfl
  have O30 := ok__law_draw (P := l.prog) (w := w) (K := K) (mg := mg) (base := base) F30 Bl
  have C__law_draw : HM.Cl l.prog w K mg base 1 "_law_draw" (sp__law_draw K) := ⟨f30, _, _, O30, PySem.W.mg_of X G a30, k30, b30⟩
  have F31 := fun_mk (st := s__law_pot) l31 c31 k31
  have b31 := F31.binds (ps := ["script", "k"]) fun _ _ _ _ _ _ us hl => match us, hl with | [_, _], _ => rfl
  have O31 := ok__law_pot (P := l.prog) (w := w) (K := K) (mg := mg) (base := base) F31 Bl
  have C__law_pot : HM.Cl l.prog w K mg base 1 "_law_pot" (sp__law_pot K) := ⟨f31, _, _, O31, PySem.W.mg_of X G a31, k31, b31⟩
  have F32 := fun_mk (st := s__law_pick) l32 c32 k32
  have b32 := F32.binds (ps := ["pot", "some"]) fun _ _ _ _ _ _ us hl => match us, hl with | [_, _], _ => rfl
  have O32 := ok__law_pick (P := l.prog) (w := w) (K := K) (mg := mg) (base := base) F32 Bl C__law_draw
  have C__law_pick : HM.Cl l.prog w K mg base 2 "_law_pick" (sp__law_pick K) := ⟨f32, _, _, O32, PySem.W.mg_of X G a32, k32, b32⟩
  have F33 := fun_mk (st := s__law_mixed) l33 c33 k33
  have b33 := F33.binds (ps := ["pot", "some"]) fun _ _ _ _ _ _ us hl => match us, hl with | [_, _], _ => rfl
  have O33 := ok__law_mixed (P := l.prog) (w := w) (K := K) (mg := mg) (base := base) F33 Bl C__law_draw
  have C__law_mixed : HM.Cl l.prog w K mg base 2 "_law_mixed" (sp__law_mixed K) := ⟨f33, _, _, O33, PySem.W.mg_of X G a33, k33, b33⟩
  have F34 := fun_mk (st := s__law_pairs) l34 c34 k34
  have b34 := F34.binds (ps := ["persons"]) fun _ _ _ _ _ _ us hl => match us, hl with | [_], _ => rfl
  have O34 := ok__law_pairs (P := l.prog) (w := w) (K := K) (mg := mg) (base := base) F34 Bl
  have C__law_pairs : HM.Cl l.prog w K mg base 1 "_law_pairs" (sp__law_pairs K) := ⟨f34, _, _, O34, PySem.W.mg_of X G a34, k34, b34⟩
  have F35 := fun_mk (st := s__law_counts) l35 c35 k35
  have b35 := F35.binds (ps := ["persons", "pairs"]) fun _ _ _ _ _ _ us hl => match us, hl with | [_, _], _ => rfl
  have O35 := ok__law_counts (P := l.prog) (w := w) (K := K) (mg := mg) (base := base) F35 Bl
  have C__law_counts : HM.Cl l.prog w K mg base 1 "_law_counts" (sp__law_counts K) := ⟨f35, _, _, O35, PySem.W.mg_of X G a35, k35, b35⟩
  have F36 := fun_mk (st := s__law_web) l36 c36 k36
  have b36 := F36.binds (ps := ["pot", "persons"]) fun _ _ _ _ _ _ us hl => match us, hl with | [_, _], _ => rfl
  have O36 := ok__law_web (P := l.prog) (w := w) (K := K) (mg := mg) (base := base) F36 Bl C__law_draw C__law_pairs
  have C__law_web : HM.Cl l.prog w K mg base 2 "_law_web" (sp__law_web K) := ⟨f36, _, _, O36, PySem.W.mg_of X G a36, k36, b36⟩
  have F37 := fun_mk (st := s__law_transfers) l37 c37 k37
  have b37 := F37.binds (ps := ["row"]) fun _ _ _ _ _ _ us hl => match us, hl with | [_], _ => rfl
  have O37 := ok__law_transfers (P := l.prog) (w := w) (K := K) (mg := mg) (base := base) F37 Bl
  have C__law_transfers : HM.Cl l.prog w K mg base 1 "_law_transfers" (sp__law_transfers K) := ⟨f37, _, _, O37, PySem.W.mg_of X G a37, k37, b37⟩
  have F38 := fun_mk (st := s__law_flat) l38 c38 k38
  have b38 := F38.binds (ps := ["total", "persons"]) fun _ _ _ _ _ _ us hl => match us, hl with | [_, _], _ => rfl
  have O38 := ok__law_flat (P := l.prog) (w := w) (K := K) (mg := mg) (base := base) F38 Bl
  have C__law_flat : HM.Cl l.prog w K mg base 1 "_law_flat" (sp__law_flat K) := ⟨f38, _, _, O38, PySem.W.mg_of X G a38, k38, b38⟩
  have F39 := fun_mk (st := s__law_chain_right) l39 c39 k39
  have b39 := F39.binds (ps := ["pot", "counts"]) fun _ _ _ _ _ _ us hl => match us, hl with | [_, _], _ => rfl
  have O39 := ok__law_chain_right (P := l.prog) (w := w) (K := K) (mg := mg) (base := base) F39 Bl C_sorted_down C__law_transfers C__law_flat C_transferred C__law_pick C_is_more_even ⟨f23, _, _, HM.FnG.of O23, PySem.W.mg_of X G a23, k23, kb_mk (ps := ["counts"]) F23 fun _ _ _ _ _ _ us ws hu hw => match us, ws, hu, hw with | [], [_], _, _ => rfl⟩ C_bars C_rooms
  have D__law_chain_right : HM.ClG l.prog w K mg base 7 "_law_chain_right" (sp__law_chain_right K) := ⟨f39, _, _, O39, PySem.W.mg_of X G a39, k39, b39⟩
  have F40 := fun_mk (st := s__law_right) l40 c40 k40
  have b40 := F40.binds (ps := ["pot"]) fun _ _ _ _ _ _ us hl => match us, hl with | [_], _ => rfl
  have O40 := ok__law_right (P := l.prog) (w := w) (K := K) (mg := mg) (base := base) F40 Bl C__law_draw C__law_counts C__law_web D__law_chain_right C_web_of C__law_flat C_is_possible C__law_mixed C__law_pairs ⟨f11, _, _, HM.FnG.of O11, PySem.W.mg_of X G a11, k11, kb_mk (ps := ["counts", "others"]) F11 fun _ _ _ _ _ _ us ws hu hw => match us, ws, hu, hw with | [], [_, _], _, _ => rfl⟩
  have D__law_right : HM.ClG l.prog w K mg base 8 "_law_right" (sp__law_right K) := ⟨f40, _, _, O40, PySem.W.mg_of X G a40, k40, b40⟩
  have F41 := fun_mk (st := s_law) l41 c41 k41
  exact ok_law (P := l.prog) (w := w) (K := K) (mg := mg) (base := base) F41 Bl C__law_pot D__law_right
theorem walk {l : PySem.W.OpenLaw} {q : Program} {loose : List Str} {XP : (Str → Option Value) → Heap → Prop} {YP : World → Heap → Prop} {d : DefRec} {K : Params → PySem.W.Frag} (hn : l.most = some 63) (hdf : d.params.defaults = [])
    (hY : ∀ (w : World) (h : Heap), YP w h → (K w.params).In h)
    (F : ∀ (w : World) (mg : Str → Option Value) (fa : Addr) (h : Heap), (K w.params).In h → h.Ns mainGlobals mg → mg d.name = some (.ref fa) →
      ∃ fd : FuncData, (∀ (s : Shared) (u : Value), BindsTo s fd ⟨[u], []⟩ [("script", u)]) ∧ ∀ base : Heap, (K w.params).In base → base.Ns mainGlobals mg → FnG l.prog w (K w.params) mg base 9 fa fd ["script"] (sp_law (K w.params))) :
    PySem.W.WalkO q loose XP YP l.row.toRowW d [] (fun f vs => PySem.call f vs) :=
  HM.walk_G (n := 63) (k := 9) (x := "script") (sp := fun w => sp_law (K w.params)) hn (by decide) hdf ⟨rfl, by decide, by decide⟩ hY F (fun _ _ a ns hl _ hS => law_sp hS hl)
end
end K35
open PySem PySem.W PyProof.Rows in
set_option maxRecDepth 100000 in
set_option maxHeartbeats 0 in
theorem PySem.Challenge.cw_howmanymet_k35_whole_more_even_lists_sta_holds : PySem.Challenge.rw_howmanymet_k35_whole_more_even_lists_sta.Holds := by
  w_on; o_law; k_head; (case hw => w_witness2)
  k_fill
  refine K35.walk (l := PySem.Challenge.rw_howmanymet_k35_whole_more_even_lists_sta) rfl rfl (fun w h Y => PySem.W.kIn_of Y) ?F
  case F =>
    intro w mg fa h KX G hmg
    refine' K35.all_mk KX G hmg ?a0 ?l0 ?c0 ?k0 ?a1 ?l1 ?c1 ?k1 ?a2 ?l2 ?c2 ?k2 ?a3 ?l3 ?c3 ?k3 ?a4 ?l4 ?c4 ?k4 ?a5 ?l5 ?c5 ?k5 ?a6 ?l6 ?c6 ?k6 ?a7 ?l7 ?c7 ?k7 ?a8 ?l8 ?c8 ?k8 ?a9 ?l9 ?c9 ?k9 ?a10 ?l10 ?c10 ?k10 ?a11 ?l11 ?c11 ?k11 ?a12 ?l12 ?c12 ?k12 ?a13 ?l13 ?c13 ?k13 ?a14 ?l14 ?c14 ?k14 ?a15 ?l15 ?c15 ?k15 ?a16 ?l16 ?c16 ?k16 ?a17 ?l17 ?c17 ?k17 ?a18 ?l18 ?c18 ?k18 ?a19 ?l19 ?c19 ?k19 ?a20 ?l20 ?c20 ?k20 ?a21 ?l21 ?c21 ?k21 ?a22 ?l22 ?c22 ?k22 ?a23 ?l23 ?c23 ?k23 ?a24 ?l24 ?c24 ?k24 ?a25 ?l25 ?c25 ?k25 ?a26 ?l26 ?c26 ?k26 ?a27 ?l27 ?c27 ?k27 ?a28 ?l28 ?c28 ?k28 ?a29 ?l29 ?c29 ?k29 ?a30 ?l30 ?c30 ?k30 ?a31 ?l31 ?c31 ?k31 ?a32 ?l32 ?c32 ?k32 ?a33 ?l33 ?c33 ?k33 ?a34 ?l34 ?c34 ?k34 ?a35 ?l35 ?c35 ?k35 ?a36 ?l36 ?c36 ?k36 ?a37 ?l37 ?c37 ?k37 ?a38 ?l38 ?c38 ?k38 ?a39 ?l39 ?c39 ?k39 ?a40 ?l40 ?c40 ?k40 ?a41 ?l41 ?c41 ?k41 ?q_MOST_PERSONS ?q_MOST_COUNT ?q_WEB_WORD ?z_len ?z_tuple ?z_list ?z_range ?z_max ?z_min ?z_sum ?z_all ?z_any ?z_sorted ?z_int ?z_bool ?z_str ?z_abs ?z_divmod ?z_isinstance ?z_zip ?z_enumerate ?z_repr ?z_set
    (case a0 => k_is)
    (case l0 => k_is)
    (case c0 => k_is)
    (case k0 => k_is)
    (case a1 => k_is)
    (case l1 => k_is)
    (case c1 => k_is)
    (case k1 => k_is)
    (case a2 => k_is)
    (case l2 => k_is)
    (case c2 => k_is)
    (case k2 => k_is)
    (case a3 => k_is)
    (case l3 => k_is)
    (case c3 => k_is)
    (case k3 => k_is)
    (case a4 => k_is)
    (case l4 => k_is)
    (case c4 => k_is)
    (case k4 => k_is)
    (case a5 => k_is)
    (case l5 => k_is)
    (case c5 => k_is)
    (case k5 => k_is)
    (case a6 => k_is)
    (case l6 => k_is)
    (case c6 => k_is)
    (case k6 => k_is)
    (case a7 => k_is)
    (case l7 => k_is)
    (case c7 => k_is)
    (case k7 => k_is)
    (case a8 => k_is)
    (case l8 => k_is)
    (case c8 => k_is)
    (case k8 => k_is)
    (case a9 => k_is)
    (case l9 => k_is)
    (case c9 => k_is)
    (case k9 => k_is)
    (case a10 => k_is)
    (case l10 => k_is)
    (case c10 => k_is)
    (case k10 => k_is)
    (case a11 => k_is)
    (case l11 => k_is)
    (case c11 => k_is)
    (case k11 => k_is)
    (case a12 => k_is)
    (case l12 => k_is)
    (case c12 => k_is)
    (case k12 => k_is)
    (case a13 => k_is)
    (case l13 => k_is)
    (case c13 => k_is)
    (case k13 => k_is)
    (case a14 => k_is)
    (case l14 => k_is)
    (case c14 => k_is)
    (case k14 => k_is)
    (case a15 => k_is)
    (case l15 => k_is)
    (case c15 => k_is)
    (case k15 => k_is)
    (case a16 => k_is)
    (case l16 => k_is)
    (case c16 => k_is)
    (case k16 => k_is)
    (case a17 => k_is)
    (case l17 => k_is)
    (case c17 => k_is)
    (case k17 => k_is)
    (case a18 => k_is)
    (case l18 => k_is)
    (case c18 => k_is)
    (case k18 => k_is)
    (case a19 => k_is)
    (case l19 => k_is)
    (case c19 => k_is)
    (case k19 => k_is)
    (case a20 => k_is)
    (case l20 => k_is)
    (case c20 => k_is)
    (case k20 => k_is)
    (case a21 => k_is)
    (case l21 => k_is)
    (case c21 => k_is)
    (case k21 => k_is)
    (case a22 => k_is)
    (case l22 => k_is)
    (case c22 => k_is)
    (case k22 => k_is)
    (case a23 => k_is)
    (case l23 => k_is)
    (case c23 => k_is)
    (case k23 => k_is)
    (case a24 => k_is)
    (case l24 => k_is)
    (case c24 => k_is)
    (case k24 => k_is)
    (case a25 => k_is)
    (case l25 => k_is)
    (case c25 => k_is)
    (case k25 => k_is)
    (case a26 => k_is)
    (case l26 => k_is)
    (case c26 => k_is)
    (case k26 => k_is)
    (case a27 => k_is)
    (case l27 => k_is)
    (case c27 => k_is)
    (case k27 => k_is)
    (case a28 => k_is)
    (case l28 => k_is)
    (case c28 => k_is)
    (case k28 => k_is)
    (case a29 => k_is)
    (case l29 => k_is)
    (case c29 => k_is)
    (case k29 => k_is)
    (case a30 => k_is)
    (case l30 => k_is)
    (case c30 => k_is)
    (case k30 => k_is)
    (case a31 => k_is)
    (case l31 => k_is)
    (case c31 => k_is)
    (case k31 => k_is)
    (case a32 => k_is)
    (case l32 => k_is)
    (case c32 => k_is)
    (case k32 => k_is)
    (case a33 => k_is)
    (case l33 => k_is)
    (case c33 => k_is)
    (case k33 => k_is)
    (case a34 => k_is)
    (case l34 => k_is)
    (case c34 => k_is)
    (case k34 => k_is)
    (case a35 => k_is)
    (case l35 => k_is)
    (case c35 => k_is)
    (case k35 => k_is)
    (case a36 => k_is)
    (case l36 => k_is)
    (case c36 => k_is)
    (case k36 => k_is)
    (case a37 => k_is)
    (case l37 => k_is)
    (case c37 => k_is)
    (case k37 => k_is)
    (case a38 => k_is)
    (case l38 => k_is)
    (case c38 => k_is)
    (case k38 => k_is)
    (case a39 => k_is)
    (case l39 => k_is)
    (case c39 => k_is)
    (case k39 => k_is)
    (case a40 => k_is)
    (case l40 => k_is)
    (case c40 => k_is)
    (case k40 => k_is)
    (case a41 => k_is)
    (case l41 => k_is)
    (case c41 => k_is)
    (case k41 => k_is)
    (case q_MOST_PERSONS => k_is)
    (case q_MOST_COUNT => k_is)
    (case q_WEB_WORD => k_is)
    (case z_len => k_is)
    (case z_tuple => k_is)
    (case z_list => k_is)
    (case z_range => k_is)
    (case z_max => k_is)
    (case z_min => k_is)
    (case z_sum => k_is)
    (case z_all => k_is)
    (case z_any => k_is)
    (case z_sorted => k_is)
    (case z_int => k_is)
    (case z_bool => k_is)
    (case z_str => k_is)
    (case z_abs => k_is)
    (case z_divmod => k_is)
    (case z_isinstance => k_is)
    (case z_zip => k_is)
    (case z_enumerate => k_is)
    (case z_repr => k_is)
    (case z_set => k_is)
